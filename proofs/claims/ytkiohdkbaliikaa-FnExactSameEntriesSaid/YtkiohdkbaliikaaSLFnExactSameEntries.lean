/- The law FnExactSameEntries: its code returns true.
   Conditions: as each theorem states. -/
import Derived.Test.YtkiohdkbaliikaaSB0
set_option linter.unusedVariables false
set_option linter.unusedSimpArgs false
set_option maxRecDepth 100000
namespace Go.Proofs.Ytkiohdkbaliikaa.Ref
open Go.RowKit Go.Proofs.YtkiohdkbaliikaaW.PrintWords Go.Proofs.YtkiohdkbaliikaaW.PrintLast
def N.laws_FnExactSameEntries : Bool := true

def laws_FnExactSameEntries {ρ : Type} (k : Bool → Option ρ) (a0 : (List TEntry)) (a1 : (List TEntry)) : Option ρ := (cond (G.laws_szEntryS a0 (1048576 : Int)) (cond (decide ((N.laws_szEntryS a0 (1048576 : Int)) < (0 : Int))) (k true) (cond (G.laws_szEntryS a1 (N.laws_szEntryS a0 (1048576 : Int))) (cond (decide ((N.laws_szEntryS a1 (N.laws_szEntryS a0 (1048576 : Int))) < (0 : Int))) (k true) (cond (G.laws_toEntryS a0) (cond (G.laws_toEntryS a1) (cond (G.laws_toEntryS a0) (cond (G.laws_toEntryS a1) (cond ((N.impl_SameEntries (N.laws_toEntryS a0) (N.laws_toEntryS a1)) != (N.spec_SameEntries (N.laws_toEntryS a0) (N.laws_toEntryS a1))) (k false) (cond (G.laws_toEntryS a0) (cond (!(N.laws_eqEntryS (N.laws_toEntryS a0) (N.laws_toEntryS a0))) (k false) (cond (G.laws_toEntryS a1) (cond (!(N.laws_eqEntryS (N.laws_toEntryS a1) (N.laws_toEntryS a1))) (k false) (k true)) none)) none)) none) none) none) none)) none)) none)
theorem laws_FnExactSameEntries_ok {ρ : Type} (k : Bool → Option ρ) (a0 : (List TEntry)) (a1 : (List TEntry)) (l_a0 : lnL (fun y => (True ∧ (True ∧ (True ∧ lnL (fun _ => True) y.2.2.2)))) a0) (l_a1 : lnL (fun y => (True ∧ (True ∧ (True ∧ lnL (fun _ => True) y.2.2.2)))) a1) (o_a0 : (a0.length ≤ maxLen ∧ ∀ y0, List.Mem y0 a0 → (y0.1.size ≤ maxLen ∧ ((Lit.int .i64 y0.2.1).wf = true ∧ ((Lit.int .i64 y0.2.2.1).wf = true ∧ (y0.2.2.2.length ≤ maxLen ∧ ∀ y1, List.Mem y1 y0.2.2.2 → y1.size ≤ maxLen)))))) (o_a1 : (a1.length ≤ maxLen ∧ ∀ y0, List.Mem y0 a1 → (y0.1.size ≤ maxLen ∧ ((Lit.int .i64 y0.2.1).wf = true ∧ ((Lit.int .i64 y0.2.2.1).wf = true ∧ (y0.2.2.2.length ≤ maxLen ∧ ∀ y1, List.Mem y1 y0.2.2.2 → y1.size ≤ maxLen)))))) : laws_FnExactSameEntries k  a0 a1 = k true := by
  have g0 : gL 1048576 = true := by decide
  have b_a0 := bEs_of o_a0
  have b_a1 := bEs_of o_a1
  simp only [laws_FnExactSameEntries, N.laws_szEntryS, G.laws_szEntryS, N.laws_toEntryS, G.laws_toEntryS, N.spec_SameEntries, N.impl_SameEntries, N.laws_eqEntryS, g0, b_a0, b_a1, Bool.true_and, Bool.and_true, Bool.and_self, cond_true]
  by_cases h_a0 : sub1 (wEs a0) 1048576 < 0
  · simp [h_a0]
  have g_a0 := gL_of (w := wEs a0) g0 h_a0
  have r_a0 := (sub1_range (of_decide_eq_true ((Bool.and_eq_true _ _).mp g0).1) (of_decide_eq_true ((Bool.and_eq_true _ _).mp g0).2) h_a0).2.2
  have e_a0 : decide (sub1 (wEs a0) 1048576 < 0) = false := decide_eq_false h_a0
  by_cases h_a1 : sub1 (wEs a1) (sub1 (wEs a0) 1048576) < 0
  · simp [h_a1, e_a0, g_a0, r_a0]
  have g_a1 := gL_of (w := wEs a1) g_a0 h_a1
  have r_a1 := (sub1_range (of_decide_eq_true ((Bool.and_eq_true _ _).mp g_a0).1) (of_decide_eq_true ((Bool.and_eq_true _ _).mp g_a0).2) h_a1).2.2
  have e_a1 : decide (sub1 (wEs a1) (sub1 (wEs a0) 1048576) < 0) = false := decide_eq_false h_a1
  simp only [e_a0, g_a0, r_a0, e_a1, g_a1, r_a1, Bool.true_and, Bool.and_true, Bool.and_self, cond_true, cond_false, bne_self_eq_false, decide_true, Bool.not_true, eqStr_refl, eqInts_refl, eqStrs_refl, eqSig_refl, eqSigs_refl, eqKeys_refl, eqEntry_refl, eqEntries_refl, eqProof_refl, eqGap_refl, eqHead_refl, eqSigned_refl, eqSignedS_refl]

def O_laws_FnExactSameEntries : Orac := (orcX 26 [.val (.slice 27 (.pair .str (.pair (.int .i64) (.pair (.int .i64) (.slice 9 .str))))), .val (.slice 27 (.pair .str (.pair (.int .i64) (.pair (.int .i64) (.slice 9 .str)))))] (fun d => true) (fun d => [⟨.bool, N.laws_eqEntryS d.1 d.2.1⟩]) (orcX 34 [.val (.slice 27 (.pair .str (.pair (.int .i64) (.pair (.int .i64) (.slice 9 .str))))), .val (.slice 27 (.pair .str (.pair (.int .i64) (.pair (.int .i64) (.slice 9 .str)))))] (fun d => true) (fun d => [⟨.bool, N.impl_SameEntries d.1 d.2.1⟩]) (orcX 33 [.val (.slice 27 (.pair .str (.pair (.int .i64) (.pair (.int .i64) (.slice 9 .str))))), .val (.slice 27 (.pair .str (.pair (.int .i64) (.pair (.int .i64) (.slice 9 .str)))))] (fun d => true) (fun d => [⟨.bool, N.spec_SameEntries d.1 d.2.1⟩]) (orcX 24 [.val (.slice 24 (.pair .str (.pair (.int .i64) (.pair (.int .i64) (.slice 9 .str)))))] (fun d => G.laws_toEntryS d.1) (fun d => [⟨(.slice 27 (.pair .str (.pair (.int .i64) (.pair (.int .i64) (.slice 9 .str))))), N.laws_toEntryS d.1⟩]) (orcX 22 [.val (.slice 24 (.pair .str (.pair (.int .i64) (.pair (.int .i64) (.slice 9 .str))))), .val (.int .i64)] (fun d => G.laws_szEntryS d.1 d.2.1) (fun d => [⟨(.int .i64), N.laws_szEntryS d.1 d.2.1⟩]) nilO)))))
theorem ok_laws_FnExactSameEntries : OracOk Try.prog sigs O_laws_FnExactSameEntries := (orcX_ok rfl (fun d g => said_laws_eqEntryS d.1 d.2.1) (orcX_ok rfl (fun d g => said_impl_SameEntries d.1 d.2.1) (orcX_ok rfl (fun d g => said_spec_SameEntries d.1 d.2.1) (orcX_ok rfl (fun d g => said_laws_toEntryS d.1 g) (orcX_ok rfl (fun d g => said_laws_szEntryS d.1 d.2.1 g) nilO_ok)))))
def A_laws_FnExactSameEntries : Ann := fun b => ⟨[], []⟩
theorem a_laws_FnExactSameEntries (n : Nat) (a0 : (List TEntry)) (a1 : (List TEntry)) : absF tab sigs O_laws_FnExactSameEntries A_laws_FnExactSameEntries Try.f8 [(.bool, .no)] n [.val (.slice 24 (.pair .str (.pair (.int .i64) (.pair (.int .i64) (.slice 9 .str))))) a0, .val (.slice 24 (.pair .str (.pair (.int .i64) (.pair (.int .i64) (.slice 9 .str))))) a1] = laws_FnExactSameEntries (fun r0 => some [⟨.bool, r0⟩])  a0 a1 := by kernel_rfl
theorem said_laws_FnExactSameEntries (a0 : (List TEntry)) (a1 : (List TEntry)) (o_a0 : okT (.slice 24 (.pair .str (.pair (.int .i64) (.pair (.int .i64) (.slice 9 .str))))) a0) (o_a1 : okT (.slice 24 (.pair .str (.pair (.int .i64) (.pair (.int .i64) (.slice 9 .str))))) a1) : Said Try.prog sigs_8 8 [.val (.slice 24 (.pair .str (.pair (.int .i64) (.pair (.int .i64) (.slice 9 .str))))) a0, .val (.slice 24 (.pair .str (.pair (.int .i64) (.pair (.int .i64) (.slice 9 .str))))) a1] [⟨.bool, true⟩] := said_len (T := tab) (A := A_laws_FnExactSameEntries) tabOk ok_laws_FnExactSameEntries tabOk.follows Try.func8 (by kernel_rfl) (by kernel_rfl) (fun hl => ⟨0, (a_laws_FnExactSameEntries 0 a0 a1).trans (laws_FnExactSameEntries_ok (ρ := Ret) (fun r0 => some [⟨.bool, r0⟩]) a0 a1 hl.1 hl.2.1 o_a0 o_a1)⟩)
end Go.Proofs.Ytkiohdkbaliikaa.Ref
