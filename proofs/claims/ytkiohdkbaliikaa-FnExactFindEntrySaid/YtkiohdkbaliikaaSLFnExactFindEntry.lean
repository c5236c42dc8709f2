/- The law FnExactFindEntry: its code returns true.
   Conditions: as each theorem states. -/
import Derived.Test.YtkiohdkbaliikaaSB0
set_option linter.unusedVariables false
set_option linter.unusedSimpArgs false
set_option maxRecDepth 100000
namespace Go.Proofs.Ytkiohdkbaliikaa.Ref
open Go.RowKit Go.Proofs.YtkiohdkbaliikaaW.PrintWords Go.Proofs.YtkiohdkbaliikaaW.PrintLast
def N.laws_FnExactFindEntry : Bool := true

def laws_FnExactFindEntry {ρ : Type} (k : Bool → Option ρ) (a0 : (List TEntry)) (a1 : ByteArray) : Option ρ := (cond (decide ((ByteArray.size a1 : Int) > (1048576 : Int))) (k true) (cond (G.laws_szEntryS a0 (1048576 : Int)) (cond (decide ((N.laws_szEntryS a0 (1048576 : Int)) < (0 : Int))) (k true) (cond (G.laws_toEntryS a0) (cond (G.laws_toEntryS a0) (cond ((N.impl_FindEntry (N.laws_toEntryS a0) a1) != (N.spec_FindEntry (N.laws_toEntryS a0) a1)) (k false) (cond (G.laws_toEntryS a0) (cond (!(N.laws_eqEntryS (N.laws_toEntryS a0) (N.laws_toEntryS a0))) (k false) (k true)) none)) none) none)) none))
theorem laws_FnExactFindEntry_ok {ρ : Type} (k : Bool → Option ρ) (a0 : (List TEntry)) (a1 : ByteArray) (l_a0 : lnL (fun y => (True ∧ (True ∧ (True ∧ lnL (fun _ => True) y.2.2.2)))) a0) (o_a0 : (a0.length ≤ maxLen ∧ ∀ y0, List.Mem y0 a0 → (y0.1.size ≤ maxLen ∧ ((Lit.int .i64 y0.2.1).wf = true ∧ ((Lit.int .i64 y0.2.2.1).wf = true ∧ (y0.2.2.2.length ≤ maxLen ∧ ∀ y1, List.Mem y1 y0.2.2.2 → y1.size ≤ maxLen)))))) (o_a1 : a1.size ≤ maxLen) : laws_FnExactFindEntry k  a0 a1 = k true := by
  have g0 : gL 1048576 = true := by decide
  have b_a0 := bEs_of o_a0
  simp only [laws_FnExactFindEntry, N.laws_szEntryS, G.laws_szEntryS, N.laws_toEntryS, G.laws_toEntryS, N.spec_FindEntry, N.impl_FindEntry, N.laws_eqEntryS, g0, b_a0, Bool.true_and, Bool.and_true, Bool.and_self, cond_true]
  by_cases h_a1 : (a1.size : Int) > 1048576
  · simp [h_a1]
  have w_a1 : a1.size ≤ 1048576 := by omega
  have c_a1 : decide ((a1.size : Int) > 1048576) = false := decide_eq_false h_a1
  by_cases h_a0 : sub1 (wEs a0) 1048576 < 0
  · simp [h_a0, c_a1, w_a1]
  have g_a0 := gL_of (w := wEs a0) g0 h_a0
  have r_a0 := (sub1_range (of_decide_eq_true ((Bool.and_eq_true _ _).mp g0).1) (of_decide_eq_true ((Bool.and_eq_true _ _).mp g0).2) h_a0).2.2
  have e_a0 : decide (sub1 (wEs a0) 1048576 < 0) = false := decide_eq_false h_a0
  simp only [c_a1, w_a1, e_a0, g_a0, r_a0, Bool.true_and, Bool.and_true, Bool.and_self, cond_true, cond_false, bne_self_eq_false, decide_true, Bool.not_true, eqStr_refl, eqInts_refl, eqStrs_refl, eqSig_refl, eqSigs_refl, eqKeys_refl, eqEntry_refl, eqEntries_refl, eqProof_refl, eqGap_refl, eqHead_refl, eqSigned_refl, eqSignedS_refl]

def O_laws_FnExactFindEntry : Orac := (orcX 26 [.val (.slice 27 (.pair .str (.pair (.int .i64) (.pair (.int .i64) (.slice 9 .str))))), .val (.slice 27 (.pair .str (.pair (.int .i64) (.pair (.int .i64) (.slice 9 .str)))))] (fun d => true) (fun d => [⟨.bool, N.laws_eqEntryS d.1 d.2.1⟩]) (orcX 25 [.val (.slice 27 (.pair .str (.pair (.int .i64) (.pair (.int .i64) (.slice 9 .str))))), .val .str] (fun d => true) (fun d => [⟨(.int .i64), N.impl_FindEntry d.1 d.2.1⟩]) (orcX 23 [.val (.slice 27 (.pair .str (.pair (.int .i64) (.pair (.int .i64) (.slice 9 .str))))), .val .str] (fun d => true) (fun d => [⟨(.int .i64), N.spec_FindEntry d.1 d.2.1⟩]) (orcX 24 [.val (.slice 24 (.pair .str (.pair (.int .i64) (.pair (.int .i64) (.slice 9 .str)))))] (fun d => G.laws_toEntryS d.1) (fun d => [⟨(.slice 27 (.pair .str (.pair (.int .i64) (.pair (.int .i64) (.slice 9 .str))))), N.laws_toEntryS d.1⟩]) (orcX 22 [.val (.slice 24 (.pair .str (.pair (.int .i64) (.pair (.int .i64) (.slice 9 .str))))), .val (.int .i64)] (fun d => G.laws_szEntryS d.1 d.2.1) (fun d => [⟨(.int .i64), N.laws_szEntryS d.1 d.2.1⟩]) nilO)))))
theorem ok_laws_FnExactFindEntry : OracOk Try.prog sigs O_laws_FnExactFindEntry := (orcX_ok rfl (fun d g => said_laws_eqEntryS d.1 d.2.1) (orcX_ok rfl (fun d g => said_impl_FindEntry d.1 d.2.1) (orcX_ok rfl (fun d g => said_spec_FindEntry d.1 d.2.1) (orcX_ok rfl (fun d g => said_laws_toEntryS d.1 g) (orcX_ok rfl (fun d g => said_laws_szEntryS d.1 d.2.1 g) nilO_ok)))))
def A_laws_FnExactFindEntry : Ann := fun b => ⟨[], []⟩
theorem a_laws_FnExactFindEntry (n : Nat) (a0 : (List TEntry)) (a1 : ByteArray) : absF tab sigs O_laws_FnExactFindEntry A_laws_FnExactFindEntry Try.f5 [(.bool, .no)] n [.val (.slice 24 (.pair .str (.pair (.int .i64) (.pair (.int .i64) (.slice 9 .str))))) a0, .val .str a1] = laws_FnExactFindEntry (fun r0 => some [⟨.bool, r0⟩])  a0 a1 := by kernel_rfl
theorem said_laws_FnExactFindEntry (a0 : (List TEntry)) (a1 : ByteArray) (o_a0 : okT (.slice 24 (.pair .str (.pair (.int .i64) (.pair (.int .i64) (.slice 9 .str))))) a0) (o_a1 : okT .str a1) : Said Try.prog sigs_5 5 [.val (.slice 24 (.pair .str (.pair (.int .i64) (.pair (.int .i64) (.slice 9 .str))))) a0, .val .str a1] [⟨.bool, true⟩] := said_len (T := tab) (A := A_laws_FnExactFindEntry) tabOk ok_laws_FnExactFindEntry tabOk.follows Try.func5 (by kernel_rfl) (by kernel_rfl) (fun hl => ⟨0, (a_laws_FnExactFindEntry 0 a0 a1).trans (laws_FnExactFindEntry_ok (ρ := Ret) (fun r0 => some [⟨.bool, r0⟩]) a0 a1 hl.1 o_a0 o_a1)⟩)
end Go.Proofs.Ytkiohdkbaliikaa.Ref
