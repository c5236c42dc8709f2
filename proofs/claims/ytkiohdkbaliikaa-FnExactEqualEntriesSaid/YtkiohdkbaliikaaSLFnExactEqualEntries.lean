/- The law FnExactEqualEntries: its code returns true.
   Conditions: as each theorem states. -/
import Derived.Test.YtkiohdkbaliikaaSB0
set_option linter.unusedVariables false
set_option linter.unusedSimpArgs false
set_option maxRecDepth 100000
namespace Go.Proofs.Ytkiohdkbaliikaa.Ref
open Go.RowKit Go.Proofs.YtkiohdkbaliikaaW.PrintWords Go.Proofs.YtkiohdkbaliikaaW.PrintLast
def N.laws_FnExactEqualEntries : Bool := true

def laws_FnExactEqualEntries {ρ : Type} (k : Bool → Option ρ) (a0 : TEntry) (a1 : TEntry) : Option ρ := (cond (G.laws_szEntry a0 (1048576 : Int)) (cond (decide ((N.laws_szEntry a0 (1048576 : Int)) < (0 : Int))) (k true) (cond (G.laws_szEntry a1 (N.laws_szEntry a0 (1048576 : Int))) (cond (decide ((N.laws_szEntry a1 (N.laws_szEntry a0 (1048576 : Int))) < (0 : Int))) (k true) (cond (G.laws_toEntry a0) (cond (G.laws_toEntry a1) (cond (G.laws_toEntry a0) (cond (G.laws_toEntry a1) (cond ((N.impl_EqualEntries (N.laws_toEntry a0) (N.laws_toEntry a1)) != (N.spec_EqualEntries (N.laws_toEntry a0) (N.laws_toEntry a1))) (k false) (cond (G.laws_toEntry a0) (cond (!(N.laws_eqEntry (N.laws_toEntry a0) (N.laws_toEntry a0))) (k false) (cond (G.laws_toEntry a1) (cond (!(N.laws_eqEntry (N.laws_toEntry a1) (N.laws_toEntry a1))) (k false) (k true)) none)) none)) none) none) none) none)) none)) none)
theorem laws_FnExactEqualEntries_ok {ρ : Type} (k : Bool → Option ρ) (a0 : TEntry) (a1 : TEntry) (l_a0 : (True ∧ (True ∧ (True ∧ lnL (fun _ => True) a0.2.2.2)))) (l_a1 : (True ∧ (True ∧ (True ∧ lnL (fun _ => True) a1.2.2.2)))) (o_a0 : (a0.1.size ≤ maxLen ∧ ((Lit.int .i64 a0.2.1).wf = true ∧ ((Lit.int .i64 a0.2.2.1).wf = true ∧ (a0.2.2.2.length ≤ maxLen ∧ ∀ y0, List.Mem y0 a0.2.2.2 → y0.size ≤ maxLen))))) (o_a1 : (a1.1.size ≤ maxLen ∧ ((Lit.int .i64 a1.2.1).wf = true ∧ ((Lit.int .i64 a1.2.2.1).wf = true ∧ (a1.2.2.2.length ≤ maxLen ∧ ∀ y0, List.Mem y0 a1.2.2.2 → y0.size ≤ maxLen))))) : laws_FnExactEqualEntries k  a0 a1 = k true := by
  have g0 : gL 1048576 = true := by decide
  have b_a0 := bE_of o_a0
  have b_a1 := bE_of o_a1
  simp only [laws_FnExactEqualEntries, N.laws_szEntry, G.laws_szEntry, N.laws_toEntry, G.laws_toEntry, N.spec_EqualEntries, N.impl_EqualEntries, N.laws_eqEntry, g0, b_a0, b_a1, Bool.true_and, Bool.and_true, Bool.and_self, cond_true]
  by_cases h_a0 : sub1 (wE a0) 1048576 < 0
  · simp [h_a0]
  have g_a0 := gL_of (w := wE a0) g0 h_a0
  have r_a0 := (sub1_range (of_decide_eq_true ((Bool.and_eq_true _ _).mp g0).1) (of_decide_eq_true ((Bool.and_eq_true _ _).mp g0).2) h_a0).2.2
  have e_a0 : decide (sub1 (wE a0) 1048576 < 0) = false := decide_eq_false h_a0
  by_cases h_a1 : sub1 (wE a1) (sub1 (wE a0) 1048576) < 0
  · simp [h_a1, e_a0, g_a0, r_a0]
  have g_a1 := gL_of (w := wE a1) g_a0 h_a1
  have r_a1 := (sub1_range (of_decide_eq_true ((Bool.and_eq_true _ _).mp g_a0).1) (of_decide_eq_true ((Bool.and_eq_true _ _).mp g_a0).2) h_a1).2.2
  have e_a1 : decide (sub1 (wE a1) (sub1 (wE a0) 1048576) < 0) = false := decide_eq_false h_a1
  simp only [e_a0, g_a0, r_a0, e_a1, g_a1, r_a1, Bool.true_and, Bool.and_true, Bool.and_self, cond_true, cond_false, bne_self_eq_false, decide_true, Bool.not_true, eqStr_refl, eqInts_refl, eqStrs_refl, eqSig_refl, eqSigs_refl, eqKeys_refl, eqEntry_refl, eqEntries_refl, eqProof_refl, eqGap_refl, eqHead_refl, eqSigned_refl, eqSignedS_refl]

def O_laws_FnExactEqualEntries : Orac := (orcX 13 [.val (.pair .str (.pair (.int .i64) (.pair (.int .i64) (.slice 9 .str)))), .val (.pair .str (.pair (.int .i64) (.pair (.int .i64) (.slice 9 .str))))] (fun d => true) (fun d => [⟨.bool, N.laws_eqEntry d.1 d.2.1⟩]) (orcX 12 [.val (.pair .str (.pair (.int .i64) (.pair (.int .i64) (.slice 9 .str)))), .val (.pair .str (.pair (.int .i64) (.pair (.int .i64) (.slice 9 .str))))] (fun d => true) (fun d => [⟨.bool, N.impl_EqualEntries d.1 d.2.1⟩]) (orcX 10 [.val (.pair .str (.pair (.int .i64) (.pair (.int .i64) (.slice 9 .str)))), .val (.pair .str (.pair (.int .i64) (.pair (.int .i64) (.slice 9 .str))))] (fun d => true) (fun d => [⟨.bool, N.spec_EqualEntries d.1 d.2.1⟩]) (orcX 11 [.val (.pair .str (.pair (.int .i64) (.pair (.int .i64) (.slice 9 .str))))] (fun d => G.laws_toEntry d.1) (fun d => [⟨(.pair .str (.pair (.int .i64) (.pair (.int .i64) (.slice 9 .str)))), N.laws_toEntry d.1⟩]) (orcX 9 [.val (.pair .str (.pair (.int .i64) (.pair (.int .i64) (.slice 9 .str)))), .val (.int .i64)] (fun d => G.laws_szEntry d.1 d.2.1) (fun d => [⟨(.int .i64), N.laws_szEntry d.1 d.2.1⟩]) nilO)))))
theorem ok_laws_FnExactEqualEntries : OracOk Try.prog sigs O_laws_FnExactEqualEntries := (orcX_ok rfl (fun d g => said_laws_eqEntry d.1 d.2.1) (orcX_ok rfl (fun d g => said_impl_EqualEntries d.1 d.2.1) (orcX_ok rfl (fun d g => said_spec_EqualEntries d.1 d.2.1) (orcX_ok rfl (fun d g => said_laws_toEntry d.1 g) (orcX_ok rfl (fun d g => said_laws_szEntry d.1 d.2.1 g) nilO_ok)))))
def A_laws_FnExactEqualEntries : Ann := fun b => ⟨[], []⟩
theorem a_laws_FnExactEqualEntries (n : Nat) (a0 : TEntry) (a1 : TEntry) : absF tab sigs O_laws_FnExactEqualEntries A_laws_FnExactEqualEntries Try.f3 [(.bool, .no)] n [.val (.pair .str (.pair (.int .i64) (.pair (.int .i64) (.slice 9 .str)))) a0, .val (.pair .str (.pair (.int .i64) (.pair (.int .i64) (.slice 9 .str)))) a1] = laws_FnExactEqualEntries (fun r0 => some [⟨.bool, r0⟩])  a0 a1 := by kernel_rfl
theorem said_laws_FnExactEqualEntries (a0 : TEntry) (a1 : TEntry) (o_a0 : okT (.pair .str (.pair (.int .i64) (.pair (.int .i64) (.slice 9 .str)))) a0) (o_a1 : okT (.pair .str (.pair (.int .i64) (.pair (.int .i64) (.slice 9 .str)))) a1) : Said Try.prog sigs_3 3 [.val (.pair .str (.pair (.int .i64) (.pair (.int .i64) (.slice 9 .str)))) a0, .val (.pair .str (.pair (.int .i64) (.pair (.int .i64) (.slice 9 .str)))) a1] [⟨.bool, true⟩] := said_len (T := tab) (A := A_laws_FnExactEqualEntries) tabOk ok_laws_FnExactEqualEntries tabOk.follows Try.func3 (by kernel_rfl) (by kernel_rfl) (fun hl => ⟨0, (a_laws_FnExactEqualEntries 0 a0 a1).trans (laws_FnExactEqualEntries_ok (ρ := Ret) (fun r0 => some [⟨.bool, r0⟩]) a0 a1 hl.1 hl.2.1 o_a0 o_a1)⟩)
end Go.Proofs.Ytkiohdkbaliikaa.Ref
