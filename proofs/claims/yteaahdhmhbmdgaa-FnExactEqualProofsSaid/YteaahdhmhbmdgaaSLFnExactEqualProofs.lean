/- The law FnExactEqualProofs: its code returns true.
   Conditions: as each theorem states. -/
import Derived.Test.YteaahdhmhbmdgaaSB1
set_option linter.unusedVariables false
set_option linter.unusedSimpArgs false
set_option maxRecDepth 100000
namespace Go.Proofs.Yteaahdhmhbmdgaa.Ref
open Go.RowKit Go.Proofs.YteaahdhmhbmdgaaW.PrintWords Go.Proofs.YteaahdhmhbmdgaaW.PrintLast
def N.laws_FnExactEqualProofs : Bool := true

def laws_FnExactEqualProofs {ρ : Type} (k : Bool → Option ρ) (a0 : TProof) (a1 : TProof) : Option ρ := (cond (G.laws_szProof a0 (1048576 : Int)) (cond (decide ((N.laws_szProof a0 (1048576 : Int)) < (0 : Int))) (k true) (cond (G.laws_szProof a1 (N.laws_szProof a0 (1048576 : Int))) (cond (decide ((N.laws_szProof a1 (N.laws_szProof a0 (1048576 : Int))) < (0 : Int))) (k true) (cond (G.laws_toProof a0) (cond (G.laws_toProof a1) (cond (G.laws_toProof a0) (cond (G.laws_toProof a1) (cond ((N.impl_EqualProofs (N.laws_toProof a0) (N.laws_toProof a1)) != (N.spec_EqualProofs (N.laws_toProof a0) (N.laws_toProof a1))) (k false) (cond (G.laws_toProof a0) (cond (!(N.laws_eqProof (N.laws_toProof a0) (N.laws_toProof a0))) (k false) (cond (G.laws_toProof a1) (cond (!(N.laws_eqProof (N.laws_toProof a1) (N.laws_toProof a1))) (k false) (k true)) none)) none)) none) none) none) none)) none)) none)
theorem laws_FnExactEqualProofs_ok {ρ : Type} (k : Bool → Option ρ) (a0 : TProof) (a1 : TProof) (l_a0 : (True ∧ lnL (fun _ => True) a0.2)) (l_a1 : (True ∧ lnL (fun _ => True) a1.2)) (o_a0 : ((Lit.int .i64 a0.1).wf = true ∧ (a0.2.length ≤ maxLen ∧ ∀ y0, List.Mem y0 a0.2 → (Lit.int .i64 y0).wf = true))) (o_a1 : ((Lit.int .i64 a1.1).wf = true ∧ (a1.2.length ≤ maxLen ∧ ∀ y0, List.Mem y0 a1.2 → (Lit.int .i64 y0).wf = true))) : laws_FnExactEqualProofs k  a0 a1 = k true := by
  have g0 : gL 1048576 = true := by decide
  simp only [laws_FnExactEqualProofs, N.laws_szProof, G.laws_szProof, N.laws_toProof, G.laws_toProof, N.spec_EqualProofs, N.impl_EqualProofs, N.laws_eqProof, g0, Bool.true_and, Bool.and_true, Bool.and_self, cond_true]
  by_cases h_a0 : sub1 (wPr a0) 1048576 < 0
  · simp [h_a0]
  have g_a0 := gL_of (w := wPr a0) g0 h_a0
  have r_a0 := (sub1_range (of_decide_eq_true ((Bool.and_eq_true _ _).mp g0).1) (of_decide_eq_true ((Bool.and_eq_true _ _).mp g0).2) h_a0).2.2
  have e_a0 : decide (sub1 (wPr a0) 1048576 < 0) = false := decide_eq_false h_a0
  by_cases h_a1 : sub1 (wPr a1) (sub1 (wPr a0) 1048576) < 0
  · simp [h_a1, e_a0, g_a0, r_a0]
  have g_a1 := gL_of (w := wPr a1) g_a0 h_a1
  have r_a1 := (sub1_range (of_decide_eq_true ((Bool.and_eq_true _ _).mp g_a0).1) (of_decide_eq_true ((Bool.and_eq_true _ _).mp g_a0).2) h_a1).2.2
  have e_a1 : decide (sub1 (wPr a1) (sub1 (wPr a0) 1048576) < 0) = false := decide_eq_false h_a1
  simp only [e_a0, g_a0, r_a0, e_a1, g_a1, r_a1, Bool.true_and, Bool.and_true, Bool.and_self, cond_true, cond_false, bne_self_eq_false, decide_true, Bool.not_true, eqStr_refl, eqInts_refl, eqStrs_refl, eqSig_refl, eqSigs_refl, eqKeys_refl, eqEntry_refl, eqEntries_refl, eqProof_refl, eqGap_refl, eqHead_refl, eqSigned_refl, eqSignedS_refl]

def O_laws_FnExactEqualProofs : Orac := (orcX 13 [.val (.pair (.int .i64) (.slice 3 (.int .i64))), .val (.pair (.int .i64) (.slice 3 (.int .i64)))] (fun d => true) (fun d => [⟨.bool, N.laws_eqProof d.1 d.2.1⟩]) (orcX 12 [.val (.pair (.int .i64) (.slice 3 (.int .i64))), .val (.pair (.int .i64) (.slice 3 (.int .i64)))] (fun d => true) (fun d => [⟨.bool, N.impl_EqualProofs d.1 d.2.1⟩]) (orcX 10 [.val (.pair (.int .i64) (.slice 3 (.int .i64))), .val (.pair (.int .i64) (.slice 3 (.int .i64)))] (fun d => true) (fun d => [⟨.bool, N.spec_EqualProofs d.1 d.2.1⟩]) (orcX 11 [.val (.pair (.int .i64) (.slice 3 (.int .i64)))] (fun d => G.laws_toProof d.1) (fun d => [⟨(.pair (.int .i64) (.slice 3 (.int .i64))), N.laws_toProof d.1⟩]) (orcX 9 [.val (.pair (.int .i64) (.slice 3 (.int .i64))), .val (.int .i64)] (fun d => G.laws_szProof d.1 d.2.1) (fun d => [⟨(.int .i64), N.laws_szProof d.1 d.2.1⟩]) nilO)))))
theorem ok_laws_FnExactEqualProofs : OracOk Try.prog sigs O_laws_FnExactEqualProofs := (orcX_ok rfl (fun d g => said_laws_eqProof d.1 d.2.1) (orcX_ok rfl (fun d g => said_impl_EqualProofs d.1 d.2.1) (orcX_ok rfl (fun d g => said_spec_EqualProofs d.1 d.2.1) (orcX_ok rfl (fun d g => said_laws_toProof d.1 g) (orcX_ok rfl (fun d g => said_laws_szProof d.1 d.2.1 g) nilO_ok)))))
def A_laws_FnExactEqualProofs : Ann := fun b => ⟨[], []⟩
theorem a_laws_FnExactEqualProofs (n : Nat) (a0 : TProof) (a1 : TProof) : absF tab sigs O_laws_FnExactEqualProofs A_laws_FnExactEqualProofs Try.f3 [(.bool, .no)] n [.val (.pair (.int .i64) (.slice 3 (.int .i64))) a0, .val (.pair (.int .i64) (.slice 3 (.int .i64))) a1] = laws_FnExactEqualProofs (fun r0 => some [⟨.bool, r0⟩])  a0 a1 := by kernel_rfl
theorem said_laws_FnExactEqualProofs (a0 : TProof) (a1 : TProof) (o_a0 : okT (.pair (.int .i64) (.slice 3 (.int .i64))) a0) (o_a1 : okT (.pair (.int .i64) (.slice 3 (.int .i64))) a1) : Said Try.prog sigs_3 3 [.val (.pair (.int .i64) (.slice 3 (.int .i64))) a0, .val (.pair (.int .i64) (.slice 3 (.int .i64))) a1] [⟨.bool, true⟩] := said_len (T := tab) (A := A_laws_FnExactEqualProofs) tabOk ok_laws_FnExactEqualProofs tabOk.follows Try.func3 (by kernel_rfl) (by kernel_rfl) (fun hl => ⟨0, (a_laws_FnExactEqualProofs 0 a0 a1).trans (laws_FnExactEqualProofs_ok (ρ := Ret) (fun r0 => some [⟨.bool, r0⟩]) a0 a1 hl.1 hl.2.1 o_a0 o_a1)⟩)
end Go.Proofs.Yteaahdhmhbmdgaa.Ref
