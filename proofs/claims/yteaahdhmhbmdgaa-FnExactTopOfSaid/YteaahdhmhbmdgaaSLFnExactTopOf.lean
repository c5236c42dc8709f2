/- The law FnExactTopOf: its code returns true.
   Conditions: as each theorem states. -/
import Derived.Test.YteaahdhmhbmdgaaSB1
set_option linter.unusedVariables false
set_option linter.unusedSimpArgs false
set_option maxRecDepth 100000
namespace Go.Proofs.Yteaahdhmhbmdgaa.Ref
open Go.RowKit Go.Proofs.YteaahdhmhbmdgaaW.PrintWords Go.Proofs.YteaahdhmhbmdgaaW.PrintLast
def N.laws_FnExactTopOf : Bool := true

def laws_FnExactTopOf {ρ : Type} (k : Bool → Option ρ) (a0 : (List Int)) : Option ρ := (cond (decide ((List.length a0 : Int) > (1048576 : Int))) (k true) (cond (G.laws_toIntS a0) (cond (G.spec_TopOf (N.laws_toIntS a0)) (cond (G.laws_toIntS a0) (cond (G.impl_TopOf (N.laws_toIntS a0)) (cond ((N.impl_TopOf (N.laws_toIntS a0)) != (N.spec_TopOf (N.laws_toIntS a0))) (k false) (cond (G.laws_toIntS a0) (cond (!(N.laws_eqIntS (N.laws_toIntS a0) (N.laws_toIntS a0))) (k false) (k true)) none)) none) none) none) none))
theorem laws_FnExactTopOf_ok {ρ : Type} (k : Bool → Option ρ) (a0 : (List Int)) (l_a0 : lnL (fun _ => True) a0) (o_a0 : (a0.length ≤ maxLen ∧ ∀ y0, List.Mem y0 a0 → (Lit.int .i64 y0).wf = true)) : laws_FnExactTopOf k  a0 = k true := by
  have g0 : gL 1048576 = true := by decide
  simp only [laws_FnExactTopOf, N.laws_toIntS, G.laws_toIntS, N.spec_TopOf, G.spec_TopOf, N.impl_TopOf, G.impl_TopOf, N.laws_eqIntS, g0, Bool.true_and, Bool.and_true, Bool.and_self, cond_true]
  by_cases h_a0 : (a0.length : Int) > 1048576
  · simp [h_a0]
  have w_a0 : a0.length ≤ 1048576 := by omega
  have c_a0 : decide ((a0.length : Int) > 1048576) = false := decide_eq_false h_a0
  simp only [c_a0, w_a0, Bool.true_and, Bool.and_true, Bool.and_self, cond_true, cond_false, bne_self_eq_false, decide_true, Bool.not_true, eqStr_refl, eqInts_refl, eqStrs_refl, eqSig_refl, eqSigs_refl, eqKeys_refl, eqEntry_refl, eqEntries_refl, eqProof_refl, eqGap_refl, eqHead_refl, eqSigned_refl, eqSignedS_refl]

def O_laws_FnExactTopOf : Orac := (orcX 17 [.val (.slice 3 (.int .i64)), .val (.slice 3 (.int .i64))] (fun d => true) (fun d => [⟨.bool, N.laws_eqIntS d.1 d.2.1⟩]) (orcX 16 [.val (.slice 3 (.int .i64))] (fun d => G.impl_TopOf d.1) (fun d => [⟨(.int .i64), N.impl_TopOf d.1⟩]) (orcX 14 [.val (.slice 3 (.int .i64))] (fun d => G.spec_TopOf d.1) (fun d => [⟨(.int .i64), N.spec_TopOf d.1⟩]) (orcX 15 [.val (.slice 3 (.int .i64))] (fun d => G.laws_toIntS d.1) (fun d => [⟨(.slice 3 (.int .i64)), N.laws_toIntS d.1⟩]) nilO))))
theorem ok_laws_FnExactTopOf : OracOk Try.prog sigs O_laws_FnExactTopOf := (orcX_ok rfl (fun d g => said_laws_eqIntS d.1 d.2.1) (orcX_ok rfl (fun d g => said_impl_TopOf d.1 g) (orcX_ok rfl (fun d g => said_spec_TopOf d.1 g) (orcX_ok rfl (fun d g => said_laws_toIntS d.1 g) nilO_ok))))
def A_laws_FnExactTopOf : Ann := fun b => ⟨[], []⟩
theorem a_laws_FnExactTopOf (n : Nat) (a0 : (List Int)) : absF tab sigs O_laws_FnExactTopOf A_laws_FnExactTopOf Try.f4 [(.bool, .no)] n [.val (.slice 3 (.int .i64)) a0] = laws_FnExactTopOf (fun r0 => some [⟨.bool, r0⟩])  a0 := by kernel_rfl
theorem said_laws_FnExactTopOf (a0 : (List Int)) (o_a0 : okT (.slice 3 (.int .i64)) a0) : Said Try.prog sigs_4 4 [.val (.slice 3 (.int .i64)) a0] [⟨.bool, true⟩] := said_len (T := tab) (A := A_laws_FnExactTopOf) tabOk ok_laws_FnExactTopOf tabOk.follows Try.func4 (by kernel_rfl) (by kernel_rfl) (fun hl => ⟨0, (a_laws_FnExactTopOf 0 a0).trans (laws_FnExactTopOf_ok (ρ := Ret) (fun r0 => some [⟨.bool, r0⟩]) a0 hl.1 o_a0)⟩)
end Go.Proofs.Yteaahdhmhbmdgaa.Ref
