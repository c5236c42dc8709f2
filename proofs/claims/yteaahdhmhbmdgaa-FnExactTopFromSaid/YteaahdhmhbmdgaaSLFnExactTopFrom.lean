/- The law FnExactTopFrom: its code returns true.
   Conditions: as each theorem states. -/
import Derived.Test.YteaahdhmhbmdgaaSB1
set_option linter.unusedVariables false
set_option linter.unusedSimpArgs false
set_option maxRecDepth 100000
namespace Go.Proofs.Yteaahdhmhbmdgaa.Ref
open Go.RowKit Go.Proofs.YteaahdhmhbmdgaaW.PrintWords Go.Proofs.YteaahdhmhbmdgaaW.PrintLast
def N.laws_FnExactTopFrom : Bool := true

def laws_FnExactTopFrom {ρ : Type} (k : Bool → Option ρ) (a0 : Int) (a1 : Int) (a2 : Int) (a3 : (List Int)) : Option ρ := (cond (decide ((List.length a3 : Int) > (1048576 : Int))) (k true) (cond (G.laws_toIntS a3) (cond (G.laws_toIntS a3) (cond ((N.impl_TopFrom a0 a1 a2 (N.laws_toIntS a3)).1 != (N.spec_TopFrom a0 a1 a2 (N.laws_toIntS a3)).1) (k false) (cond ((N.impl_TopFrom a0 a1 a2 (N.laws_toIntS a3)).2 != (N.spec_TopFrom a0 a1 a2 (N.laws_toIntS a3)).2) (k false) (cond (G.laws_toIntS a3) (cond (!(N.laws_eqIntS (N.laws_toIntS a3) (N.laws_toIntS a3))) (k false) (k true)) none))) none) none))
theorem laws_FnExactTopFrom_ok {ρ : Type} (k : Bool → Option ρ) (a0 : Int) (a1 : Int) (a2 : Int) (a3 : (List Int)) (l_a3 : lnL (fun _ => True) a3) (o_a0 : (Lit.int .i64 a0).wf = true) (o_a1 : (Lit.int .i64 a1).wf = true) (o_a2 : (Lit.int .i64 a2).wf = true) (o_a3 : (a3.length ≤ maxLen ∧ ∀ y0, List.Mem y0 a3 → (Lit.int .i64 y0).wf = true)) : laws_FnExactTopFrom k  a0 a1 a2 a3 = k true := by
  have g0 : gL 1048576 = true := by decide
  simp only [laws_FnExactTopFrom, N.laws_toIntS, G.laws_toIntS, N.spec_TopFrom, N.impl_TopFrom, N.laws_eqIntS, g0, Bool.true_and, Bool.and_true, Bool.and_self, cond_true]
  by_cases h_a3 : (a3.length : Int) > 1048576
  · simp [h_a3]
  have w_a3 : a3.length ≤ 1048576 := by omega
  have c_a3 : decide ((a3.length : Int) > 1048576) = false := decide_eq_false h_a3
  simp only [c_a3, w_a3, Bool.true_and, Bool.and_true, Bool.and_self, cond_true, cond_false, bne_self_eq_false, decide_true, Bool.not_true, eqStr_refl, eqInts_refl, eqStrs_refl, eqSig_refl, eqSigs_refl, eqKeys_refl, eqEntry_refl, eqEntries_refl, eqProof_refl, eqGap_refl, eqHead_refl, eqSigned_refl, eqSignedS_refl]

def O_laws_FnExactTopFrom : Orac := (orcX 17 [.val (.slice 3 (.int .i64)), .val (.slice 3 (.int .i64))] (fun d => true) (fun d => [⟨.bool, N.laws_eqIntS d.1 d.2.1⟩]) (orcX 19 [.val (.int .i64), .val (.int .i64), .val (.int .i64), .val (.slice 3 (.int .i64))] (fun d => true) (fun d => [⟨(.int .i64), (N.impl_TopFrom d.1 d.2.1 d.2.2.1 d.2.2.2.1).1⟩, ⟨.bool, (N.impl_TopFrom d.1 d.2.1 d.2.2.1 d.2.2.2.1).2⟩]) (orcX 18 [.val (.int .i64), .val (.int .i64), .val (.int .i64), .val (.slice 3 (.int .i64))] (fun d => true) (fun d => [⟨(.int .i64), (N.spec_TopFrom d.1 d.2.1 d.2.2.1 d.2.2.2.1).1⟩, ⟨.bool, (N.spec_TopFrom d.1 d.2.1 d.2.2.1 d.2.2.2.1).2⟩]) (orcX 15 [.val (.slice 3 (.int .i64))] (fun d => G.laws_toIntS d.1) (fun d => [⟨(.slice 3 (.int .i64)), N.laws_toIntS d.1⟩]) nilO))))
theorem ok_laws_FnExactTopFrom : OracOk Try.prog sigs O_laws_FnExactTopFrom := (orcX_ok rfl (fun d g => said_laws_eqIntS d.1 d.2.1) (orcX_ok rfl (fun d g => said_impl_TopFrom d.1 d.2.1 d.2.2.1 d.2.2.2.1) (orcX_ok rfl (fun d g => said_spec_TopFrom d.1 d.2.1 d.2.2.1 d.2.2.2.1) (orcX_ok rfl (fun d g => said_laws_toIntS d.1 g) nilO_ok))))
def A_laws_FnExactTopFrom : Ann := fun b => ⟨[], []⟩
theorem a_laws_FnExactTopFrom (n : Nat) (a0 : Int) (a1 : Int) (a2 : Int) (a3 : (List Int)) : absF tab sigs O_laws_FnExactTopFrom A_laws_FnExactTopFrom Try.f5 [(.bool, .no)] n [.val (.int .i64) a0, .val (.int .i64) a1, .val (.int .i64) a2, .val (.slice 3 (.int .i64)) a3] = laws_FnExactTopFrom (fun r0 => some [⟨.bool, r0⟩])  a0 a1 a2 a3 := by kernel_rfl
theorem said_laws_FnExactTopFrom (a0 : Int) (a1 : Int) (a2 : Int) (a3 : (List Int)) (o_a0 : okT (.int .i64) a0) (o_a1 : okT (.int .i64) a1) (o_a2 : okT (.int .i64) a2) (o_a3 : okT (.slice 3 (.int .i64)) a3) : Said Try.prog sigs_5 5 [.val (.int .i64) a0, .val (.int .i64) a1, .val (.int .i64) a2, .val (.slice 3 (.int .i64)) a3] [⟨.bool, true⟩] := said_len (T := tab) (A := A_laws_FnExactTopFrom) tabOk ok_laws_FnExactTopFrom tabOk.follows Try.func5 (by kernel_rfl) (by kernel_rfl) (fun hl => ⟨0, (a_laws_FnExactTopFrom 0 a0 a1 a2 a3).trans (laws_FnExactTopFrom_ok (ρ := Ret) (fun r0 => some [⟨.bool, r0⟩]) a0 a1 a2 a3 hl.2.2.2.1 o_a0 o_a1 o_a2 o_a3)⟩)
end Go.Proofs.Yteaahdhmhbmdgaa.Ref
