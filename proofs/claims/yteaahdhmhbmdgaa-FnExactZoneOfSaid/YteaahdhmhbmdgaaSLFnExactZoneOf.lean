/- The law FnExactZoneOf: its code returns true.
   Conditions: as each theorem states. -/
import Derived.Test.YteaahdhmhbmdgaaSB1
set_option linter.unusedVariables false
set_option linter.unusedSimpArgs false
set_option maxRecDepth 100000
namespace Go.Proofs.Yteaahdhmhbmdgaa.Ref
open Go.RowKit Go.Proofs.YteaahdhmhbmdgaaW.PrintWords Go.Proofs.YteaahdhmhbmdgaaW.PrintLast
def N.laws_FnExactZoneOf : Bool := true

def laws_FnExactZoneOf {ρ : Type} (k : Bool → Option ρ) (a0 : TKeys) (a1 : Int) : Option ρ := (cond (G.laws_szKeys a0 (1048576 : Int)) (cond (decide ((N.laws_szKeys a0 (1048576 : Int)) < (0 : Int))) (k true) (cond (G.laws_toKeys a0) (cond (G.spec_ZoneOf (N.laws_toKeys a0) a1) (cond (G.laws_toKeys a0) (cond (G.impl_ZoneOf (N.laws_toKeys a0) a1) (cond ((N.impl_ZoneOf (N.laws_toKeys a0) a1) != (N.spec_ZoneOf (N.laws_toKeys a0) a1)) (k false) (cond (G.laws_toKeys a0) (cond (!(N.laws_eqKeys (N.laws_toKeys a0) (N.laws_toKeys a0))) (k false) (k true)) none)) none) none) none) none)) none)
theorem laws_FnExactZoneOf_ok {ρ : Type} (k : Bool → Option ρ) (a0 : TKeys) (a1 : Int) (l_a0 : (lnL (fun _ => True) a0.1 ∧ True)) (o_a0 : ((a0.1.length ≤ maxLen ∧ ∀ y0, List.Mem y0 a0.1 → (Lit.int .i64 y0).wf = true) ∧ (Lit.int .i64 a0.2).wf = true)) (o_a1 : (Lit.int .i64 a1).wf = true) : laws_FnExactZoneOf k  a0 a1 = k true := by
  have g0 : gL 1048576 = true := by decide
  simp only [laws_FnExactZoneOf, N.laws_szKeys, G.laws_szKeys, N.laws_toKeys, G.laws_toKeys, N.spec_ZoneOf, G.spec_ZoneOf, N.impl_ZoneOf, G.impl_ZoneOf, N.laws_eqKeys, g0, Bool.true_and, Bool.and_true, Bool.and_self, cond_true]
  by_cases h_a0 : sub1 (wK a0) 1048576 < 0
  · simp [h_a0]
  have g_a0 := gL_of (w := wK a0) g0 h_a0
  have r_a0 := (sub1_range (of_decide_eq_true ((Bool.and_eq_true _ _).mp g0).1) (of_decide_eq_true ((Bool.and_eq_true _ _).mp g0).2) h_a0).2.2
  have e_a0 : decide (sub1 (wK a0) 1048576 < 0) = false := decide_eq_false h_a0
  simp only [e_a0, g_a0, r_a0, Bool.true_and, Bool.and_true, Bool.and_self, cond_true, cond_false, bne_self_eq_false, decide_true, Bool.not_true, eqStr_refl, eqInts_refl, eqStrs_refl, eqSig_refl, eqSigs_refl, eqKeys_refl, eqEntry_refl, eqEntries_refl, eqProof_refl, eqGap_refl, eqHead_refl, eqSigned_refl, eqSignedS_refl]

def O_laws_FnExactZoneOf : Orac := (orcX 28 [.val (.pair (.slice 3 (.int .i64)) (.int .i64)), .val (.pair (.slice 3 (.int .i64)) (.int .i64))] (fun d => true) (fun d => [⟨.bool, N.laws_eqKeys d.1 d.2.1⟩]) (orcX 27 [.val (.pair (.slice 3 (.int .i64)) (.int .i64)), .val (.int .i64)] (fun d => G.impl_ZoneOf d.1 d.2.1) (fun d => [⟨(.int .i64), N.impl_ZoneOf d.1 d.2.1⟩]) (orcX 25 [.val (.pair (.slice 3 (.int .i64)) (.int .i64)), .val (.int .i64)] (fun d => G.spec_ZoneOf d.1 d.2.1) (fun d => [⟨(.int .i64), N.spec_ZoneOf d.1 d.2.1⟩]) (orcX 26 [.val (.pair (.slice 3 (.int .i64)) (.int .i64))] (fun d => G.laws_toKeys d.1) (fun d => [⟨(.pair (.slice 3 (.int .i64)) (.int .i64)), N.laws_toKeys d.1⟩]) (orcX 24 [.val (.pair (.slice 3 (.int .i64)) (.int .i64)), .val (.int .i64)] (fun d => G.laws_szKeys d.1 d.2.1) (fun d => [⟨(.int .i64), N.laws_szKeys d.1 d.2.1⟩]) nilO)))))
theorem ok_laws_FnExactZoneOf : OracOk Try.prog sigs O_laws_FnExactZoneOf := (orcX_ok rfl (fun d g => said_laws_eqKeys d.1 d.2.1) (orcX_ok rfl (fun d g => said_impl_ZoneOf d.1 d.2.1 g) (orcX_ok rfl (fun d g => said_spec_ZoneOf d.1 d.2.1 g) (orcX_ok rfl (fun d g => said_laws_toKeys d.1 g) (orcX_ok rfl (fun d g => said_laws_szKeys d.1 d.2.1 g) nilO_ok)))))
def A_laws_FnExactZoneOf : Ann := fun b => ⟨[], []⟩
theorem a_laws_FnExactZoneOf (n : Nat) (a0 : TKeys) (a1 : Int) : absF tab sigs O_laws_FnExactZoneOf A_laws_FnExactZoneOf Try.f7 [(.bool, .no)] n [.val (.pair (.slice 3 (.int .i64)) (.int .i64)) a0, .val (.int .i64) a1] = laws_FnExactZoneOf (fun r0 => some [⟨.bool, r0⟩])  a0 a1 := by kernel_rfl
theorem said_laws_FnExactZoneOf (a0 : TKeys) (a1 : Int) (o_a0 : okT (.pair (.slice 3 (.int .i64)) (.int .i64)) a0) (o_a1 : okT (.int .i64) a1) : Said Try.prog sigs_7 7 [.val (.pair (.slice 3 (.int .i64)) (.int .i64)) a0, .val (.int .i64) a1] [⟨.bool, true⟩] := said_len (T := tab) (A := A_laws_FnExactZoneOf) tabOk ok_laws_FnExactZoneOf tabOk.follows Try.func7 (by kernel_rfl) (by kernel_rfl) (fun hl => ⟨0, (a_laws_FnExactZoneOf 0 a0 a1).trans (laws_FnExactZoneOf_ok (ρ := Ret) (fun r0 => some [⟨.bool, r0⟩]) a0 a1 hl.1 o_a0 o_a1)⟩)
end Go.Proofs.Yteaahdhmhbmdgaa.Ref
