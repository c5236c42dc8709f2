/- The law FnExactNoKeys: its code returns true.
   Conditions: as each theorem states. -/
import Derived.Test.YtnhkdfcggcoemaaSB0
set_option linter.unusedVariables false
set_option linter.unusedSimpArgs false
set_option maxRecDepth 100000
namespace Go.Proofs.Ytnhkdfcggcoemaa.Ref
open Go.RowKit Go.Proofs.YtnhkdfcggcoemaaW.PrintWords Go.Proofs.YtnhkdfcggcoemaaW.PrintLast
def N.laws_FnExactNoKeys : Bool := true

def laws_FnExactNoKeys {ρ : Type} (k : Bool → Option ρ) (a0 : TKeys) : Option ρ := (cond (G.laws_szKeys a0 (1048576 : Int)) (cond (decide ((N.laws_szKeys a0 (1048576 : Int)) < (0 : Int))) (k true) (cond (G.laws_toKeys a0) (cond (G.laws_toKeys a0) (cond ((N.impl_NoKeys (N.laws_toKeys a0)) != (N.spec_NoKeys (N.laws_toKeys a0))) (k false) (cond (G.laws_toKeys a0) (cond (!(N.laws_eqKeys (N.laws_toKeys a0) (N.laws_toKeys a0))) (k false) (k true)) none)) none) none)) none)
theorem laws_FnExactNoKeys_ok {ρ : Type} (k : Bool → Option ρ) (a0 : TKeys) (l_a0 : (lnL (fun _ => True) a0.1 ∧ True)) (o_a0 : ((a0.1.length ≤ maxLen ∧ ∀ y0, List.Mem y0 a0.1 → (Lit.int .i64 y0).wf = true) ∧ (Lit.int .i64 a0.2).wf = true)) : laws_FnExactNoKeys k  a0 = k true := by
  have g1 : gL 1048576 = true := by decide
  simp only [laws_FnExactNoKeys, G.laws_szKeys, N.laws_szKeys, G.laws_toKeys, N.laws_toKeys, g1, cond_true]
  by_cases h : sub1 (wK a0) 1048576 < 0
  · simp [h]
  · have h2 := (sub1_range (by decide) (by decide) h).2.2
    simp [h, h2, N.spec_NoKeys, N.impl_NoKeys, N.laws_eqKeys, eqKeys_refl]
def O_laws_FnExactNoKeys : Orac := (orcX 17 [.val (.pair (.slice 3 (.int .i64)) (.int .i64)), .val (.pair (.slice 3 (.int .i64)) (.int .i64))] (fun d => true) (fun d => [⟨.bool, N.laws_eqKeys d.1 d.2.1⟩]) (orcX 16 [.val (.pair (.slice 3 (.int .i64)) (.int .i64))] (fun d => true) (fun d => [⟨.bool, N.impl_NoKeys d.1⟩]) (orcX 14 [.val (.pair (.slice 3 (.int .i64)) (.int .i64))] (fun d => true) (fun d => [⟨.bool, N.spec_NoKeys d.1⟩]) (orcX 15 [.val (.pair (.slice 3 (.int .i64)) (.int .i64))] (fun d => G.laws_toKeys d.1) (fun d => [⟨(.pair (.slice 3 (.int .i64)) (.int .i64)), N.laws_toKeys d.1⟩]) (orcX 13 [.val (.pair (.slice 3 (.int .i64)) (.int .i64)), .val (.int .i64)] (fun d => G.laws_szKeys d.1 d.2.1) (fun d => [⟨(.int .i64), N.laws_szKeys d.1 d.2.1⟩]) nilO)))))
theorem ok_laws_FnExactNoKeys : OracOk Try.prog sigs O_laws_FnExactNoKeys := (orcX_ok rfl (fun d g => said_laws_eqKeys d.1 d.2.1) (orcX_ok rfl (fun d g => said_impl_NoKeys d.1) (orcX_ok rfl (fun d g => said_spec_NoKeys d.1) (orcX_ok rfl (fun d g => said_laws_toKeys d.1 g) (orcX_ok rfl (fun d g => said_laws_szKeys d.1 d.2.1 g) nilO_ok)))))
def A_laws_FnExactNoKeys : Ann := fun b => ⟨[], []⟩
theorem a_laws_FnExactNoKeys (n : Nat) (a0 : TKeys) : absF tab sigs O_laws_FnExactNoKeys A_laws_FnExactNoKeys Try.f5 [(.bool, .no)] n [.val (.pair (.slice 3 (.int .i64)) (.int .i64)) a0] = laws_FnExactNoKeys (fun r0 => some [⟨.bool, r0⟩])  a0 := by kernel_rfl
theorem said_laws_FnExactNoKeys (a0 : TKeys) (o_a0 : okT (.pair (.slice 3 (.int .i64)) (.int .i64)) a0) : Said Try.prog sigs_5 5 [.val (.pair (.slice 3 (.int .i64)) (.int .i64)) a0] [⟨.bool, true⟩] := said_len (T := tab) (A := A_laws_FnExactNoKeys) tabOk ok_laws_FnExactNoKeys tabOk.follows Try.func5 (by kernel_rfl) (by kernel_rfl) (fun hl => ⟨0, (a_laws_FnExactNoKeys 0 a0).trans (laws_FnExactNoKeys_ok (ρ := Ret) (fun r0 => some [⟨.bool, r0⟩]) a0 hl.1 o_a0)⟩)
end Go.Proofs.Ytnhkdfcggcoemaa.Ref
