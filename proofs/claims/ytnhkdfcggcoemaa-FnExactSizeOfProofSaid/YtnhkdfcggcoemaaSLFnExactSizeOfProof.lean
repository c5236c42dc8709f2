/- The law FnExactSizeOfProof: its code returns true.
   Conditions: as each theorem states. -/
import Derived.Test.YtnhkdfcggcoemaaSB0
set_option linter.unusedVariables false
set_option linter.unusedSimpArgs false
set_option maxRecDepth 100000
namespace Go.Proofs.Ytnhkdfcggcoemaa.Ref
open Go.RowKit Go.Proofs.YtnhkdfcggcoemaaW.PrintWords Go.Proofs.YtnhkdfcggcoemaaW.PrintLast
def N.laws_FnExactSizeOfProof : Bool := true

def laws_FnExactSizeOfProof {ρ : Type} (k : Bool → Option ρ) (a0 : TProof) : Option ρ := (cond (G.laws_szProof a0 (1048576 : Int)) (cond (decide ((N.laws_szProof a0 (1048576 : Int)) < (0 : Int))) (k true) (cond (G.laws_toProof a0) (cond (G.laws_toProof a0) (cond ((N.impl_SizeOfProof (N.laws_toProof a0)) != (N.spec_SizeOfProof (N.laws_toProof a0))) (k false) (cond (G.laws_toProof a0) (cond (!(N.laws_eqProof (N.laws_toProof a0) (N.laws_toProof a0))) (k false) (k true)) none)) none) none)) none)
theorem laws_FnExactSizeOfProof_ok {ρ : Type} (k : Bool → Option ρ) (a0 : TProof) (l_a0 : (True ∧ lnL (fun _ => True) a0.2)) (o_a0 : ((Lit.int .i64 a0.1).wf = true ∧ (a0.2.length ≤ maxLen ∧ ∀ y0, List.Mem y0 a0.2 → (Lit.int .i64 y0).wf = true))) : laws_FnExactSizeOfProof k  a0 = k true := by
  have g1 : gL 1048576 = true := by decide
  simp only [laws_FnExactSizeOfProof, G.laws_szProof, N.laws_szProof, G.laws_toProof, N.laws_toProof, g1, cond_true]
  by_cases h : sub1 (wPr a0) 1048576 < 0
  · simp [h]
  · have h2 := (sub1_range (by decide) (by decide) h).2.2
    simp [h, h2, N.spec_SizeOfProof, N.impl_SizeOfProof, N.laws_eqProof, eqProof_refl]
def O_laws_FnExactSizeOfProof : Orac := (orcX 22 [.val (.pair (.int .i64) (.slice 3 (.int .i64))), .val (.pair (.int .i64) (.slice 3 (.int .i64)))] (fun d => true) (fun d => [⟨.bool, N.laws_eqProof d.1 d.2.1⟩]) (orcX 21 [.val (.pair (.int .i64) (.slice 3 (.int .i64)))] (fun d => true) (fun d => [⟨(.int .i64), N.impl_SizeOfProof d.1⟩]) (orcX 19 [.val (.pair (.int .i64) (.slice 3 (.int .i64)))] (fun d => true) (fun d => [⟨(.int .i64), N.spec_SizeOfProof d.1⟩]) (orcX 20 [.val (.pair (.int .i64) (.slice 3 (.int .i64)))] (fun d => G.laws_toProof d.1) (fun d => [⟨(.pair (.int .i64) (.slice 3 (.int .i64))), N.laws_toProof d.1⟩]) (orcX 18 [.val (.pair (.int .i64) (.slice 3 (.int .i64))), .val (.int .i64)] (fun d => G.laws_szProof d.1 d.2.1) (fun d => [⟨(.int .i64), N.laws_szProof d.1 d.2.1⟩]) nilO)))))
theorem ok_laws_FnExactSizeOfProof : OracOk Try.prog sigs O_laws_FnExactSizeOfProof := (orcX_ok rfl (fun d g => said_laws_eqProof d.1 d.2.1) (orcX_ok rfl (fun d g => said_impl_SizeOfProof d.1) (orcX_ok rfl (fun d g => said_spec_SizeOfProof d.1) (orcX_ok rfl (fun d g => said_laws_toProof d.1 g) (orcX_ok rfl (fun d g => said_laws_szProof d.1 d.2.1 g) nilO_ok)))))
def A_laws_FnExactSizeOfProof : Ann := fun b => ⟨[], []⟩
theorem a_laws_FnExactSizeOfProof (n : Nat) (a0 : TProof) : absF tab sigs O_laws_FnExactSizeOfProof A_laws_FnExactSizeOfProof Try.f6 [(.bool, .no)] n [.val (.pair (.int .i64) (.slice 3 (.int .i64))) a0] = laws_FnExactSizeOfProof (fun r0 => some [⟨.bool, r0⟩])  a0 := by kernel_rfl
theorem said_laws_FnExactSizeOfProof (a0 : TProof) (o_a0 : okT (.pair (.int .i64) (.slice 3 (.int .i64))) a0) : Said Try.prog sigs_6 6 [.val (.pair (.int .i64) (.slice 3 (.int .i64))) a0] [⟨.bool, true⟩] := said_len (T := tab) (A := A_laws_FnExactSizeOfProof) tabOk ok_laws_FnExactSizeOfProof tabOk.follows Try.func6 (by kernel_rfl) (by kernel_rfl) (fun hl => ⟨0, (a_laws_FnExactSizeOfProof 0 a0).trans (laws_FnExactSizeOfProof_ok (ρ := Ret) (fun r0 => some [⟨.bool, r0⟩]) a0 hl.1 o_a0)⟩)
end Go.Proofs.Ytnhkdfcggcoemaa.Ref
