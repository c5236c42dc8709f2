/- Functions of the program: what each computes, and that it does so.
   Conditions: as each theorem states. -/
import Derived.Test.YtlaobplhnelniaaSB0
set_option linter.unusedVariables false
set_option linter.unusedSimpArgs false
set_option maxRecDepth 100000
namespace Go.Proofs.Ytlaobplhnelniaa.Ref
open Go.RowKit Go.Proofs.YtlaobplhnelniaaW.PrintWords Go.Proofs.YtlaobplhnelniaaW.PrintLast
/-! impl.CanClaim -/
abbrev N.impl_CanClaim (h : THead) (now : Int) : Bool := canClaim h now
def impl_CanClaim {ρ : Type} (k : Bool → Option ρ) (a0 : THead) (a1 : Int) : Option ρ := (cond (N.impl_IsHead a0) (cond (!a0.2.2.2.2.2.2.2.2.2.2.2.2) (cond (!(N.impl_NoKeys a0.2.2.2.2.2.2.2.2.2.1)) (k (decide (a1 ≥ (IntKind.wrap .i64 (a0.2.2.2.2.1 + a0.2.2.2.2.2.2.2.2.2.2.1))))) (k false)) (k false)) (k false))
theorem impl_CanClaim_ok {ρ : Type} (k : Bool → Option ρ) (a0 : THead) (a1 : Int) (l_a0 : (True ∧ (True ∧ (True ∧ (True ∧ (True ∧ (True ∧ (True ∧ (True ∧ ((lnL (fun _ => True) a0.2.2.2.2.2.2.2.2.1.1 ∧ True) ∧ ((lnL (fun _ => True) a0.2.2.2.2.2.2.2.2.2.1.1 ∧ True) ∧ (True ∧ ((lnL (fun _ => True) a0.2.2.2.2.2.2.2.2.2.2.2.1.1 ∧ True) ∧ True))))))))))))) : impl_CanClaim k  a0 a1 = k (N.impl_CanClaim a0 a1) := by
  simp only [impl_CanClaim, N.impl_IsHead, N.impl_NoKeys, N.impl_CanClaim, canClaim]
  cases isHead a0
  · rfl
  cases a0.2.2.2.2.2.2.2.2.2.2.2.2 <;> cases noKeys a0.2.2.2.2.2.2.2.2.2.1 <;> rfl
def OP_impl_CanClaim (f_impl_IsHead : THead → Bool) (f_impl_NoKeys : TKeys → Bool) : Orac := (orcX 50 [.val (.pair (.slice 3 (.int .i64)) (.int .i64))] (fun d => true) (fun d => [⟨.bool, f_impl_NoKeys d.1⟩]) (orcX 25 [.val (.pair (.int .i64) (.pair (.int .i64) (.pair (.int .i64) (.pair (.int .i64) (.pair (.int .i64) (.pair (.int .i64) (.pair (.int .i64) (.pair (.int .i64) (.pair (.pair (.slice 3 (.int .i64)) (.int .i64)) (.pair (.pair (.slice 3 (.int .i64)) (.int .i64)) (.pair (.int .i64) (.pair (.pair (.slice 3 (.int .i64)) (.int .i64)) .bool))))))))))))] (fun d => true) (fun d => [⟨.bool, f_impl_IsHead d.1⟩]) nilO))
def O_impl_CanClaim : Orac := OP_impl_CanClaim N.impl_IsHead N.impl_NoKeys
def impl_CanClaim_P {ρ : Type} (f_impl_IsHead : THead → Bool) (f_impl_NoKeys : TKeys → Bool) (k : Bool → Option ρ) (a0 : THead) (a1 : Int) : Option ρ := (cond (f_impl_IsHead a0) (cond (!a0.2.2.2.2.2.2.2.2.2.2.2.2) (cond (!(f_impl_NoKeys a0.2.2.2.2.2.2.2.2.2.1)) (k (decide (a1 ≥ (IntKind.wrap .i64 (a0.2.2.2.2.1 + a0.2.2.2.2.2.2.2.2.2.2.1))))) (k false)) (k false)) (k false))
theorem ok_impl_CanClaim : OracOk Try.prog sigs O_impl_CanClaim := (orcX_ok rfl (fun d g => said_impl_NoKeys d.1) (orcX_ok rfl (fun d g => said_impl_IsHead d.1) nilO_ok))
def A_impl_CanClaim : Ann := fun b => ⟨[], []⟩
theorem aP_impl_CanClaim (f_impl_IsHead : THead → Bool) (f_impl_NoKeys : TKeys → Bool) (n : Nat) (a0 : THead) (a1 : Int) : absF tab sigs (OP_impl_CanClaim f_impl_IsHead f_impl_NoKeys) A_impl_CanClaim Try.f27 [(.bool, .no)] n [.val (.pair (.int .i64) (.pair (.int .i64) (.pair (.int .i64) (.pair (.int .i64) (.pair (.int .i64) (.pair (.int .i64) (.pair (.int .i64) (.pair (.int .i64) (.pair (.pair (.slice 3 (.int .i64)) (.int .i64)) (.pair (.pair (.slice 3 (.int .i64)) (.int .i64)) (.pair (.int .i64) (.pair (.pair (.slice 3 (.int .i64)) (.int .i64)) .bool)))))))))))) a0, .val (.int .i64) a1] = impl_CanClaim_P f_impl_IsHead f_impl_NoKeys (fun r0 => some [⟨.bool, r0⟩])  a0 a1 := by kernel_rfl
theorem a_impl_CanClaim (n : Nat) (a0 : THead) (a1 : Int) : absF tab sigs O_impl_CanClaim A_impl_CanClaim Try.f27 [(.bool, .no)] n [.val (.pair (.int .i64) (.pair (.int .i64) (.pair (.int .i64) (.pair (.int .i64) (.pair (.int .i64) (.pair (.int .i64) (.pair (.int .i64) (.pair (.int .i64) (.pair (.pair (.slice 3 (.int .i64)) (.int .i64)) (.pair (.pair (.slice 3 (.int .i64)) (.int .i64)) (.pair (.int .i64) (.pair (.pair (.slice 3 (.int .i64)) (.int .i64)) .bool)))))))))))) a0, .val (.int .i64) a1] = impl_CanClaim (fun r0 => some [⟨.bool, r0⟩])  a0 a1 := aP_impl_CanClaim N.impl_IsHead N.impl_NoKeys n a0 a1
theorem said_impl_CanClaim (a0 : THead) (a1 : Int) : Said Try.prog sigs_27 27 [.val (.pair (.int .i64) (.pair (.int .i64) (.pair (.int .i64) (.pair (.int .i64) (.pair (.int .i64) (.pair (.int .i64) (.pair (.int .i64) (.pair (.int .i64) (.pair (.pair (.slice 3 (.int .i64)) (.int .i64)) (.pair (.pair (.slice 3 (.int .i64)) (.int .i64)) (.pair (.int .i64) (.pair (.pair (.slice 3 (.int .i64)) (.int .i64)) .bool)))))))))))) a0, .val (.int .i64) a1] [⟨.bool, N.impl_CanClaim a0 a1⟩] := said_len (T := tab) (A := A_impl_CanClaim) tabOk ok_impl_CanClaim tabOk.follows Try.func27 (by kernel_rfl) (by kernel_rfl) (fun hl => ⟨0, (a_impl_CanClaim 0 a0 a1).trans (impl_CanClaim_ok (ρ := Ret) (fun r0 => some [⟨.bool, r0⟩]) a0 a1 hl.1)⟩)
end Go.Proofs.Ytlaobplhnelniaa.Ref
