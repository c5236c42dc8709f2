/- Functions of the program: what each computes, and that it does so.
   Conditions: as each theorem states. -/
import Derived.Test.YtaghpijciobacaaSB1
set_option linter.unusedVariables false
set_option linter.unusedSimpArgs false
set_option maxRecDepth 100000
namespace Go.Proofs.Ytaghpijciobacaa.Ref
open Go.RowKit Go.Proofs.YtaghpijciobacaaW.PrintWords Go.Proofs.YtaghpijciobacaaW.PrintLast
/-! impl.HeadInts -/
abbrev G.impl_HeadInts (h : THead) : Bool := decide (wH h ≤ 1048576)
abbrev N.impl_HeadInts (h : THead) : List Int := headInts h
def impl_HeadInts {ρ : Type} (k : (List Int) → Option ρ) (a0 : THead) : Option ρ := (cond (G.impl_KeysInts a0.2.2.2.2.2.2.2.2.1) (cond (G.impl_KeysInts a0.2.2.2.2.2.2.2.2.2.1) (cond (G.impl_KeysInts a0.2.2.2.2.2.2.2.2.2.2.2.1) (cond (G.slices_Concat_int [[a0.1, a0.2.1, a0.2.2.1, a0.2.2.2.1, a0.2.2.2.2.1, a0.2.2.2.2.2.1, a0.2.2.2.2.2.2.1, a0.2.2.2.2.2.2.2.1], (N.impl_KeysInts a0.2.2.2.2.2.2.2.2.1), (N.impl_KeysInts a0.2.2.2.2.2.2.2.2.2.1), [a0.2.2.2.2.2.2.2.2.2.2.1], (N.impl_KeysInts a0.2.2.2.2.2.2.2.2.2.2.2.1), [(N.impl_bit a0.2.2.2.2.2.2.2.2.2.2.2.2)]]) (k (N.slices_Concat_int [[a0.1, a0.2.1, a0.2.2.1, a0.2.2.2.1, a0.2.2.2.2.1, a0.2.2.2.2.2.1, a0.2.2.2.2.2.2.1, a0.2.2.2.2.2.2.2.1], (N.impl_KeysInts a0.2.2.2.2.2.2.2.2.1), (N.impl_KeysInts a0.2.2.2.2.2.2.2.2.2.1), [a0.2.2.2.2.2.2.2.2.2.2.1], (N.impl_KeysInts a0.2.2.2.2.2.2.2.2.2.2.2.1), [(N.impl_bit a0.2.2.2.2.2.2.2.2.2.2.2.2)]])) none) none) none) none)
theorem impl_HeadInts_ok {ρ : Type} (k : (List Int) → Option ρ) (a0 : THead) (l_a0 : (lenT TyHead a0)) (g : G.impl_HeadInts a0 = true) : impl_HeadInts k  a0 = k (N.impl_HeadInts a0) := by
  unfold G.impl_HeadInts at g
  have hw : wH a0 ≤ 1048576 := of_decide_eq_true g
  unfold wH at hw
  have g1 : decide (wK a0.2.2.2.2.2.2.2.2.1 ≤ 1048576) = true := decide_eq_true (by omega)
  have g2 : decide (wK a0.2.2.2.2.2.2.2.2.2.1 ≤ 1048576) = true := decide_eq_true (by omega)
  have g3 : decide (wK a0.2.2.2.2.2.2.2.2.2.2.2.1 ≤ 1048576) = true := decide_eq_true (by omega)
  have hf : ([[a0.1, a0.2.1, a0.2.2.1, a0.2.2.2.1, a0.2.2.2.2.1, a0.2.2.2.2.2.1, a0.2.2.2.2.2.2.1, a0.2.2.2.2.2.2.2.1], keysInts a0.2.2.2.2.2.2.2.2.1, keysInts a0.2.2.2.2.2.2.2.2.2.1, [a0.2.2.2.2.2.2.2.2.2.2.1], keysInts a0.2.2.2.2.2.2.2.2.2.2.2.1, [bitOf a0.2.2.2.2.2.2.2.2.2.2.2.2]] : List (List Int)).flatten = headInts a0 := by
    unfold headInts
    simp
  have g4 : (decide (([[a0.1, a0.2.1, a0.2.2.1, a0.2.2.2.1, a0.2.2.2.2.1, a0.2.2.2.2.2.1, a0.2.2.2.2.2.2.1, a0.2.2.2.2.2.2.2.1], keysInts a0.2.2.2.2.2.2.2.2.1, keysInts a0.2.2.2.2.2.2.2.2.2.1, [a0.2.2.2.2.2.2.2.2.2.2.1], keysInts a0.2.2.2.2.2.2.2.2.2.2.2.1, [bitOf a0.2.2.2.2.2.2.2.2.2.2.2.2]] : List (List Int)).length ≤ 64) && decide ((headInts a0).length ≤ 4194304)) = true := by
    have h1 := headInts_len a0
    unfold wH at h1
    rw [decide_eq_true (p := (headInts a0).length ≤ 4194304) (by omega)]
    rfl
  simp only [impl_HeadInts, G.impl_KeysInts, N.impl_KeysInts, N.impl_bit, g1, g2, g3, cond_true, G.slices_Concat_int, N.slices_Concat_int, hf, g4, N.impl_HeadInts]
def OP_impl_HeadInts (f_impl_KeysInts : TKeys → (List Int)) (g_impl_KeysInts : TKeys → Bool) (f_impl_bit : Bool → Int) (f_slices_Concat_int : (List (List Int)) → (List Int)) (g_slices_Concat_int : (List (List Int)) → Bool) : Orac := (orcX 39 [.val (.slice 24 (.slice 3 (.int .i64)))] (fun d => g_slices_Concat_int d.1) (fun d => [⟨(.slice 3 (.int .i64)), f_slices_Concat_int d.1⟩]) (orcX 41 [.val .bool] (fun d => true) (fun d => [⟨(.int .i64), f_impl_bit d.1⟩]) (orcX 40 [.val (.pair (.slice 3 (.int .i64)) (.int .i64))] (fun d => g_impl_KeysInts d.1) (fun d => [⟨(.slice 3 (.int .i64)), f_impl_KeysInts d.1⟩]) nilO)))
def O_impl_HeadInts : Orac := OP_impl_HeadInts N.impl_KeysInts G.impl_KeysInts N.impl_bit N.slices_Concat_int G.slices_Concat_int
def impl_HeadInts_P {ρ : Type} (f_impl_KeysInts : TKeys → (List Int)) (g_impl_KeysInts : TKeys → Bool) (f_impl_bit : Bool → Int) (f_slices_Concat_int : (List (List Int)) → (List Int)) (g_slices_Concat_int : (List (List Int)) → Bool) (k : (List Int) → Option ρ) (a0 : THead) : Option ρ := (cond (g_impl_KeysInts a0.2.2.2.2.2.2.2.2.1) (cond (g_impl_KeysInts a0.2.2.2.2.2.2.2.2.2.1) (cond (g_impl_KeysInts a0.2.2.2.2.2.2.2.2.2.2.2.1) (cond (g_slices_Concat_int [[a0.1, a0.2.1, a0.2.2.1, a0.2.2.2.1, a0.2.2.2.2.1, a0.2.2.2.2.2.1, a0.2.2.2.2.2.2.1, a0.2.2.2.2.2.2.2.1], (f_impl_KeysInts a0.2.2.2.2.2.2.2.2.1), (f_impl_KeysInts a0.2.2.2.2.2.2.2.2.2.1), [a0.2.2.2.2.2.2.2.2.2.2.1], (f_impl_KeysInts a0.2.2.2.2.2.2.2.2.2.2.2.1), [(f_impl_bit a0.2.2.2.2.2.2.2.2.2.2.2.2)]]) (k (f_slices_Concat_int [[a0.1, a0.2.1, a0.2.2.1, a0.2.2.2.1, a0.2.2.2.2.1, a0.2.2.2.2.2.1, a0.2.2.2.2.2.2.1, a0.2.2.2.2.2.2.2.1], (f_impl_KeysInts a0.2.2.2.2.2.2.2.2.1), (f_impl_KeysInts a0.2.2.2.2.2.2.2.2.2.1), [a0.2.2.2.2.2.2.2.2.2.2.1], (f_impl_KeysInts a0.2.2.2.2.2.2.2.2.2.2.2.1), [(f_impl_bit a0.2.2.2.2.2.2.2.2.2.2.2.2)]])) none) none) none) none)
theorem ok_impl_HeadInts : OracOk Try.prog sigs O_impl_HeadInts := (orcX_ok rfl rfl (fun d g => said_slices_Concat_int d.1 g) (orcX_ok rfl rfl (fun d g => said_impl_bit d.1) (orcX_ok rfl rfl (fun d g => said_impl_KeysInts d.1 g) nilO_ok)))
def A_impl_HeadInts : Ann := fun b => ⟨[], []⟩
theorem aP_impl_HeadInts (f_impl_KeysInts : TKeys → (List Int)) (g_impl_KeysInts : TKeys → Bool) (f_impl_bit : Bool → Int) (f_slices_Concat_int : (List (List Int)) → (List Int)) (g_slices_Concat_int : (List (List Int)) → Bool) (n : Nat) (a0 : THead) : absF tab sigs (OP_impl_HeadInts f_impl_KeysInts g_impl_KeysInts f_impl_bit f_slices_Concat_int g_slices_Concat_int) A_impl_HeadInts Try.f17 [((.slice 3 (.int .i64)), (.own 0))] n [.val TyHead a0] = impl_HeadInts_P f_impl_KeysInts g_impl_KeysInts f_impl_bit f_slices_Concat_int g_slices_Concat_int (fun r0 => some [⟨(.slice 3 (.int .i64)), r0⟩])  a0 := by kernel_rfl
theorem a_impl_HeadInts (n : Nat) (a0 : THead) : absF tab sigs O_impl_HeadInts A_impl_HeadInts Try.f17 [((.slice 3 (.int .i64)), (.own 0))] n [.val TyHead a0] = impl_HeadInts (fun r0 => some [⟨(.slice 3 (.int .i64)), r0⟩])  a0 := aP_impl_HeadInts N.impl_KeysInts G.impl_KeysInts N.impl_bit N.slices_Concat_int G.slices_Concat_int n a0
theorem said_impl_HeadInts (a0 : THead) (g : G.impl_HeadInts a0 = true) : Said Try.prog sigs_17 17 [.val TyHead a0] [⟨(.slice 3 (.int .i64)), N.impl_HeadInts a0⟩] := said_len (T := tab) (A := A_impl_HeadInts) tabOk ok_impl_HeadInts tabOk.follows Try.func17 (by kernel_rfl) (by kernel_rfl) (fun hl => ⟨0, (a_impl_HeadInts 0 a0).trans (impl_HeadInts_ok (ρ := Ret) (fun r0 => some [⟨(.slice 3 (.int .i64)), r0⟩]) a0 hl.1 g)⟩)
/-! impl.EqualHeads -/
abbrev G.impl_EqualHeads (a b : THead) : Bool := decide (wH a ≤ 1048576) && decide (wH b ≤ 1048576)
abbrev N.impl_EqualHeads (a b : THead) : Bool := equalHeads a b
def impl_EqualHeads {ρ : Type} (k : Bool → Option ρ) (a0 : THead) (a1 : THead) : Option ρ := (cond (N.impl_EqualKeys a0.2.2.2.2.2.2.2.2.1 a1.2.2.2.2.2.2.2.2.1) (cond (N.impl_EqualKeys a0.2.2.2.2.2.2.2.2.2.1 a1.2.2.2.2.2.2.2.2.2.1) (cond (N.impl_EqualKeys a0.2.2.2.2.2.2.2.2.2.2.2.1 a1.2.2.2.2.2.2.2.2.2.2.2.1) (cond (G.impl_HeadInts a0) (cond (G.impl_HeadInts a1) (k (N.slices_Equal_int (N.impl_HeadInts a0) (N.impl_HeadInts a1))) none) none) (k false)) (k false)) (k false))
theorem impl_EqualHeads_ok {ρ : Type} (k : Bool → Option ρ) (a0 : THead) (a1 : THead) (l_a0 : (lenT TyHead a0)) (l_a1 : (lenT TyHead a1)) (g : G.impl_EqualHeads a0 a1 = true) : impl_EqualHeads k  a0 a1 = k (N.impl_EqualHeads a0 a1) := by
  unfold G.impl_EqualHeads at g
  have g' := (Bool.and_eq_true _ _).mp g
  simp only [impl_EqualHeads, N.impl_EqualKeys, G.impl_HeadInts, N.impl_HeadInts, N.slices_Equal_int, g'.1, g'.2, cond_true]
  rw [show N.impl_EqualHeads a0 a1 = _ from (equalHeads_impl a0 a1).symm]
  exact cond_and3 k _ _ _ _
def OP_impl_EqualHeads (f_impl_EqualKeys : TKeys → TKeys → Bool) (f_impl_HeadInts : THead → (List Int)) (g_impl_HeadInts : THead → Bool) (f_slices_Equal_int : (List Int) → (List Int) → Bool) : Orac := (orcX 35 [.val (.slice 3 (.int .i64)), .val (.slice 3 (.int .i64))] (fun d => true) (fun d => [⟨.bool, f_slices_Equal_int d.1 d.2.1⟩]) (orcX 17 [.val TyHead] (fun d => g_impl_HeadInts d.1) (fun d => [⟨(.slice 3 (.int .i64)), f_impl_HeadInts d.1⟩]) (orcX 34 [.val (.pair (.slice 3 (.int .i64)) (.int .i64)), .val (.pair (.slice 3 (.int .i64)) (.int .i64))] (fun d => true) (fun d => [⟨.bool, f_impl_EqualKeys d.1 d.2.1⟩]) nilO)))
def O_impl_EqualHeads : Orac := OP_impl_EqualHeads N.impl_EqualKeys N.impl_HeadInts G.impl_HeadInts N.slices_Equal_int
def impl_EqualHeads_P {ρ : Type} (f_impl_EqualKeys : TKeys → TKeys → Bool) (f_impl_HeadInts : THead → (List Int)) (g_impl_HeadInts : THead → Bool) (f_slices_Equal_int : (List Int) → (List Int) → Bool) (k : Bool → Option ρ) (a0 : THead) (a1 : THead) : Option ρ := (cond (f_impl_EqualKeys a0.2.2.2.2.2.2.2.2.1 a1.2.2.2.2.2.2.2.2.1) (cond (f_impl_EqualKeys a0.2.2.2.2.2.2.2.2.2.1 a1.2.2.2.2.2.2.2.2.2.1) (cond (f_impl_EqualKeys a0.2.2.2.2.2.2.2.2.2.2.2.1 a1.2.2.2.2.2.2.2.2.2.2.2.1) (cond (g_impl_HeadInts a0) (cond (g_impl_HeadInts a1) (k (f_slices_Equal_int (f_impl_HeadInts a0) (f_impl_HeadInts a1))) none) none) (k false)) (k false)) (k false))
theorem ok_impl_EqualHeads : OracOk Try.prog sigs O_impl_EqualHeads := (orcX_ok rfl rfl (fun d g => said_slices_Equal_int d.1 d.2.1) (orcX_ok rfl rfl (fun d g => said_impl_HeadInts d.1 g) (orcX_ok rfl rfl (fun d g => said_impl_EqualKeys d.1 d.2.1) nilO_ok)))
def A_impl_EqualHeads : Ann := fun b => ⟨[], []⟩
theorem aP_impl_EqualHeads (f_impl_EqualKeys : TKeys → TKeys → Bool) (f_impl_HeadInts : THead → (List Int)) (g_impl_HeadInts : THead → Bool) (f_slices_Equal_int : (List Int) → (List Int) → Bool) (n : Nat) (a0 : THead) (a1 : THead) : absF tab sigs (OP_impl_EqualHeads f_impl_EqualKeys f_impl_HeadInts g_impl_HeadInts f_slices_Equal_int) A_impl_EqualHeads Try.f10 [(.bool, .no)] n [.val TyHead a0, .val TyHead a1] = impl_EqualHeads_P f_impl_EqualKeys f_impl_HeadInts g_impl_HeadInts f_slices_Equal_int (fun r0 => some [⟨.bool, r0⟩])  a0 a1 := by kernel_rfl
theorem a_impl_EqualHeads (n : Nat) (a0 : THead) (a1 : THead) : absF tab sigs O_impl_EqualHeads A_impl_EqualHeads Try.f10 [(.bool, .no)] n [.val TyHead a0, .val TyHead a1] = impl_EqualHeads (fun r0 => some [⟨.bool, r0⟩])  a0 a1 := aP_impl_EqualHeads N.impl_EqualKeys N.impl_HeadInts G.impl_HeadInts N.slices_Equal_int n a0 a1
theorem said_impl_EqualHeads (a0 : THead) (a1 : THead) (g : G.impl_EqualHeads a0 a1 = true) : Said Try.prog sigs_10 10 [.val TyHead a0, .val TyHead a1] [⟨.bool, N.impl_EqualHeads a0 a1⟩] := said_len (T := tab) (A := A_impl_EqualHeads) tabOk ok_impl_EqualHeads tabOk.follows Try.func10 (by kernel_rfl) (by kernel_rfl) (fun hl => ⟨0, (a_impl_EqualHeads 0 a0 a1).trans (impl_EqualHeads_ok (ρ := Ret) (fun r0 => some [⟨.bool, r0⟩]) a0 a1 hl.1 hl.2.1 g)⟩)
/-! spec.KeysInts -/
abbrev G.spec_KeysInts (k : TKeys) : Bool := decide (wK k ≤ 1048576)
abbrev N.spec_KeysInts (k : TKeys) : List Int := keysInts k
def spec_KeysInts {ρ : Type} (k : (List Int) → Option ρ) (a0 : TKeys) : Option ρ := (cond (fit (List.length [a0.2, (List.length a0.1 : Int)]) (List.length a0.1)) (k (List.append [a0.2, (List.length a0.1 : Int)] a0.1)) none)
theorem spec_KeysInts_ok {ρ : Type} (k : (List Int) → Option ρ) (a0 : TKeys) (l_a0 : (lnL (fun _ => True) a0.1 ∧ True)) (g : G.spec_KeysInts a0 = true) : spec_KeysInts k  a0 = k (N.spec_KeysInts a0) := by
  unfold G.spec_KeysInts at g
  have h : wK a0 ≤ 1048576 := of_decide_eq_true g
  have h1 : fit (List.length [a0.2, (List.length a0.1 : Int)]) (List.length a0.1) = true := fit_of (by
    unfold wK at h
    simp
    omega)
  show cond _ _ none = _
  rw [h1]
  rfl
def O_spec_KeysInts : Orac := nilO
theorem ok_spec_KeysInts : OracOk Try.prog sigs O_spec_KeysInts := nilO_ok
def A_spec_KeysInts : Ann := fun b => ⟨[], []⟩
theorem a_spec_KeysInts (n : Nat) (a0 : TKeys) : absF tab sigs O_spec_KeysInts A_spec_KeysInts Try.f42 [((.slice 3 (.int .i64)), (.own 0))] n [.val (.pair (.slice 3 (.int .i64)) (.int .i64)) a0] = spec_KeysInts (fun r0 => some [⟨(.slice 3 (.int .i64)), r0⟩])  a0 := by kernel_rfl
theorem said_spec_KeysInts (a0 : TKeys) (g : G.spec_KeysInts a0 = true) : Said Try.prog sigs_42 42 [.val (.pair (.slice 3 (.int .i64)) (.int .i64)) a0] [⟨(.slice 3 (.int .i64)), N.spec_KeysInts a0⟩] := said_len (T := tab) (A := A_spec_KeysInts) tabOk ok_spec_KeysInts tabOk.follows Try.func42 (by kernel_rfl) (by kernel_rfl) (fun hl => ⟨0, (a_spec_KeysInts 0 a0).trans (spec_KeysInts_ok (ρ := Ret) (fun r0 => some [⟨(.slice 3 (.int .i64)), r0⟩]) a0 hl.1 g)⟩)
/-! spec.HeadInts -/
abbrev G.spec_HeadInts (h : THead) : Bool := decide (wH h ≤ 1048576)
abbrev N.spec_HeadInts (h : THead) : List Int := headInts h
def spec_HeadInts {ρ : Type} (k : (List Int) → Option ρ) (a0 : THead) : Option ρ := (cond (G.spec_KeysInts a0.2.2.2.2.2.2.2.2.1) (cond (fit (List.length [a0.1, a0.2.1, a0.2.2.1, a0.2.2.2.1, a0.2.2.2.2.1, a0.2.2.2.2.2.1, a0.2.2.2.2.2.2.1, a0.2.2.2.2.2.2.2.1]) (List.length (N.spec_KeysInts a0.2.2.2.2.2.2.2.2.1))) (cond (G.spec_KeysInts a0.2.2.2.2.2.2.2.2.2.1) (cond (fit (List.length (List.append [a0.1, a0.2.1, a0.2.2.1, a0.2.2.2.1, a0.2.2.2.2.1, a0.2.2.2.2.2.1, a0.2.2.2.2.2.2.1, a0.2.2.2.2.2.2.2.1] (N.spec_KeysInts a0.2.2.2.2.2.2.2.2.1))) (List.length (N.spec_KeysInts a0.2.2.2.2.2.2.2.2.2.1))) (cond (fit (List.length (List.append (List.append [a0.1, a0.2.1, a0.2.2.1, a0.2.2.2.1, a0.2.2.2.2.1, a0.2.2.2.2.2.1, a0.2.2.2.2.2.2.1, a0.2.2.2.2.2.2.2.1] (N.spec_KeysInts a0.2.2.2.2.2.2.2.2.1)) (N.spec_KeysInts a0.2.2.2.2.2.2.2.2.2.1))) (List.length [a0.2.2.2.2.2.2.2.2.2.2.1])) (cond (G.spec_KeysInts a0.2.2.2.2.2.2.2.2.2.2.2.1) (cond (fit (List.length (List.append (List.append (List.append [a0.1, a0.2.1, a0.2.2.1, a0.2.2.2.1, a0.2.2.2.2.1, a0.2.2.2.2.2.1, a0.2.2.2.2.2.2.1, a0.2.2.2.2.2.2.2.1] (N.spec_KeysInts a0.2.2.2.2.2.2.2.2.1)) (N.spec_KeysInts a0.2.2.2.2.2.2.2.2.2.1)) [a0.2.2.2.2.2.2.2.2.2.2.1])) (List.length (N.spec_KeysInts a0.2.2.2.2.2.2.2.2.2.2.2.1))) (cond a0.2.2.2.2.2.2.2.2.2.2.2.2 (cond (fit (List.length (List.append (List.append (List.append (List.append [a0.1, a0.2.1, a0.2.2.1, a0.2.2.2.1, a0.2.2.2.2.1, a0.2.2.2.2.2.1, a0.2.2.2.2.2.2.1, a0.2.2.2.2.2.2.2.1] (N.spec_KeysInts a0.2.2.2.2.2.2.2.2.1)) (N.spec_KeysInts a0.2.2.2.2.2.2.2.2.2.1)) [a0.2.2.2.2.2.2.2.2.2.2.1]) (N.spec_KeysInts a0.2.2.2.2.2.2.2.2.2.2.2.1))) (List.length [(1 : Int)])) (k (List.append (List.append (List.append (List.append (List.append [a0.1, a0.2.1, a0.2.2.1, a0.2.2.2.1, a0.2.2.2.2.1, a0.2.2.2.2.2.1, a0.2.2.2.2.2.2.1, a0.2.2.2.2.2.2.2.1] (N.spec_KeysInts a0.2.2.2.2.2.2.2.2.1)) (N.spec_KeysInts a0.2.2.2.2.2.2.2.2.2.1)) [a0.2.2.2.2.2.2.2.2.2.2.1]) (N.spec_KeysInts a0.2.2.2.2.2.2.2.2.2.2.2.1)) [(1 : Int)])) none) (cond (fit (List.length (List.append (List.append (List.append (List.append [a0.1, a0.2.1, a0.2.2.1, a0.2.2.2.1, a0.2.2.2.2.1, a0.2.2.2.2.2.1, a0.2.2.2.2.2.2.1, a0.2.2.2.2.2.2.2.1] (N.spec_KeysInts a0.2.2.2.2.2.2.2.2.1)) (N.spec_KeysInts a0.2.2.2.2.2.2.2.2.2.1)) [a0.2.2.2.2.2.2.2.2.2.2.1]) (N.spec_KeysInts a0.2.2.2.2.2.2.2.2.2.2.2.1))) (List.length [(0 : Int)])) (k (List.append (List.append (List.append (List.append (List.append [a0.1, a0.2.1, a0.2.2.1, a0.2.2.2.1, a0.2.2.2.2.1, a0.2.2.2.2.2.1, a0.2.2.2.2.2.2.1, a0.2.2.2.2.2.2.2.1] (N.spec_KeysInts a0.2.2.2.2.2.2.2.2.1)) (N.spec_KeysInts a0.2.2.2.2.2.2.2.2.2.1)) [a0.2.2.2.2.2.2.2.2.2.2.1]) (N.spec_KeysInts a0.2.2.2.2.2.2.2.2.2.2.2.1)) [(0 : Int)])) none)) none) none) none) none) none) none) none)
theorem spec_HeadInts_ok {ρ : Type} (k : (List Int) → Option ρ) (a0 : THead) (l_a0 : (lenT TyHead a0)) (g : G.spec_HeadInts a0 = true) : spec_HeadInts k  a0 = k (N.spec_HeadInts a0) := by
  unfold G.spec_HeadInts at g
  have hw : wH a0 ≤ 1048576 := of_decide_eq_true g
  unfold wH at hw
  have g1 : decide (wK a0.2.2.2.2.2.2.2.2.1 ≤ 1048576) = true := decide_eq_true (by omega)
  have g2 : decide (wK a0.2.2.2.2.2.2.2.2.2.1 ≤ 1048576) = true := decide_eq_true (by omega)
  have g3 : decide (wK a0.2.2.2.2.2.2.2.2.2.2.2.1 ≤ 1048576) = true := decide_eq_true (by omega)
  have ft : ∀ n m : Nat, n ≤ 4194304 → m ≤ 4194304 → fit n m = true := fun n m h1 h2 => fit_of (by omega)
  simp only [spec_HeadInts, G.spec_KeysInts, N.spec_KeysInts, g1, g2, g3, cond_true, N.spec_HeadInts, headInts, List.append_eq]
  rw [ft _ _ (by simp) (by rw [keysInts_len]; omega)]
  rw [ft _ _ (by simp [keysInts_len]; omega) (by rw [keysInts_len]; omega)]
  rw [ft _ _ (by simp [keysInts_len]; omega) (by simp)]
  rw [ft _ _ (by simp [keysInts_len]; omega) (by rw [keysInts_len]; omega)]
  cases a0.2.2.2.2.2.2.2.2.2.2.2.2
  · simp only [cond_true, cond_false]
    rw [ft _ _ (by simp [keysInts_len]; omega) (by simp)]
    simp [bitOf]
  · simp only [cond_true, cond_false]
    rw [ft _ _ (by simp [keysInts_len]; omega) (by simp)]
    simp [bitOf]
def OP_spec_HeadInts (f_spec_KeysInts : TKeys → (List Int)) (g_spec_KeysInts : TKeys → Bool) : Orac := (orcX 42 [.val (.pair (.slice 3 (.int .i64)) (.int .i64))] (fun d => g_spec_KeysInts d.1) (fun d => [⟨(.slice 3 (.int .i64)), f_spec_KeysInts d.1⟩]) nilO)
def O_spec_HeadInts : Orac := OP_spec_HeadInts N.spec_KeysInts G.spec_KeysInts
def spec_HeadInts_P {ρ : Type} (f_spec_KeysInts : TKeys → (List Int)) (g_spec_KeysInts : TKeys → Bool) (k : (List Int) → Option ρ) (a0 : THead) : Option ρ := (cond (g_spec_KeysInts a0.2.2.2.2.2.2.2.2.1) (cond (fit (List.length [a0.1, a0.2.1, a0.2.2.1, a0.2.2.2.1, a0.2.2.2.2.1, a0.2.2.2.2.2.1, a0.2.2.2.2.2.2.1, a0.2.2.2.2.2.2.2.1]) (List.length (f_spec_KeysInts a0.2.2.2.2.2.2.2.2.1))) (cond (g_spec_KeysInts a0.2.2.2.2.2.2.2.2.2.1) (cond (fit (List.length (List.append [a0.1, a0.2.1, a0.2.2.1, a0.2.2.2.1, a0.2.2.2.2.1, a0.2.2.2.2.2.1, a0.2.2.2.2.2.2.1, a0.2.2.2.2.2.2.2.1] (f_spec_KeysInts a0.2.2.2.2.2.2.2.2.1))) (List.length (f_spec_KeysInts a0.2.2.2.2.2.2.2.2.2.1))) (cond (fit (List.length (List.append (List.append [a0.1, a0.2.1, a0.2.2.1, a0.2.2.2.1, a0.2.2.2.2.1, a0.2.2.2.2.2.1, a0.2.2.2.2.2.2.1, a0.2.2.2.2.2.2.2.1] (f_spec_KeysInts a0.2.2.2.2.2.2.2.2.1)) (f_spec_KeysInts a0.2.2.2.2.2.2.2.2.2.1))) (List.length [a0.2.2.2.2.2.2.2.2.2.2.1])) (cond (g_spec_KeysInts a0.2.2.2.2.2.2.2.2.2.2.2.1) (cond (fit (List.length (List.append (List.append (List.append [a0.1, a0.2.1, a0.2.2.1, a0.2.2.2.1, a0.2.2.2.2.1, a0.2.2.2.2.2.1, a0.2.2.2.2.2.2.1, a0.2.2.2.2.2.2.2.1] (f_spec_KeysInts a0.2.2.2.2.2.2.2.2.1)) (f_spec_KeysInts a0.2.2.2.2.2.2.2.2.2.1)) [a0.2.2.2.2.2.2.2.2.2.2.1])) (List.length (f_spec_KeysInts a0.2.2.2.2.2.2.2.2.2.2.2.1))) (cond a0.2.2.2.2.2.2.2.2.2.2.2.2 (cond (fit (List.length (List.append (List.append (List.append (List.append [a0.1, a0.2.1, a0.2.2.1, a0.2.2.2.1, a0.2.2.2.2.1, a0.2.2.2.2.2.1, a0.2.2.2.2.2.2.1, a0.2.2.2.2.2.2.2.1] (f_spec_KeysInts a0.2.2.2.2.2.2.2.2.1)) (f_spec_KeysInts a0.2.2.2.2.2.2.2.2.2.1)) [a0.2.2.2.2.2.2.2.2.2.2.1]) (f_spec_KeysInts a0.2.2.2.2.2.2.2.2.2.2.2.1))) (List.length [(1 : Int)])) (k (List.append (List.append (List.append (List.append (List.append [a0.1, a0.2.1, a0.2.2.1, a0.2.2.2.1, a0.2.2.2.2.1, a0.2.2.2.2.2.1, a0.2.2.2.2.2.2.1, a0.2.2.2.2.2.2.2.1] (f_spec_KeysInts a0.2.2.2.2.2.2.2.2.1)) (f_spec_KeysInts a0.2.2.2.2.2.2.2.2.2.1)) [a0.2.2.2.2.2.2.2.2.2.2.1]) (f_spec_KeysInts a0.2.2.2.2.2.2.2.2.2.2.2.1)) [(1 : Int)])) none) (cond (fit (List.length (List.append (List.append (List.append (List.append [a0.1, a0.2.1, a0.2.2.1, a0.2.2.2.1, a0.2.2.2.2.1, a0.2.2.2.2.2.1, a0.2.2.2.2.2.2.1, a0.2.2.2.2.2.2.2.1] (f_spec_KeysInts a0.2.2.2.2.2.2.2.2.1)) (f_spec_KeysInts a0.2.2.2.2.2.2.2.2.2.1)) [a0.2.2.2.2.2.2.2.2.2.2.1]) (f_spec_KeysInts a0.2.2.2.2.2.2.2.2.2.2.2.1))) (List.length [(0 : Int)])) (k (List.append (List.append (List.append (List.append (List.append [a0.1, a0.2.1, a0.2.2.1, a0.2.2.2.1, a0.2.2.2.2.1, a0.2.2.2.2.2.1, a0.2.2.2.2.2.2.1, a0.2.2.2.2.2.2.2.1] (f_spec_KeysInts a0.2.2.2.2.2.2.2.2.1)) (f_spec_KeysInts a0.2.2.2.2.2.2.2.2.2.1)) [a0.2.2.2.2.2.2.2.2.2.2.1]) (f_spec_KeysInts a0.2.2.2.2.2.2.2.2.2.2.2.1)) [(0 : Int)])) none)) none) none) none) none) none) none) none)
theorem ok_spec_HeadInts : OracOk Try.prog sigs O_spec_HeadInts := (orcX_ok rfl rfl (fun d g => said_spec_KeysInts d.1 g) nilO_ok)
def A_spec_HeadInts : Ann := fun b => ⟨[], []⟩
theorem aP_spec_HeadInts (f_spec_KeysInts : TKeys → (List Int)) (g_spec_KeysInts : TKeys → Bool) (n : Nat) (a0 : THead) : absF tab sigs (OP_spec_HeadInts f_spec_KeysInts g_spec_KeysInts) A_spec_HeadInts Try.f18 [((.slice 3 (.int .i64)), (.own 0))] n [.val TyHead a0] = spec_HeadInts_P f_spec_KeysInts g_spec_KeysInts (fun r0 => some [⟨(.slice 3 (.int .i64)), r0⟩])  a0 := by kernel_rfl
theorem a_spec_HeadInts (n : Nat) (a0 : THead) : absF tab sigs O_spec_HeadInts A_spec_HeadInts Try.f18 [((.slice 3 (.int .i64)), (.own 0))] n [.val TyHead a0] = spec_HeadInts (fun r0 => some [⟨(.slice 3 (.int .i64)), r0⟩])  a0 := aP_spec_HeadInts N.spec_KeysInts G.spec_KeysInts n a0
theorem said_spec_HeadInts (a0 : THead) (g : G.spec_HeadInts a0 = true) : Said Try.prog sigs_18 18 [.val TyHead a0] [⟨(.slice 3 (.int .i64)), N.spec_HeadInts a0⟩] := said_len (T := tab) (A := A_spec_HeadInts) tabOk ok_spec_HeadInts tabOk.follows Try.func18 (by kernel_rfl) (by kernel_rfl) (fun hl => ⟨0, (a_spec_HeadInts 0 a0).trans (spec_HeadInts_ok (ρ := Ret) (fun r0 => some [⟨(.slice 3 (.int .i64)), r0⟩]) a0 hl.1 g)⟩)
/-! spec.EqualInts -/
abbrev N.spec_EqualInts (a b : List Int) : Bool := eqInts a b
def spec_EqualInts_L0 {ρ : Type} (k : Bool → Option ρ) (L0 : (List Int) → (List Int) → Int → Option ρ) (v0_0 : (List Int)) (v0_1 : (List Int)) (v0_2 : Int) : Option ρ := (cond (decide (v0_2 < (List.length v0_0 : Int))) (cond (inRange v0_2 (List.length v0_0)) (cond (inRange v0_2 (List.length v0_1)) (cond ((List.getD v0_0 (Int.toNat v0_2) (0 : Int)) != (List.getD v0_1 (Int.toNat v0_2) (0 : Int))) (k false) (L0 v0_0 v0_1 (IntKind.wrap .i64 (v0_2 + (1 : Int))))) none) none) (k true))
def spec_EqualInts {ρ : Type} (k : Bool → Option ρ) (L0 : (List Int) → (List Int) → Int → Option ρ) (a0 : (List Int)) (a1 : (List Int)) : Option ρ := (cond ((List.length a0 : Int) != (List.length a1 : Int)) (k false) (L0 a0 a1 (0 : Int)))
theorem spec_EqualInts_ok {ρ : Type} (k : Bool → Option ρ) (a0 : (List Int)) (a1 : (List Int)) (l_a0 : lnL (fun _ => True) a0) (l_a1 : lnL (fun _ => True) a1) : ∃ n0, ∀ n, n0 ≤ n → ∀ (L0 : Nat → (List Int) → (List Int) → Int → Option ρ) (h0 : ∀ ( m : Nat) (v0_0 : (List Int)) (v0_1 : (List Int)) (v0_2 : Int), L0 (m + 1) v0_0 v0_1 v0_2 = spec_EqualInts_L0 k (L0 m) v0_0 v0_1 v0_2), spec_EqualInts k (L0 n) a0 a1 = k (N.spec_EqualInts a0 a1) := by
  exact ⟨a0.length + 1, fun n hn L0 h0 => eq_all (p := fun x y => x == y) (d := 0) l_a0.1 (L := fun m i => L0 m a0 a1 i) (fun m i => h0 m a0 a1 i) hn⟩
def O_spec_EqualInts : Orac := nilO
theorem ok_spec_EqualInts : OracOk Try.prog sigs O_spec_EqualInts := nilO_ok
def A_spec_EqualInts : Ann := fun b => cond (Nat.beq b 0) ⟨[(0, false), (1, false), (5, false)], []⟩ (⟨[], []⟩)
def S_spec_EqualInts_0 (v0_0 : (List Int)) (v0_1 : (List Int)) (v0_2 : Int) : St := [(kT 0, some (.tv (.v (.slice 3 (.int .i64)) v0_0 .no))), (kT 1, some (.tv (.v (.slice 3 (.int .i64)) v0_1 .no))), (kT 5, some (.tv (.v (.int .i64) v0_2 .no)))]
noncomputable def L_spec_EqualInts_0 (n m : Nat) : St → Option Ret := loopOf tab sigs O_spec_EqualInts A_spec_EqualInts Try.f36 [(.bool, .no)] n (fun _ => 0) 0 m
theorem b_spec_EqualInts_0 (n m : Nat) (v0_0 : (List Int)) (v0_1 : (List Int)) (v0_2 : Int) : L_spec_EqualInts_0 n (m + 1) (S_spec_EqualInts_0 v0_0 v0_1 v0_2) = spec_EqualInts_L0 (fun r0 => some [⟨.bool, r0⟩]) (fun v0_0 v0_1 v0_2 => L_spec_EqualInts_0 n m (S_spec_EqualInts_0 v0_0 v0_1 v0_2)) v0_0 v0_1 v0_2 := by kernel_rfl
theorem a_spec_EqualInts (n : Nat) (a0 : (List Int)) (a1 : (List Int)) : absF tab sigs O_spec_EqualInts A_spec_EqualInts Try.f36 [(.bool, .no)] n [.val (.slice 3 (.int .i64)) a0, .val (.slice 3 (.int .i64)) a1] = spec_EqualInts (fun r0 => some [⟨.bool, r0⟩]) (fun v0_0 v0_1 v0_2 => L_spec_EqualInts_0 n n (S_spec_EqualInts_0 v0_0 v0_1 v0_2)) a0 a1 := by kernel_rfl
theorem said_spec_EqualInts (a0 : (List Int)) (a1 : (List Int)) : Said Try.prog sigs_36 36 [.val (.slice 3 (.int .i64)) a0, .val (.slice 3 (.int .i64)) a1] [⟨.bool, N.spec_EqualInts a0 a1⟩] := said_len (T := tab) (A := A_spec_EqualInts) tabOk ok_spec_EqualInts tabOk.follows Try.func36 (by kernel_rfl) (by kernel_rfl) (fun hl => let ⟨n, hn⟩ := spec_EqualInts_ok (ρ := Ret) (fun r0 => some [⟨.bool, r0⟩]) a0 a1 hl.1 hl.2.1; ⟨n, (a_spec_EqualInts n a0 a1).trans (hn n (Nat.le_refl n) (fun  m v0_0 v0_1 v0_2 => L_spec_EqualInts_0 n  m (S_spec_EqualInts_0 v0_0 v0_1 v0_2)) (fun  m v0_0 v0_1 v0_2 => b_spec_EqualInts_0 n  m v0_0 v0_1 v0_2))⟩)
/-! spec.EqualHeads -/
abbrev G.spec_EqualHeads (a b : THead) : Bool := decide (wH a ≤ 1048576) && decide (wH b ≤ 1048576)
abbrev N.spec_EqualHeads (a b : THead) : Bool := equalHeads a b
def spec_EqualHeads {ρ : Type} (k : Bool → Option ρ) (a0 : THead) (a1 : THead) : Option ρ := (cond (G.spec_HeadInts a0) (cond (G.spec_HeadInts a1) (cond (N.spec_EqualInts (N.spec_HeadInts a0) (N.spec_HeadInts a1)) (k (a0.2.2.2.2.2.2.2.2.2.2.2.2 == a1.2.2.2.2.2.2.2.2.2.2.2.2)) (k false)) none) none)
theorem spec_EqualHeads_ok {ρ : Type} (k : Bool → Option ρ) (a0 : THead) (a1 : THead) (l_a0 : (lenT TyHead a0)) (l_a1 : (lenT TyHead a1)) (g : G.spec_EqualHeads a0 a1 = true) : spec_EqualHeads k  a0 a1 = k (N.spec_EqualHeads a0 a1) := by
  unfold G.spec_EqualHeads at g
  have g' := (Bool.and_eq_true _ _).mp g
  show cond (decide (wH a0 ≤ 1048576)) (cond (decide (wH a1 ≤ 1048576)) (cond (eqInts (headInts a0) (headInts a1)) (k (a0.2.2.2.2.2.2.2.2.2.2.2.2 == a1.2.2.2.2.2.2.2.2.2.2.2.2)) (k false)) none) none = _
  rw [g'.1, g'.2]
  exact cond_and k _ _
def OP_spec_EqualHeads (f_spec_HeadInts : THead → (List Int)) (g_spec_HeadInts : THead → Bool) (f_spec_EqualInts : (List Int) → (List Int) → Bool) : Orac := (orcX 36 [.val (.slice 3 (.int .i64)), .val (.slice 3 (.int .i64))] (fun d => true) (fun d => [⟨.bool, f_spec_EqualInts d.1 d.2.1⟩]) (orcX 18 [.val TyHead] (fun d => g_spec_HeadInts d.1) (fun d => [⟨(.slice 3 (.int .i64)), f_spec_HeadInts d.1⟩]) nilO))
def O_spec_EqualHeads : Orac := OP_spec_EqualHeads N.spec_HeadInts G.spec_HeadInts N.spec_EqualInts
def spec_EqualHeads_P {ρ : Type} (f_spec_HeadInts : THead → (List Int)) (g_spec_HeadInts : THead → Bool) (f_spec_EqualInts : (List Int) → (List Int) → Bool) (k : Bool → Option ρ) (a0 : THead) (a1 : THead) : Option ρ := (cond (g_spec_HeadInts a0) (cond (g_spec_HeadInts a1) (cond (f_spec_EqualInts (f_spec_HeadInts a0) (f_spec_HeadInts a1)) (k (a0.2.2.2.2.2.2.2.2.2.2.2.2 == a1.2.2.2.2.2.2.2.2.2.2.2.2)) (k false)) none) none)
theorem ok_spec_EqualHeads : OracOk Try.prog sigs O_spec_EqualHeads := (orcX_ok rfl rfl (fun d g => said_spec_EqualInts d.1 d.2.1) (orcX_ok rfl rfl (fun d g => said_spec_HeadInts d.1 g) nilO_ok))
def A_spec_EqualHeads : Ann := fun b => ⟨[], []⟩
theorem aP_spec_EqualHeads (f_spec_HeadInts : THead → (List Int)) (g_spec_HeadInts : THead → Bool) (f_spec_EqualInts : (List Int) → (List Int) → Bool) (n : Nat) (a0 : THead) (a1 : THead) : absF tab sigs (OP_spec_EqualHeads f_spec_HeadInts g_spec_HeadInts f_spec_EqualInts) A_spec_EqualHeads Try.f11 [(.bool, .no)] n [.val TyHead a0, .val TyHead a1] = spec_EqualHeads_P f_spec_HeadInts g_spec_HeadInts f_spec_EqualInts (fun r0 => some [⟨.bool, r0⟩])  a0 a1 := by kernel_rfl
theorem a_spec_EqualHeads (n : Nat) (a0 : THead) (a1 : THead) : absF tab sigs O_spec_EqualHeads A_spec_EqualHeads Try.f11 [(.bool, .no)] n [.val TyHead a0, .val TyHead a1] = spec_EqualHeads (fun r0 => some [⟨.bool, r0⟩])  a0 a1 := aP_spec_EqualHeads N.spec_HeadInts G.spec_HeadInts N.spec_EqualInts n a0 a1
theorem said_spec_EqualHeads (a0 : THead) (a1 : THead) (g : G.spec_EqualHeads a0 a1 = true) : Said Try.prog sigs_11 11 [.val TyHead a0, .val TyHead a1] [⟨.bool, N.spec_EqualHeads a0 a1⟩] := said_len (T := tab) (A := A_spec_EqualHeads) tabOk ok_spec_EqualHeads tabOk.follows Try.func11 (by kernel_rfl) (by kernel_rfl) (fun hl => ⟨0, (a_spec_EqualHeads 0 a0 a1).trans (spec_EqualHeads_ok (ρ := Ret) (fun r0 => some [⟨.bool, r0⟩]) a0 a1 hl.1 hl.2.1 g)⟩)
/-! spec.Mod -/
abbrev N.spec_Mod (n m : Int) : Int := modM n m
def spec_Mod {ρ : Type} (k : Int → Option ρ) (a0 : Int) (a1 : Int) : Option ρ := (cond (!(N.spec_l1In a1 (1 : Int) (1000000000000 : Int))) (k (0 : Int)) (cond (!(decide (a1 = 0))) (cond (!(decide (a1 = 0))) (k (Int.tmod (IntKind.wrap .i64 ((Int.tmod a0 a1) + a1)) a1)) none) none))
theorem spec_Mod_ok {ρ : Type} (k : Int → Option ρ) (a0 : Int) (a1 : Int) : spec_Mod k  a0 a1 = k (N.spec_Mod a0 a1) := by
  simp only [spec_Mod, N.spec_l1In, modM]
  cases h : inR a1 1 1000000000000
  · rfl
  · have h1 : 1 ≤ a1 := by
      unfold inR at h
      simp only [Bool.and_eq_true, decide_eq_true_eq] at h
      exact h.1
    have h2 : decide (a1 = 0) = false := by simp; omega
    simp [h2]
def OP_spec_Mod (f_spec_l1In : Int → Int → Int → Bool) : Orac := (orcX 31 [.val (.int .i64), .val (.int .i64), .val (.int .i64)] (fun d => true) (fun d => [⟨.bool, f_spec_l1In d.1 d.2.1 d.2.2.1⟩]) nilO)
def O_spec_Mod : Orac := OP_spec_Mod N.spec_l1In
def spec_Mod_P {ρ : Type} (f_spec_l1In : Int → Int → Int → Bool) (k : Int → Option ρ) (a0 : Int) (a1 : Int) : Option ρ := (cond (!(f_spec_l1In a1 (1 : Int) (1000000000000 : Int))) (k (0 : Int)) (cond (!(decide (a1 = 0))) (cond (!(decide (a1 = 0))) (k (Int.tmod (IntKind.wrap .i64 ((Int.tmod a0 a1) + a1)) a1)) none) none))
theorem ok_spec_Mod : OracOk Try.prog sigs O_spec_Mod := (orcX_ok rfl rfl (fun d g => said_spec_l1In d.1 d.2.1 d.2.2.1) nilO_ok)
def A_spec_Mod : Ann := fun b => ⟨[], []⟩
theorem aP_spec_Mod (f_spec_l1In : Int → Int → Int → Bool) (n : Nat) (a0 : Int) (a1 : Int) : absF tab sigs (OP_spec_Mod f_spec_l1In) A_spec_Mod Try.f51 [((.int .i64), .no)] n [.val (.int .i64) a0, .val (.int .i64) a1] = spec_Mod_P f_spec_l1In (fun r0 => some [⟨(.int .i64), r0⟩])  a0 a1 := by kernel_rfl
theorem a_spec_Mod (n : Nat) (a0 : Int) (a1 : Int) : absF tab sigs O_spec_Mod A_spec_Mod Try.f51 [((.int .i64), .no)] n [.val (.int .i64) a0, .val (.int .i64) a1] = spec_Mod (fun r0 => some [⟨(.int .i64), r0⟩])  a0 a1 := aP_spec_Mod N.spec_l1In n a0 a1
theorem said_spec_Mod (a0 : Int) (a1 : Int) : Said Try.prog sigs_51 51 [.val (.int .i64) a0, .val (.int .i64) a1] [⟨(.int .i64), N.spec_Mod a0 a1⟩] := said_len (T := tab) (A := A_spec_Mod) tabOk ok_spec_Mod tabOk.follows Try.func51 (by kernel_rfl) (by kernel_rfl) (fun hl => ⟨0, (a_spec_Mod 0 a0 a1).trans (spec_Mod_ok (ρ := Ret) (fun r0 => some [⟨(.int .i64), r0⟩]) a0 a1)⟩)
/-! spec.Hash -/
abbrev N.spec_Hash (l : List Int) : Int := hash l
def spec_Hash_L0 {ρ : Type} (k : Int → Option ρ) (L0 : (List Int) → Int → Int → Option ρ) (v0_0 : (List Int)) (v0_1 : Int) (v0_2 : Int) : Option ρ := (cond (decide (v0_2 < (List.length v0_0 : Int))) (cond (inRange v0_2 (List.length v0_0)) (L0 v0_0 (Int.tmod (IntKind.wrap .i64 ((IntKind.wrap .i64 ((IntKind.wrap .i64 (v0_1 * (1000003 : Int))) + (N.spec_Mod (List.getD v0_0 (Int.toNat v0_2) (0 : Int)) (2147483647 : Int)))) + (13 : Int))) (2147483647 : Int)) (IntKind.wrap .i64 (v0_2 + (1 : Int)))) none) (k v0_1))
def spec_Hash {ρ : Type} (k : Int → Option ρ) (L0 : (List Int) → Int → Int → Option ρ) (a0 : (List Int)) : Option ρ := (L0 a0 (11 : Int) (0 : Int))
theorem spec_Hash_ok {ρ : Type} (k : Int → Option ρ) (a0 : (List Int)) (l_a0 : lnL (fun _ => True) a0) : ∃ n0, ∀ n, n0 ≤ n → ∀ (L0 : Nat → (List Int) → Int → Int → Option ρ) (h0 : ∀ ( m : Nat) (v0_0 : (List Int)) (v0_1 : Int) (v0_2 : Int), L0 (m + 1) v0_0 v0_1 v0_2 = spec_Hash_L0 k (L0 m) v0_0 v0_1 v0_2), spec_Hash k (L0 n) a0 = k (N.spec_Hash a0) := by
  refine ⟨a0.length + 1, fun n hn L0 h0 => ?_⟩
  refine raw_foldl (a := a0) 0 hashStep (k := k) (L := fun m i s => L0 m a0 s i) (R := fun i s c => spec_Hash_L0 k (fun _ s i => c i s) a0 s i) (fun m i s => h0 m a0 s i) (fun _ _ => True) (fun j s c hj _ => ?_) (fun _ _ _ _ => trivial) (fun s c => ?_) hn trivial
  · have : j < big := by have := l_a0.1; omega
    simp [spec_Hash_L0, lt_nat, inRange_nat, hj, wrap_succ this, hashStep]
  · simp [spec_Hash_L0]
def OP_spec_Hash (f_spec_Mod : Int → Int → Int) : Orac := (orcX 51 [.val (.int .i64), .val (.int .i64)] (fun d => true) (fun d => [⟨(.int .i64), f_spec_Mod d.1 d.2.1⟩]) nilO)
def O_spec_Hash : Orac := OP_spec_Hash N.spec_Mod
def spec_Hash_P_L0 {ρ : Type} (f_spec_Mod : Int → Int → Int) (k : Int → Option ρ) (L0 : (List Int) → Int → Int → Option ρ) (v0_0 : (List Int)) (v0_1 : Int) (v0_2 : Int) : Option ρ := (cond (decide (v0_2 < (List.length v0_0 : Int))) (cond (inRange v0_2 (List.length v0_0)) (L0 v0_0 (Int.tmod (IntKind.wrap .i64 ((IntKind.wrap .i64 ((IntKind.wrap .i64 (v0_1 * (1000003 : Int))) + (f_spec_Mod (List.getD v0_0 (Int.toNat v0_2) (0 : Int)) (2147483647 : Int)))) + (13 : Int))) (2147483647 : Int)) (IntKind.wrap .i64 (v0_2 + (1 : Int)))) none) (k v0_1))
def spec_Hash_P {ρ : Type} (f_spec_Mod : Int → Int → Int) (k : Int → Option ρ) (L0 : (List Int) → Int → Int → Option ρ) (a0 : (List Int)) : Option ρ := (L0 a0 (11 : Int) (0 : Int))
theorem ok_spec_Hash : OracOk Try.prog sigs O_spec_Hash := (orcX_ok rfl rfl (fun d g => said_spec_Mod d.1 d.2.1) nilO_ok)
def A_spec_Hash : Ann := fun b => cond (Nat.beq b 0) ⟨[(0, false), (3, false), (4, false)], []⟩ (⟨[], []⟩)
def S_spec_Hash_0 (v0_0 : (List Int)) (v0_1 : Int) (v0_2 : Int) : St := [(kT 0, some (.tv (.v (.slice 3 (.int .i64)) v0_0 .no))), (kT 3, some (.tv (.v (.int .i64) v0_1 .no))), (kT 4, some (.tv (.v (.int .i64) v0_2 .no)))]
noncomputable def L_P_spec_Hash_0 (f_spec_Mod : Int → Int → Int) (n m : Nat) : St → Option Ret := loopOf tab sigs (OP_spec_Hash f_spec_Mod) A_spec_Hash Try.f38 [((.int .i64), .no)] n (fun _ => 0) 0 m
noncomputable def L_spec_Hash_0 (n m : Nat) : St → Option Ret := L_P_spec_Hash_0 N.spec_Mod n m
theorem bP_spec_Hash_0 (f_spec_Mod : Int → Int → Int) (n m : Nat) (v0_0 : (List Int)) (v0_1 : Int) (v0_2 : Int) : L_P_spec_Hash_0 f_spec_Mod n (m + 1) (S_spec_Hash_0 v0_0 v0_1 v0_2) = spec_Hash_P_L0 f_spec_Mod (fun r0 => some [⟨(.int .i64), r0⟩]) (fun v0_0 v0_1 v0_2 => L_P_spec_Hash_0 f_spec_Mod n m (S_spec_Hash_0 v0_0 v0_1 v0_2)) v0_0 v0_1 v0_2 := by kernel_rfl
theorem b_spec_Hash_0 (n m : Nat) (v0_0 : (List Int)) (v0_1 : Int) (v0_2 : Int) : L_spec_Hash_0 n (m + 1) (S_spec_Hash_0 v0_0 v0_1 v0_2) = spec_Hash_L0 (fun r0 => some [⟨(.int .i64), r0⟩]) (fun v0_0 v0_1 v0_2 => L_spec_Hash_0 n m (S_spec_Hash_0 v0_0 v0_1 v0_2)) v0_0 v0_1 v0_2 := bP_spec_Hash_0 N.spec_Mod n m v0_0 v0_1 v0_2
theorem aP_spec_Hash (f_spec_Mod : Int → Int → Int) (n : Nat) (a0 : (List Int)) : absF tab sigs (OP_spec_Hash f_spec_Mod) A_spec_Hash Try.f38 [((.int .i64), .no)] n [.val (.slice 3 (.int .i64)) a0] = spec_Hash_P f_spec_Mod (fun r0 => some [⟨(.int .i64), r0⟩]) (fun v0_0 v0_1 v0_2 => L_P_spec_Hash_0 f_spec_Mod n n (S_spec_Hash_0 v0_0 v0_1 v0_2)) a0 := by kernel_rfl
theorem a_spec_Hash (n : Nat) (a0 : (List Int)) : absF tab sigs O_spec_Hash A_spec_Hash Try.f38 [((.int .i64), .no)] n [.val (.slice 3 (.int .i64)) a0] = spec_Hash (fun r0 => some [⟨(.int .i64), r0⟩]) (fun v0_0 v0_1 v0_2 => L_spec_Hash_0 n n (S_spec_Hash_0 v0_0 v0_1 v0_2)) a0 := aP_spec_Hash N.spec_Mod n a0
theorem said_spec_Hash (a0 : (List Int)) : Said Try.prog sigs_38 38 [.val (.slice 3 (.int .i64)) a0] [⟨(.int .i64), N.spec_Hash a0⟩] := said_len (T := tab) (A := A_spec_Hash) tabOk ok_spec_Hash tabOk.follows Try.func38 (by kernel_rfl) (by kernel_rfl) (fun hl => let ⟨n, hn⟩ := spec_Hash_ok (ρ := Ret) (fun r0 => some [⟨(.int .i64), r0⟩]) a0 hl.1; ⟨n, (a_spec_Hash n a0).trans (hn n (Nat.le_refl n) (fun  m v0_0 v0_1 v0_2 => L_spec_Hash_0 n  m (S_spec_Hash_0 v0_0 v0_1 v0_2)) (fun  m v0_0 v0_1 v0_2 => b_spec_Hash_0 n  m v0_0 v0_1 v0_2))⟩)
/-! spec.HeadDigest -/
abbrev G.spec_HeadDigest (h : THead) : Bool := decide (wH h ≤ 1048576)
abbrev N.spec_HeadDigest (h : THead) : Int := headDigest h
def spec_HeadDigest {ρ : Type} (k : Int → Option ρ) (a0 : THead) : Option ρ := (cond (G.spec_HeadInts a0) (cond (fit (List.length [(233 : Int)]) (List.length (N.spec_HeadInts a0))) (k (N.spec_Hash (List.append [(233 : Int)] (N.spec_HeadInts a0)))) none) none)
theorem spec_HeadDigest_ok {ρ : Type} (k : Int → Option ρ) (a0 : THead) (l_a0 : (lenT TyHead a0)) (g : G.spec_HeadDigest a0 = true) : spec_HeadDigest k  a0 = k (N.spec_HeadDigest a0) := by
  unfold G.spec_HeadDigest at g
  have hw : wH a0 ≤ 1048576 := of_decide_eq_true g
  have f1 : fit 1 (headInts a0).length = true := fit_of (by rw [headInts_len]; omega)
  show cond (decide (wH a0 ≤ 1048576)) (cond (fit 1 (headInts a0).length) _ none) none = _
  rw [g, f1]
  rfl
def OP_spec_HeadDigest (f_spec_HeadInts : THead → (List Int)) (g_spec_HeadInts : THead → Bool) (f_spec_Hash : (List Int) → Int) : Orac := (orcX 38 [.val (.slice 3 (.int .i64))] (fun d => true) (fun d => [⟨(.int .i64), f_spec_Hash d.1⟩]) (orcX 18 [.val TyHead] (fun d => g_spec_HeadInts d.1) (fun d => [⟨(.slice 3 (.int .i64)), f_spec_HeadInts d.1⟩]) nilO))
def O_spec_HeadDigest : Orac := OP_spec_HeadDigest N.spec_HeadInts G.spec_HeadInts N.spec_Hash
def spec_HeadDigest_P {ρ : Type} (f_spec_HeadInts : THead → (List Int)) (g_spec_HeadInts : THead → Bool) (f_spec_Hash : (List Int) → Int) (k : Int → Option ρ) (a0 : THead) : Option ρ := (cond (g_spec_HeadInts a0) (cond (fit (List.length [(233 : Int)]) (List.length (f_spec_HeadInts a0))) (k (f_spec_Hash (List.append [(233 : Int)] (f_spec_HeadInts a0)))) none) none)
theorem ok_spec_HeadDigest : OracOk Try.prog sigs O_spec_HeadDigest := (orcX_ok rfl rfl (fun d g => said_spec_Hash d.1) (orcX_ok rfl rfl (fun d g => said_spec_HeadInts d.1 g) nilO_ok))
def A_spec_HeadDigest : Ann := fun b => ⟨[], []⟩
theorem aP_spec_HeadDigest (f_spec_HeadInts : THead → (List Int)) (g_spec_HeadInts : THead → Bool) (f_spec_Hash : (List Int) → Int) (n : Nat) (a0 : THead) : absF tab sigs (OP_spec_HeadDigest f_spec_HeadInts g_spec_HeadInts f_spec_Hash) A_spec_HeadDigest Try.f13 [((.int .i64), .no)] n [.val TyHead a0] = spec_HeadDigest_P f_spec_HeadInts g_spec_HeadInts f_spec_Hash (fun r0 => some [⟨(.int .i64), r0⟩])  a0 := by kernel_rfl
theorem a_spec_HeadDigest (n : Nat) (a0 : THead) : absF tab sigs O_spec_HeadDigest A_spec_HeadDigest Try.f13 [((.int .i64), .no)] n [.val TyHead a0] = spec_HeadDigest (fun r0 => some [⟨(.int .i64), r0⟩])  a0 := aP_spec_HeadDigest N.spec_HeadInts G.spec_HeadInts N.spec_Hash n a0
theorem said_spec_HeadDigest (a0 : THead) (g : G.spec_HeadDigest a0 = true) : Said Try.prog sigs_13 13 [.val TyHead a0] [⟨(.int .i64), N.spec_HeadDigest a0⟩] := said_len (T := tab) (A := A_spec_HeadDigest) tabOk ok_spec_HeadDigest tabOk.follows Try.func13 (by kernel_rfl) (by kernel_rfl) (fun hl => ⟨0, (a_spec_HeadDigest 0 a0).trans (spec_HeadDigest_ok (ρ := Ret) (fun r0 => some [⟨(.int .i64), r0⟩]) a0 hl.1 g)⟩)
/-! impl.IsFresh -/
abbrev N.impl_IsFresh (h : THead) (now : Int) : Bool := isFresh h now
def impl_IsFresh {ρ : Type} (k : Bool → Option ρ) (a0 : THead) (a1 : Int) : Option ρ := (k (N.impl_InRange a1 a0.2.2.2.1 a0.2.2.2.2.1))
theorem impl_IsFresh_ok {ρ : Type} (k : Bool → Option ρ) (a0 : THead) (a1 : Int) (l_a0 : (lenT TyHead a0)) : impl_IsFresh k  a0 a1 = k (N.impl_IsFresh a0 a1) := by
  rfl
def OP_impl_IsFresh (f_impl_InRange : Int → Int → Int → Bool) : Orac := (orcX 26 [.val (.int .i64), .val (.int .i64), .val (.int .i64)] (fun d => true) (fun d => [⟨.bool, f_impl_InRange d.1 d.2.1 d.2.2.1⟩]) nilO)
def O_impl_IsFresh : Orac := OP_impl_IsFresh N.impl_InRange
def impl_IsFresh_P {ρ : Type} (f_impl_InRange : Int → Int → Int → Bool) (k : Bool → Option ρ) (a0 : THead) (a1 : Int) : Option ρ := (k (f_impl_InRange a1 a0.2.2.2.1 a0.2.2.2.2.1))
theorem ok_impl_IsFresh : OracOk Try.prog sigs O_impl_IsFresh := (orcX_ok rfl rfl (fun d g => said_impl_InRange d.1 d.2.1 d.2.2.1) nilO_ok)
def A_impl_IsFresh : Ann := fun b => ⟨[], []⟩
theorem aP_impl_IsFresh (f_impl_InRange : Int → Int → Int → Bool) (n : Nat) (a0 : THead) (a1 : Int) : absF tab sigs (OP_impl_IsFresh f_impl_InRange) A_impl_IsFresh Try.f14 [(.bool, .no)] n [.val TyHead a0, .val (.int .i64) a1] = impl_IsFresh_P f_impl_InRange (fun r0 => some [⟨.bool, r0⟩])  a0 a1 := by kernel_rfl
theorem a_impl_IsFresh (n : Nat) (a0 : THead) (a1 : Int) : absF tab sigs O_impl_IsFresh A_impl_IsFresh Try.f14 [(.bool, .no)] n [.val TyHead a0, .val (.int .i64) a1] = impl_IsFresh (fun r0 => some [⟨.bool, r0⟩])  a0 a1 := aP_impl_IsFresh N.impl_InRange n a0 a1
theorem said_impl_IsFresh (a0 : THead) (a1 : Int) : Said Try.prog sigs_14 14 [.val TyHead a0, .val (.int .i64) a1] [⟨.bool, N.impl_IsFresh a0 a1⟩] := said_len (T := tab) (A := A_impl_IsFresh) tabOk ok_impl_IsFresh tabOk.follows Try.func14 (by kernel_rfl) (by kernel_rfl) (fun hl => ⟨0, (a_impl_IsFresh 0 a0 a1).trans (impl_IsFresh_ok (ρ := Ret) (fun r0 => some [⟨.bool, r0⟩]) a0 a1 hl.1)⟩)
/-! laws.sameInts -/
abbrev N.laws_sameInts (a b : List Int) : Bool := eqInts a b
def laws_sameInts_L0 {ρ : Type} (k : Bool → Option ρ) (L0 : (List Int) → (List Int) → Int → Option ρ) (v0_0 : (List Int)) (v0_1 : (List Int)) (v0_2 : Int) : Option ρ := (cond (decide (v0_2 < (List.length v0_0 : Int))) (cond (inRange v0_2 (List.length v0_0)) (cond (inRange v0_2 (List.length v0_1)) (cond ((List.getD v0_0 (Int.toNat v0_2) (0 : Int)) != (List.getD v0_1 (Int.toNat v0_2) (0 : Int))) (k false) (L0 v0_0 v0_1 (IntKind.wrap .i64 (v0_2 + (1 : Int))))) none) none) (k true))
def laws_sameInts {ρ : Type} (k : Bool → Option ρ) (L0 : (List Int) → (List Int) → Int → Option ρ) (a0 : (List Int)) (a1 : (List Int)) : Option ρ := (cond ((List.length a0 : Int) != (List.length a1 : Int)) (k false) (L0 a0 a1 (0 : Int)))
theorem laws_sameInts_ok {ρ : Type} (k : Bool → Option ρ) (a0 : (List Int)) (a1 : (List Int)) (l_a0 : lnL (fun _ => True) a0) (l_a1 : lnL (fun _ => True) a1) : ∃ n0, ∀ n, n0 ≤ n → ∀ (L0 : Nat → (List Int) → (List Int) → Int → Option ρ) (h0 : ∀ ( m : Nat) (v0_0 : (List Int)) (v0_1 : (List Int)) (v0_2 : Int), L0 (m + 1) v0_0 v0_1 v0_2 = laws_sameInts_L0 k (L0 m) v0_0 v0_1 v0_2), laws_sameInts k (L0 n) a0 a1 = k (N.laws_sameInts a0 a1) := by
  exact ⟨a0.length + 1, fun n hn L0 h0 => eq_all (p := fun x y => x == y) (d := 0) l_a0.1 (L := fun m i => L0 m a0 a1 i) (fun m i => h0 m a0 a1 i) hn⟩
def O_laws_sameInts : Orac := nilO
theorem ok_laws_sameInts : OracOk Try.prog sigs O_laws_sameInts := nilO_ok
def A_laws_sameInts : Ann := fun b => cond (Nat.beq b 0) ⟨[(0, false), (1, false), (5, false)], []⟩ (⟨[], []⟩)
def S_laws_sameInts_0 (v0_0 : (List Int)) (v0_1 : (List Int)) (v0_2 : Int) : St := [(kT 0, some (.tv (.v (.slice 3 (.int .i64)) v0_0 .no))), (kT 1, some (.tv (.v (.slice 3 (.int .i64)) v0_1 .no))), (kT 5, some (.tv (.v (.int .i64) v0_2 .no)))]
noncomputable def L_laws_sameInts_0 (n m : Nat) : St → Option Ret := loopOf tab sigs O_laws_sameInts A_laws_sameInts Try.f16 [(.bool, .no)] n (fun _ => 0) 0 m
theorem b_laws_sameInts_0 (n m : Nat) (v0_0 : (List Int)) (v0_1 : (List Int)) (v0_2 : Int) : L_laws_sameInts_0 n (m + 1) (S_laws_sameInts_0 v0_0 v0_1 v0_2) = laws_sameInts_L0 (fun r0 => some [⟨.bool, r0⟩]) (fun v0_0 v0_1 v0_2 => L_laws_sameInts_0 n m (S_laws_sameInts_0 v0_0 v0_1 v0_2)) v0_0 v0_1 v0_2 := by kernel_rfl
theorem a_laws_sameInts (n : Nat) (a0 : (List Int)) (a1 : (List Int)) : absF tab sigs O_laws_sameInts A_laws_sameInts Try.f16 [(.bool, .no)] n [.val (.slice 3 (.int .i64)) a0, .val (.slice 3 (.int .i64)) a1] = laws_sameInts (fun r0 => some [⟨.bool, r0⟩]) (fun v0_0 v0_1 v0_2 => L_laws_sameInts_0 n n (S_laws_sameInts_0 v0_0 v0_1 v0_2)) a0 a1 := by kernel_rfl
theorem said_laws_sameInts (a0 : (List Int)) (a1 : (List Int)) : Said Try.prog sigs_16 16 [.val (.slice 3 (.int .i64)) a0, .val (.slice 3 (.int .i64)) a1] [⟨.bool, N.laws_sameInts a0 a1⟩] := said_len (T := tab) (A := A_laws_sameInts) tabOk ok_laws_sameInts tabOk.follows Try.func16 (by kernel_rfl) (by kernel_rfl) (fun hl => let ⟨n, hn⟩ := laws_sameInts_ok (ρ := Ret) (fun r0 => some [⟨.bool, r0⟩]) a0 a1 hl.1 hl.2.1; ⟨n, (a_laws_sameInts n a0 a1).trans (hn n (Nat.le_refl n) (fun  m v0_0 v0_1 v0_2 => L_laws_sameInts_0 n  m (S_laws_sameInts_0 v0_0 v0_1 v0_2)) (fun  m v0_0 v0_1 v0_2 => b_laws_sameInts_0 n  m v0_0 v0_1 v0_2))⟩)
/-! impl.Mod -/
abbrev N.impl_Mod (n m : Int) : Int := modM n m
def impl_Mod {ρ : Type} (k : Int → Option ρ) (a0 : Int) (a1 : Int) : Option ρ := (cond (!(N.impl_InRange a1 (1 : Int) (1000000000000 : Int))) (k (0 : Int)) (cond (!(decide (a1 = 0))) (cond (!(decide (a1 = 0))) (k (Int.tmod (IntKind.wrap .i64 ((Int.tmod a0 a1) + a1)) a1)) none) none))
theorem impl_Mod_ok {ρ : Type} (k : Int → Option ρ) (a0 : Int) (a1 : Int) : impl_Mod k  a0 a1 = k (N.impl_Mod a0 a1) := by
  simp only [impl_Mod, N.impl_InRange, modM]
  cases h : inR a1 1 1000000000000
  · rfl
  · have h1 : 1 ≤ a1 := by
      unfold inR at h
      simp only [Bool.and_eq_true, decide_eq_true_eq] at h
      exact h.1
    have h2 : decide (a1 = 0) = false := by simp; omega
    simp [h2]
def OP_impl_Mod (f_impl_InRange : Int → Int → Int → Bool) : Orac := (orcX 26 [.val (.int .i64), .val (.int .i64), .val (.int .i64)] (fun d => true) (fun d => [⟨.bool, f_impl_InRange d.1 d.2.1 d.2.2.1⟩]) nilO)
def O_impl_Mod : Orac := OP_impl_Mod N.impl_InRange
def impl_Mod_P {ρ : Type} (f_impl_InRange : Int → Int → Int → Bool) (k : Int → Option ρ) (a0 : Int) (a1 : Int) : Option ρ := (cond (!(f_impl_InRange a1 (1 : Int) (1000000000000 : Int))) (k (0 : Int)) (cond (!(decide (a1 = 0))) (cond (!(decide (a1 = 0))) (k (Int.tmod (IntKind.wrap .i64 ((Int.tmod a0 a1) + a1)) a1)) none) none))
theorem ok_impl_Mod : OracOk Try.prog sigs O_impl_Mod := (orcX_ok rfl rfl (fun d g => said_impl_InRange d.1 d.2.1 d.2.2.1) nilO_ok)
def A_impl_Mod : Ann := fun b => ⟨[], []⟩
theorem aP_impl_Mod (f_impl_InRange : Int → Int → Int → Bool) (n : Nat) (a0 : Int) (a1 : Int) : absF tab sigs (OP_impl_Mod f_impl_InRange) A_impl_Mod Try.f50 [((.int .i64), .no)] n [.val (.int .i64) a0, .val (.int .i64) a1] = impl_Mod_P f_impl_InRange (fun r0 => some [⟨(.int .i64), r0⟩])  a0 a1 := by kernel_rfl
theorem a_impl_Mod (n : Nat) (a0 : Int) (a1 : Int) : absF tab sigs O_impl_Mod A_impl_Mod Try.f50 [((.int .i64), .no)] n [.val (.int .i64) a0, .val (.int .i64) a1] = impl_Mod (fun r0 => some [⟨(.int .i64), r0⟩])  a0 a1 := aP_impl_Mod N.impl_InRange n a0 a1
theorem said_impl_Mod (a0 : Int) (a1 : Int) : Said Try.prog sigs_50 50 [.val (.int .i64) a0, .val (.int .i64) a1] [⟨(.int .i64), N.impl_Mod a0 a1⟩] := said_len (T := tab) (A := A_impl_Mod) tabOk ok_impl_Mod tabOk.follows Try.func50 (by kernel_rfl) (by kernel_rfl) (fun hl => ⟨0, (a_impl_Mod 0 a0 a1).trans (impl_Mod_ok (ρ := Ret) (fun r0 => some [⟨(.int .i64), r0⟩]) a0 a1)⟩)
/-! impl.Hash -/
abbrev N.impl_Hash (l : List Int) : Int := hash l
def impl_Hash_L0 {ρ : Type} (k : Int → Option ρ) (L0 : Int → (List Int) → Int → Int → Option ρ) (v0_0 : Int) (v0_1 : (List Int)) (v0_2 : Int) (v0_3 : Int) : Option ρ := (cond (decide (v0_3 < v0_2)) (cond (inRange v0_3 (List.length v0_1)) (L0 (Int.tmod (IntKind.wrap .i64 ((IntKind.wrap .i64 ((IntKind.wrap .i64 (v0_0 * (1000003 : Int))) + (N.impl_Mod (List.getD v0_1 (Int.toNat v0_3) (0 : Int)) (2147483647 : Int)))) + (13 : Int))) (2147483647 : Int)) v0_1 v0_2 (IntKind.wrap .i64 (v0_3 + (1 : Int)))) none) (k v0_0))
def impl_Hash {ρ : Type} (k : Int → Option ρ) (L0 : Int → (List Int) → Int → Int → Option ρ) (a0 : (List Int)) : Option ρ := (L0 (11 : Int) a0 (List.length a0 : Int) (0 : Int))
theorem impl_Hash_ok {ρ : Type} (k : Int → Option ρ) (a0 : (List Int)) (l_a0 : lnL (fun _ => True) a0) : ∃ n0, ∀ n, n0 ≤ n → ∀ (L0 : Nat → Int → (List Int) → Int → Int → Option ρ) (h0 : ∀ ( m : Nat) (v0_0 : Int) (v0_1 : (List Int)) (v0_2 : Int) (v0_3 : Int), L0 (m + 1) v0_0 v0_1 v0_2 v0_3 = impl_Hash_L0 k (L0 m) v0_0 v0_1 v0_2 v0_3), impl_Hash k (L0 n) a0 = k (N.impl_Hash a0) := by
  refine ⟨a0.length + 1, fun n hn L0 h0 => ?_⟩
  refine raw_foldl (a := a0) 0 hashStep (k := k) (L := fun m i s => L0 m s a0 (a0.length : Int) i) (R := fun i s c => impl_Hash_L0 k (fun s _ _ i => c i s) s a0 (a0.length : Int) i) (fun m i s => h0 m s a0 (a0.length : Int) i) (fun _ _ => True) (fun j s c hj _ => ?_) (fun _ _ _ _ => trivial) (fun s c => ?_) hn trivial
  · have : j < big := by have := l_a0.1; omega
    simp [impl_Hash_L0, lt_nat, inRange_nat, hj, wrap_succ this, hashStep]
  · simp [impl_Hash_L0]
def OP_impl_Hash (f_impl_Mod : Int → Int → Int) : Orac := (orcX 50 [.val (.int .i64), .val (.int .i64)] (fun d => true) (fun d => [⟨(.int .i64), f_impl_Mod d.1 d.2.1⟩]) nilO)
def O_impl_Hash : Orac := OP_impl_Hash N.impl_Mod
def impl_Hash_P_L0 {ρ : Type} (f_impl_Mod : Int → Int → Int) (k : Int → Option ρ) (L0 : Int → (List Int) → Int → Int → Option ρ) (v0_0 : Int) (v0_1 : (List Int)) (v0_2 : Int) (v0_3 : Int) : Option ρ := (cond (decide (v0_3 < v0_2)) (cond (inRange v0_3 (List.length v0_1)) (L0 (Int.tmod (IntKind.wrap .i64 ((IntKind.wrap .i64 ((IntKind.wrap .i64 (v0_0 * (1000003 : Int))) + (f_impl_Mod (List.getD v0_1 (Int.toNat v0_3) (0 : Int)) (2147483647 : Int)))) + (13 : Int))) (2147483647 : Int)) v0_1 v0_2 (IntKind.wrap .i64 (v0_3 + (1 : Int)))) none) (k v0_0))
def impl_Hash_P {ρ : Type} (f_impl_Mod : Int → Int → Int) (k : Int → Option ρ) (L0 : Int → (List Int) → Int → Int → Option ρ) (a0 : (List Int)) : Option ρ := (L0 (11 : Int) a0 (List.length a0 : Int) (0 : Int))
theorem ok_impl_Hash : OracOk Try.prog sigs O_impl_Hash := (orcX_ok rfl rfl (fun d g => said_impl_Mod d.1 d.2.1) nilO_ok)
def A_impl_Hash : Ann := fun b => cond (Nat.beq b 0) ⟨[(3, false), (6, false), (7, false), (8, false)], []⟩ (⟨[], []⟩)
def S_impl_Hash_0 (v0_0 : Int) (v0_1 : (List Int)) (v0_2 : Int) (v0_3 : Int) : St := [(kT 3, some (.tv (.v (.int .i64) v0_0 .no))), (kT 6, some (.tv (.v (.slice 3 (.int .i64)) v0_1 .no))), (kT 7, some (.tv (.v (.int .i64) v0_2 .no))), (kT 8, some (.tv (.v (.int .i64) v0_3 .no)))]
noncomputable def L_P_impl_Hash_0 (f_impl_Mod : Int → Int → Int) (n m : Nat) : St → Option Ret := loopOf tab sigs (OP_impl_Hash f_impl_Mod) A_impl_Hash Try.f37 [((.int .i64), .no)] n (fun _ => 0) 0 m
noncomputable def L_impl_Hash_0 (n m : Nat) : St → Option Ret := L_P_impl_Hash_0 N.impl_Mod n m
theorem bP_impl_Hash_0 (f_impl_Mod : Int → Int → Int) (n m : Nat) (v0_0 : Int) (v0_1 : (List Int)) (v0_2 : Int) (v0_3 : Int) : L_P_impl_Hash_0 f_impl_Mod n (m + 1) (S_impl_Hash_0 v0_0 v0_1 v0_2 v0_3) = impl_Hash_P_L0 f_impl_Mod (fun r0 => some [⟨(.int .i64), r0⟩]) (fun v0_0 v0_1 v0_2 v0_3 => L_P_impl_Hash_0 f_impl_Mod n m (S_impl_Hash_0 v0_0 v0_1 v0_2 v0_3)) v0_0 v0_1 v0_2 v0_3 := by kernel_rfl
theorem b_impl_Hash_0 (n m : Nat) (v0_0 : Int) (v0_1 : (List Int)) (v0_2 : Int) (v0_3 : Int) : L_impl_Hash_0 n (m + 1) (S_impl_Hash_0 v0_0 v0_1 v0_2 v0_3) = impl_Hash_L0 (fun r0 => some [⟨(.int .i64), r0⟩]) (fun v0_0 v0_1 v0_2 v0_3 => L_impl_Hash_0 n m (S_impl_Hash_0 v0_0 v0_1 v0_2 v0_3)) v0_0 v0_1 v0_2 v0_3 := bP_impl_Hash_0 N.impl_Mod n m v0_0 v0_1 v0_2 v0_3
theorem aP_impl_Hash (f_impl_Mod : Int → Int → Int) (n : Nat) (a0 : (List Int)) : absF tab sigs (OP_impl_Hash f_impl_Mod) A_impl_Hash Try.f37 [((.int .i64), .no)] n [.val (.slice 3 (.int .i64)) a0] = impl_Hash_P f_impl_Mod (fun r0 => some [⟨(.int .i64), r0⟩]) (fun v0_0 v0_1 v0_2 v0_3 => L_P_impl_Hash_0 f_impl_Mod n n (S_impl_Hash_0 v0_0 v0_1 v0_2 v0_3)) a0 := by kernel_rfl
theorem a_impl_Hash (n : Nat) (a0 : (List Int)) : absF tab sigs O_impl_Hash A_impl_Hash Try.f37 [((.int .i64), .no)] n [.val (.slice 3 (.int .i64)) a0] = impl_Hash (fun r0 => some [⟨(.int .i64), r0⟩]) (fun v0_0 v0_1 v0_2 v0_3 => L_impl_Hash_0 n n (S_impl_Hash_0 v0_0 v0_1 v0_2 v0_3)) a0 := aP_impl_Hash N.impl_Mod n a0
theorem said_impl_Hash (a0 : (List Int)) : Said Try.prog sigs_37 37 [.val (.slice 3 (.int .i64)) a0] [⟨(.int .i64), N.impl_Hash a0⟩] := said_len (T := tab) (A := A_impl_Hash) tabOk ok_impl_Hash tabOk.follows Try.func37 (by kernel_rfl) (by kernel_rfl) (fun hl => let ⟨n, hn⟩ := impl_Hash_ok (ρ := Ret) (fun r0 => some [⟨(.int .i64), r0⟩]) a0 hl.1; ⟨n, (a_impl_Hash n a0).trans (hn n (Nat.le_refl n) (fun  m v0_0 v0_1 v0_2 v0_3 => L_impl_Hash_0 n  m (S_impl_Hash_0 v0_0 v0_1 v0_2 v0_3)) (fun  m v0_0 v0_1 v0_2 v0_3 => b_impl_Hash_0 n  m v0_0 v0_1 v0_2 v0_3))⟩)
/-! impl.HeadDigest -/
abbrev G.impl_HeadDigest (h : THead) : Bool := decide (wH h ≤ 1048576)
abbrev N.impl_HeadDigest (h : THead) : Int := headDigest h
def impl_HeadDigest {ρ : Type} (k : Int → Option ρ) (a0 : THead) : Option ρ := (cond (G.impl_HeadInts a0) (cond (fit (List.length [(233 : Int)]) (List.length (N.impl_HeadInts a0))) (k (N.impl_Hash (List.append [(233 : Int)] (N.impl_HeadInts a0)))) none) none)
theorem impl_HeadDigest_ok {ρ : Type} (k : Int → Option ρ) (a0 : THead) (l_a0 : (lenT TyHead a0)) (g : G.impl_HeadDigest a0 = true) : impl_HeadDigest k  a0 = k (N.impl_HeadDigest a0) := by
  unfold G.impl_HeadDigest at g
  have hw : wH a0 ≤ 1048576 := of_decide_eq_true g
  have f1 : fit 1 (headInts a0).length = true := fit_of (by rw [headInts_len]; omega)
  show cond (decide (wH a0 ≤ 1048576)) (cond (fit 1 (headInts a0).length) _ none) none = _
  rw [g, f1]
  rfl
def OP_impl_HeadDigest (f_impl_HeadInts : THead → (List Int)) (g_impl_HeadInts : THead → Bool) (f_impl_Hash : (List Int) → Int) : Orac := (orcX 37 [.val (.slice 3 (.int .i64))] (fun d => true) (fun d => [⟨(.int .i64), f_impl_Hash d.1⟩]) (orcX 17 [.val TyHead] (fun d => g_impl_HeadInts d.1) (fun d => [⟨(.slice 3 (.int .i64)), f_impl_HeadInts d.1⟩]) nilO))
def O_impl_HeadDigest : Orac := OP_impl_HeadDigest N.impl_HeadInts G.impl_HeadInts N.impl_Hash
def impl_HeadDigest_P {ρ : Type} (f_impl_HeadInts : THead → (List Int)) (g_impl_HeadInts : THead → Bool) (f_impl_Hash : (List Int) → Int) (k : Int → Option ρ) (a0 : THead) : Option ρ := (cond (g_impl_HeadInts a0) (cond (fit (List.length [(233 : Int)]) (List.length (f_impl_HeadInts a0))) (k (f_impl_Hash (List.append [(233 : Int)] (f_impl_HeadInts a0)))) none) none)
theorem ok_impl_HeadDigest : OracOk Try.prog sigs O_impl_HeadDigest := (orcX_ok rfl rfl (fun d g => said_impl_Hash d.1) (orcX_ok rfl rfl (fun d g => said_impl_HeadInts d.1 g) nilO_ok))
def A_impl_HeadDigest : Ann := fun b => ⟨[], []⟩
theorem aP_impl_HeadDigest (f_impl_HeadInts : THead → (List Int)) (g_impl_HeadInts : THead → Bool) (f_impl_Hash : (List Int) → Int) (n : Nat) (a0 : THead) : absF tab sigs (OP_impl_HeadDigest f_impl_HeadInts g_impl_HeadInts f_impl_Hash) A_impl_HeadDigest Try.f12 [((.int .i64), .no)] n [.val TyHead a0] = impl_HeadDigest_P f_impl_HeadInts g_impl_HeadInts f_impl_Hash (fun r0 => some [⟨(.int .i64), r0⟩])  a0 := by kernel_rfl
theorem a_impl_HeadDigest (n : Nat) (a0 : THead) : absF tab sigs O_impl_HeadDigest A_impl_HeadDigest Try.f12 [((.int .i64), .no)] n [.val TyHead a0] = impl_HeadDigest (fun r0 => some [⟨(.int .i64), r0⟩])  a0 := aP_impl_HeadDigest N.impl_HeadInts G.impl_HeadInts N.impl_Hash n a0
theorem said_impl_HeadDigest (a0 : THead) (g : G.impl_HeadDigest a0 = true) : Said Try.prog sigs_12 12 [.val TyHead a0] [⟨(.int .i64), N.impl_HeadDigest a0⟩] := said_len (T := tab) (A := A_impl_HeadDigest) tabOk ok_impl_HeadDigest tabOk.follows Try.func12 (by kernel_rfl) (by kernel_rfl) (fun hl => ⟨0, (a_impl_HeadDigest 0 a0).trans (impl_HeadDigest_ok (ρ := Ret) (fun r0 => some [⟨(.int .i64), r0⟩]) a0 hl.1 g)⟩)
end Go.Proofs.Ytaghpijciobacaa.Ref
