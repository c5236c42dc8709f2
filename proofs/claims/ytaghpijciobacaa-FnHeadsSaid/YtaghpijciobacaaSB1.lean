/- Functions of the program: what each computes, and that it does so.
   Conditions: as each theorem states. -/
import Derived.Test.YtaghpijciobacaaSB0
set_option linter.unusedVariables false
set_option linter.unusedSimpArgs false
set_option maxRecDepth 100000
namespace Go.Proofs.Ytaghpijciobacaa.Ref
open Go.RowKit Go.Proofs.YtaghpijciobacaaW.PrintWords Go.Proofs.YtaghpijciobacaaW.PrintLast
/-! spec.l6Copy -/
abbrev G.spec_l6Copy (a : TKeys) : Bool := decide (wK a ≤ 1048576)
abbrev N.spec_l6Copy (a : TKeys) : TKeys := a
def spec_l6Copy {ρ : Type} (k : TKeys → Option ρ) (a0 : TKeys) : Option ρ := (cond (fit (List.length ([] : (List Int))) (List.length a0.1)) (k ((List.append ([] : (List Int)) a0.1), a0.2)) none)
theorem spec_l6Copy_ok {ρ : Type} (k : TKeys → Option ρ) (a0 : TKeys) (l_a0 : (lnL (fun _ => True) a0.1 ∧ True)) (g : G.spec_l6Copy a0 = true) : spec_l6Copy k  a0 = k (N.spec_l6Copy a0) := by
  unfold G.spec_l6Copy at g
  have h : wK a0 ≤ 1048576 := of_decide_eq_true g
  have h1 : fit (List.length ([] : List Int)) (List.length a0.1) = true := fit_of (by unfold wK at h; simp; omega)
  unfold spec_l6Copy
  rw [h1]
  rfl
def O_spec_l6Copy : Orac := nilO
theorem ok_spec_l6Copy : OracOk Try.prog sigs O_spec_l6Copy := nilO_ok
def A_spec_l6Copy : Ann := fun b => ⟨[], []⟩
theorem a_spec_l6Copy (n : Nat) (a0 : TKeys) : absF tab sigs O_spec_l6Copy A_spec_l6Copy Try.f45 [((.pair (.slice 3 (.int .i64)) (.int .i64)), (.pair (.own 0) .no))] n [.val (.pair (.slice 3 (.int .i64)) (.int .i64)) a0] = spec_l6Copy (fun r0 => some [⟨(.pair (.slice 3 (.int .i64)) (.int .i64)), r0⟩])  a0 := by kernel_rfl
theorem said_spec_l6Copy (a0 : TKeys) (g : G.spec_l6Copy a0 = true) : Said Try.prog sigs_45 45 [.val (.pair (.slice 3 (.int .i64)) (.int .i64)) a0] [⟨(.pair (.slice 3 (.int .i64)) (.int .i64)), N.spec_l6Copy a0⟩] := said_len (T := tab) (A := A_spec_l6Copy) tabOk ok_spec_l6Copy tabOk.follows Try.func45 (by kernel_rfl) (by kernel_rfl) (fun hl => ⟨0, (a_spec_l6Copy 0 a0).trans (spec_l6Copy_ok (ρ := Ret) (fun r0 => some [⟨(.pair (.slice 3 (.int .i64)) (.int .i64)), r0⟩]) a0 hl.1 g)⟩)
/-! spec.l13Copy -/
abbrev G.spec_l13Copy (h : THead) : Bool := decide (wH h ≤ 1048576)
abbrev N.spec_l13Copy (h : THead) : THead := h
def spec_l13Copy {ρ : Type} (k : THead → Option ρ) (a0 : THead) : Option ρ := (cond (G.spec_l6Copy a0.2.2.2.2.2.2.2.2.1) (cond (G.spec_l6Copy a0.2.2.2.2.2.2.2.2.2.1) (cond (G.spec_l6Copy a0.2.2.2.2.2.2.2.2.2.2.2.1) (k (a0.1, (a0.2.1, (a0.2.2.1, (a0.2.2.2.1, (a0.2.2.2.2.1, (a0.2.2.2.2.2.1, (a0.2.2.2.2.2.2.1, (a0.2.2.2.2.2.2.2.1, ((N.spec_l6Copy a0.2.2.2.2.2.2.2.2.1), ((N.spec_l6Copy a0.2.2.2.2.2.2.2.2.2.1), (a0.2.2.2.2.2.2.2.2.2.2.1, ((N.spec_l6Copy a0.2.2.2.2.2.2.2.2.2.2.2.1), a0.2.2.2.2.2.2.2.2.2.2.2.2))))))))))))) none) none) none)
theorem spec_l13Copy_ok {ρ : Type} (k : THead → Option ρ) (a0 : THead) (l_a0 : (lenT TyHead a0)) (g : G.spec_l13Copy a0 = true) : spec_l13Copy k  a0 = k (N.spec_l13Copy a0) := by
  unfold G.spec_l13Copy at g
  have h : wH a0 ≤ 1048576 := of_decide_eq_true g
  have g1 : decide (wK a0.2.2.2.2.2.2.2.2.1 ≤ 1048576) = true := decide_eq_true (by unfold wH at h; omega)
  have g2 : decide (wK a0.2.2.2.2.2.2.2.2.2.1 ≤ 1048576) = true := decide_eq_true (by unfold wH at h; omega)
  have g3 : decide (wK a0.2.2.2.2.2.2.2.2.2.2.2.1 ≤ 1048576) = true := decide_eq_true (by unfold wH at h; omega)
  simp only [spec_l13Copy, G.spec_l6Copy, N.spec_l6Copy, g1, g2, g3, cond_true]
def OP_spec_l13Copy (f_spec_l6Copy : TKeys → TKeys) (g_spec_l6Copy : TKeys → Bool) : Orac := (orcX 45 [.val (.pair (.slice 3 (.int .i64)) (.int .i64))] (fun d => g_spec_l6Copy d.1) (fun d => [⟨(.pair (.slice 3 (.int .i64)) (.int .i64)), f_spec_l6Copy d.1⟩]) nilO)
def O_spec_l13Copy : Orac := OP_spec_l13Copy N.spec_l6Copy G.spec_l6Copy
def spec_l13Copy_P {ρ : Type} (f_spec_l6Copy : TKeys → TKeys) (g_spec_l6Copy : TKeys → Bool) (k : THead → Option ρ) (a0 : THead) : Option ρ := (cond (g_spec_l6Copy a0.2.2.2.2.2.2.2.2.1) (cond (g_spec_l6Copy a0.2.2.2.2.2.2.2.2.2.1) (cond (g_spec_l6Copy a0.2.2.2.2.2.2.2.2.2.2.2.1) (k (a0.1, (a0.2.1, (a0.2.2.1, (a0.2.2.2.1, (a0.2.2.2.2.1, (a0.2.2.2.2.2.1, (a0.2.2.2.2.2.2.1, (a0.2.2.2.2.2.2.2.1, ((f_spec_l6Copy a0.2.2.2.2.2.2.2.2.1), ((f_spec_l6Copy a0.2.2.2.2.2.2.2.2.2.1), (a0.2.2.2.2.2.2.2.2.2.2.1, ((f_spec_l6Copy a0.2.2.2.2.2.2.2.2.2.2.2.1), a0.2.2.2.2.2.2.2.2.2.2.2.2))))))))))))) none) none) none)
theorem ok_spec_l13Copy : OracOk Try.prog sigs O_spec_l13Copy := (orcX_ok rfl rfl (fun d g => said_spec_l6Copy d.1 g) nilO_ok)
def A_spec_l13Copy : Ann := fun b => ⟨[], []⟩
theorem aP_spec_l13Copy (f_spec_l6Copy : TKeys → TKeys) (g_spec_l6Copy : TKeys → Bool) (n : Nat) (a0 : THead) : absF tab sigs (OP_spec_l13Copy f_spec_l6Copy g_spec_l6Copy) A_spec_l13Copy Try.f22 [(TyHead, (.pair .no (.pair .no (.pair .no (.pair .no (.pair .no (.pair .no (.pair .no (.pair .no (.pair (.pair (.own 0) .no) (.pair (.pair (.own 1) .no) (.pair .no (.pair (.pair (.own 2) .no) .no)))))))))))))] n [.val TyHead a0] = spec_l13Copy_P f_spec_l6Copy g_spec_l6Copy (fun r0 => some [⟨TyHead, r0⟩])  a0 := by kernel_rfl
theorem a_spec_l13Copy (n : Nat) (a0 : THead) : absF tab sigs O_spec_l13Copy A_spec_l13Copy Try.f22 [(TyHead, (.pair .no (.pair .no (.pair .no (.pair .no (.pair .no (.pair .no (.pair .no (.pair .no (.pair (.pair (.own 0) .no) (.pair (.pair (.own 1) .no) (.pair .no (.pair (.pair (.own 2) .no) .no)))))))))))))] n [.val TyHead a0] = spec_l13Copy (fun r0 => some [⟨TyHead, r0⟩])  a0 := aP_spec_l13Copy N.spec_l6Copy G.spec_l6Copy n a0
theorem said_spec_l13Copy (a0 : THead) (g : G.spec_l13Copy a0 = true) : Said Try.prog sigs_22 22 [.val TyHead a0] [⟨TyHead, N.spec_l13Copy a0⟩] := said_len (T := tab) (A := A_spec_l13Copy) tabOk ok_spec_l13Copy tabOk.follows Try.func22 (by kernel_rfl) (by kernel_rfl) (fun hl => ⟨0, (a_spec_l13Copy 0 a0).trans (spec_l13Copy_ok (ρ := Ret) (fun r0 => some [⟨TyHead, r0⟩]) a0 hl.1 g)⟩)
/-! spec.DrawEqualHeads -/
abbrev G.spec_DrawEqualHeads (l : List Int) : Bool := decide (l.length ≤ 1048576)
abbrev N.spec_DrawEqualHeads (l : List Int) : THead × THead := twoH l
def spec_DrawEqualHeads {ρ : Type} (k : THead → THead → Option ρ) (a0 : (List Int)) : Option ρ := (cond (G.spec_l1New a0) (cond (G.spec_l13Any (N.spec_l1New a0)) (cond (G.spec_l1Once (N.spec_l13Any (N.spec_l1New a0)).1 (2 : Int)) (cond (N.spec_l1Once (N.spec_l13Any (N.spec_l1New a0)).1 (2 : Int)).2 (cond (G.spec_l13Copy (N.spec_l13Any (N.spec_l1New a0)).2) (k (N.spec_l13Any (N.spec_l1New a0)).2 (N.spec_l13Copy (N.spec_l13Any (N.spec_l1New a0)).2)) none) (cond (G.spec_l13Any (N.spec_l1Once (N.spec_l13Any (N.spec_l1New a0)).1 (2 : Int)).1) (k (N.spec_l13Any (N.spec_l1New a0)).2 (N.spec_l13Any (N.spec_l1Once (N.spec_l13Any (N.spec_l1New a0)).1 (2 : Int)).1).2) none)) none) none) none)
theorem spec_DrawEqualHeads_ok {ρ : Type} (k : THead → THead → Option ρ) (a0 : (List Int)) (l_a0 : lnL (fun _ => True) a0) (g : G.spec_DrawEqualHeads a0 = true) : spec_DrawEqualHeads k  a0 = k (N.spec_DrawEqualHeads a0).1 (N.spec_DrawEqualHeads a0).2 := by
  unfold G.spec_DrawEqualHeads at g
  have h0 := okC_new (of_decide_eq_true g)
  have h1 := okC_anyH h0
  have h2 := okC_once 2 h1
  have hl : decide (wH (anyH (newC a0)).2 ≤ 1048576) = true := decide_eq_true (Nat.le_trans (wH_le (anyH_le _)) (by decide))
  simp only [spec_DrawEqualHeads, G.spec_l1New, N.spec_l1New, G.spec_l13Any, N.spec_l13Any, G.spec_l1Once, N.spec_l1Once, G.spec_l13Copy, N.spec_l13Copy, g, h0, h1, h2, hl, cond_true]
  show _ = k (twoH a0).1 (twoH a0).2
  unfold twoH
  cases (onceC (anyH (newC a0)).1 2).2 <;> rfl
def OP_spec_DrawEqualHeads (f_spec_l1New : (List Int) → ((List Int) × (Int × Int))) (g_spec_l1New : (List Int) → Bool) (f_spec_l13Any : ((List Int) × (Int × Int)) → (((List Int) × (Int × Int)) × THead)) (g_spec_l13Any : ((List Int) × (Int × Int)) → Bool) (f_spec_l1Once : ((List Int) × (Int × Int)) → Int → (((List Int) × (Int × Int)) × Bool)) (g_spec_l1Once : ((List Int) × (Int × Int)) → Int → Bool) (f_spec_l13Copy : THead → THead) (g_spec_l13Copy : THead → Bool) : Orac := (orcX 22 [.val TyHead] (fun d => g_spec_l13Copy d.1) (fun d => [⟨TyHead, f_spec_l13Copy d.1⟩]) (orcX 21 [.lend (.pair (.slice 5 (.int .u8)) (.pair (.int .i64) (.int .i64))) .no, .val (.int .i64)] (fun d => g_spec_l1Once d.1 d.2.1) (fun d => [⟨(.pair (.slice 5 (.int .u8)) (.pair (.int .i64) (.int .i64))), (f_spec_l1Once d.1 d.2.1).1⟩, ⟨.bool, (f_spec_l1Once d.1 d.2.1).2⟩]) (orcX 20 [.lend (.pair (.slice 5 (.int .u8)) (.pair (.int .i64) (.int .i64))) .no] (fun d => g_spec_l13Any d.1) (fun d => [⟨(.pair (.slice 5 (.int .u8)) (.pair (.int .i64) (.int .i64))), (f_spec_l13Any d.1).1⟩, ⟨TyHead, (f_spec_l13Any d.1).2⟩]) (orcX 19 [.lend .bool .nil, .val (.slice 5 (.int .u8))] (fun d => g_spec_l1New d.2.1) (fun d => [⟨(.pair (.slice 5 (.int .u8)) (.pair (.int .i64) (.int .i64))), f_spec_l1New d.2.1⟩]) nilO))))
def O_spec_DrawEqualHeads : Orac := OP_spec_DrawEqualHeads N.spec_l1New G.spec_l1New N.spec_l13Any G.spec_l13Any N.spec_l1Once G.spec_l1Once N.spec_l13Copy G.spec_l13Copy
def spec_DrawEqualHeads_P {ρ : Type} (f_spec_l1New : (List Int) → ((List Int) × (Int × Int))) (g_spec_l1New : (List Int) → Bool) (f_spec_l13Any : ((List Int) × (Int × Int)) → (((List Int) × (Int × Int)) × THead)) (g_spec_l13Any : ((List Int) × (Int × Int)) → Bool) (f_spec_l1Once : ((List Int) × (Int × Int)) → Int → (((List Int) × (Int × Int)) × Bool)) (g_spec_l1Once : ((List Int) × (Int × Int)) → Int → Bool) (f_spec_l13Copy : THead → THead) (g_spec_l13Copy : THead → Bool) (k : THead → THead → Option ρ) (a0 : (List Int)) : Option ρ := (cond (g_spec_l1New a0) (cond (g_spec_l13Any (f_spec_l1New a0)) (cond (g_spec_l1Once (f_spec_l13Any (f_spec_l1New a0)).1 (2 : Int)) (cond (f_spec_l1Once (f_spec_l13Any (f_spec_l1New a0)).1 (2 : Int)).2 (cond (g_spec_l13Copy (f_spec_l13Any (f_spec_l1New a0)).2) (k (f_spec_l13Any (f_spec_l1New a0)).2 (f_spec_l13Copy (f_spec_l13Any (f_spec_l1New a0)).2)) none) (cond (g_spec_l13Any (f_spec_l1Once (f_spec_l13Any (f_spec_l1New a0)).1 (2 : Int)).1) (k (f_spec_l13Any (f_spec_l1New a0)).2 (f_spec_l13Any (f_spec_l1Once (f_spec_l13Any (f_spec_l1New a0)).1 (2 : Int)).1).2) none)) none) none) none)
theorem ok_spec_DrawEqualHeads : OracOk Try.prog sigs O_spec_DrawEqualHeads := (orcX_ok rfl rfl (fun d g => said_spec_l13Copy d.1 g) (orcB_ok rfl (fun d g => said_spec_l1Once d.1 d.2.1 g) (orcB_ok rfl (fun d g => said_spec_l13Any d.1 g) (orcN_ok rfl (fun d g => said_spec_l1New d.2.1 g) nilO_ok))))
def A_spec_DrawEqualHeads : Ann := fun b => ⟨[], []⟩
theorem aP_spec_DrawEqualHeads (f_spec_l1New : (List Int) → ((List Int) × (Int × Int))) (g_spec_l1New : (List Int) → Bool) (f_spec_l13Any : ((List Int) × (Int × Int)) → (((List Int) × (Int × Int)) × THead)) (g_spec_l13Any : ((List Int) × (Int × Int)) → Bool) (f_spec_l1Once : ((List Int) × (Int × Int)) → Int → (((List Int) × (Int × Int)) × Bool)) (g_spec_l1Once : ((List Int) × (Int × Int)) → Int → Bool) (f_spec_l13Copy : THead → THead) (g_spec_l13Copy : THead → Bool) (n : Nat) (a0 : (List Int)) : absF tab sigs (OP_spec_DrawEqualHeads f_spec_l1New g_spec_l1New f_spec_l13Any g_spec_l13Any f_spec_l1Once g_spec_l1Once f_spec_l13Copy g_spec_l13Copy) A_spec_DrawEqualHeads Try.f5 [(TyHead, (.pair .no (.pair .no (.pair .no (.pair .no (.pair .no (.pair .no (.pair .no (.pair .no (.pair (.pair (.own 0) .no) (.pair (.pair (.own 1) .no) (.pair .no (.pair (.pair (.own 2) .no) .no))))))))))))), (TyHead, (.pair .no (.pair .no (.pair .no (.pair .no (.pair .no (.pair .no (.pair .no (.pair .no (.pair (.pair (.own 3) .no) (.pair (.pair (.own 4) .no) (.pair .no (.pair (.pair (.own 5) .no) .no)))))))))))))] n [.val (.slice 5 (.int .u8)) a0] = spec_DrawEqualHeads_P f_spec_l1New g_spec_l1New f_spec_l13Any g_spec_l13Any f_spec_l1Once g_spec_l1Once f_spec_l13Copy g_spec_l13Copy (fun r0 r1 => some [⟨TyHead, r0⟩, ⟨TyHead, r1⟩])  a0 := by kernel_rfl
theorem a_spec_DrawEqualHeads (n : Nat) (a0 : (List Int)) : absF tab sigs O_spec_DrawEqualHeads A_spec_DrawEqualHeads Try.f5 [(TyHead, (.pair .no (.pair .no (.pair .no (.pair .no (.pair .no (.pair .no (.pair .no (.pair .no (.pair (.pair (.own 0) .no) (.pair (.pair (.own 1) .no) (.pair .no (.pair (.pair (.own 2) .no) .no))))))))))))), (TyHead, (.pair .no (.pair .no (.pair .no (.pair .no (.pair .no (.pair .no (.pair .no (.pair .no (.pair (.pair (.own 3) .no) (.pair (.pair (.own 4) .no) (.pair .no (.pair (.pair (.own 5) .no) .no)))))))))))))] n [.val (.slice 5 (.int .u8)) a0] = spec_DrawEqualHeads (fun r0 r1 => some [⟨TyHead, r0⟩, ⟨TyHead, r1⟩])  a0 := aP_spec_DrawEqualHeads N.spec_l1New G.spec_l1New N.spec_l13Any G.spec_l13Any N.spec_l1Once G.spec_l1Once N.spec_l13Copy G.spec_l13Copy n a0
theorem said_spec_DrawEqualHeads (a0 : (List Int)) (g : G.spec_DrawEqualHeads a0 = true) : Said Try.prog sigs_5 5 [.val (.slice 5 (.int .u8)) a0] [⟨TyHead, (N.spec_DrawEqualHeads a0).1⟩, ⟨TyHead, (N.spec_DrawEqualHeads a0).2⟩] := said_len (T := tab) (A := A_spec_DrawEqualHeads) tabOk ok_spec_DrawEqualHeads tabOk.follows Try.func5 (by kernel_rfl) (by kernel_rfl) (fun hl => ⟨0, (a_spec_DrawEqualHeads 0 a0).trans (spec_DrawEqualHeads_ok (ρ := Ret) (fun r0 r1 => some [⟨TyHead, r0⟩, ⟨TyHead, r1⟩]) a0 hl.1 g)⟩)
/-! spec.DrawIsFresh -/
abbrev G.spec_DrawIsFresh (l : List Int) : Bool := decide (l.length ≤ 1048576)
abbrev N.spec_DrawIsFresh (l : List Int) : THead × Int := freshH l
def spec_DrawIsFresh {ρ : Type} (k : THead → Int → Option ρ) (a0 : (List Int)) : Option ρ := (cond (G.spec_l1New a0) (cond (G.spec_l13Any (N.spec_l1New a0)) (cond (G.spec_l1Once (N.spec_l13Any (N.spec_l1New a0)).1 (2 : Int)) (cond (N.spec_l1Once (N.spec_l13Any (N.spec_l1New a0)).1 (2 : Int)).2 (cond (G.spec_l1Below (N.spec_l1Once (N.spec_l13Any (N.spec_l1New a0)).1 (2 : Int)).1 (3 : Int)) (k (N.spec_l13Any (N.spec_l1New a0)).2 (IntKind.wrap .i64 ((IntKind.wrap .i64 ((N.spec_l13Any (N.spec_l1New a0)).2.2.2.2.2.1 + (N.spec_l1Below (N.spec_l1Once (N.spec_l13Any (N.spec_l1New a0)).1 (2 : Int)).1 (3 : Int)).2)) - (1 : Int)))) none) (cond (G.spec_l1Below (N.spec_l1Once (N.spec_l13Any (N.spec_l1New a0)).1 (2 : Int)).1 (100 : Int)) (k (N.spec_l13Any (N.spec_l1New a0)).2 (N.spec_l1Below (N.spec_l1Once (N.spec_l13Any (N.spec_l1New a0)).1 (2 : Int)).1 (100 : Int)).2) none)) none) none) none)
theorem spec_DrawIsFresh_ok {ρ : Type} (k : THead → Int → Option ρ) (a0 : (List Int)) (l_a0 : lnL (fun _ => True) a0) (g : G.spec_DrawIsFresh a0 = true) : spec_DrawIsFresh k  a0 = k (N.spec_DrawIsFresh a0).1 (N.spec_DrawIsFresh a0).2 := by
  unfold G.spec_DrawIsFresh at g
  have h0 := okC_new (of_decide_eq_true g)
  have h1 := okC_anyH h0
  have h2 := okC_once 2 h1
  simp only [spec_DrawIsFresh, G.spec_l1New, N.spec_l1New, G.spec_l13Any, N.spec_l13Any, G.spec_l1Once, N.spec_l1Once, G.spec_l1Below, N.spec_l1Below, g, h0, h1, h2, cond_true]
  show _ = k (freshH a0).1 (freshH a0).2
  unfold freshH
  cases (onceC (anyH (newC a0)).1 2).2 <;> rfl
def OP_spec_DrawIsFresh (f_spec_l1New : (List Int) → ((List Int) × (Int × Int))) (g_spec_l1New : (List Int) → Bool) (f_spec_l13Any : ((List Int) × (Int × Int)) → (((List Int) × (Int × Int)) × THead)) (g_spec_l13Any : ((List Int) × (Int × Int)) → Bool) (f_spec_l1Once : ((List Int) × (Int × Int)) → Int → (((List Int) × (Int × Int)) × Bool)) (g_spec_l1Once : ((List Int) × (Int × Int)) → Int → Bool) (f_spec_l1Below : ((List Int) × (Int × Int)) → Int → (((List Int) × (Int × Int)) × Int)) (g_spec_l1Below : ((List Int) × (Int × Int)) → Int → Bool) : Orac := (orcX 23 [.lend (.pair (.slice 5 (.int .u8)) (.pair (.int .i64) (.int .i64))) .no, .val (.int .i64)] (fun d => g_spec_l1Below d.1 d.2.1) (fun d => [⟨(.pair (.slice 5 (.int .u8)) (.pair (.int .i64) (.int .i64))), (f_spec_l1Below d.1 d.2.1).1⟩, ⟨(.int .i64), (f_spec_l1Below d.1 d.2.1).2⟩]) (orcX 21 [.lend (.pair (.slice 5 (.int .u8)) (.pair (.int .i64) (.int .i64))) .no, .val (.int .i64)] (fun d => g_spec_l1Once d.1 d.2.1) (fun d => [⟨(.pair (.slice 5 (.int .u8)) (.pair (.int .i64) (.int .i64))), (f_spec_l1Once d.1 d.2.1).1⟩, ⟨.bool, (f_spec_l1Once d.1 d.2.1).2⟩]) (orcX 20 [.lend (.pair (.slice 5 (.int .u8)) (.pair (.int .i64) (.int .i64))) .no] (fun d => g_spec_l13Any d.1) (fun d => [⟨(.pair (.slice 5 (.int .u8)) (.pair (.int .i64) (.int .i64))), (f_spec_l13Any d.1).1⟩, ⟨TyHead, (f_spec_l13Any d.1).2⟩]) (orcX 19 [.lend .bool .nil, .val (.slice 5 (.int .u8))] (fun d => g_spec_l1New d.2.1) (fun d => [⟨(.pair (.slice 5 (.int .u8)) (.pair (.int .i64) (.int .i64))), f_spec_l1New d.2.1⟩]) nilO))))
def O_spec_DrawIsFresh : Orac := OP_spec_DrawIsFresh N.spec_l1New G.spec_l1New N.spec_l13Any G.spec_l13Any N.spec_l1Once G.spec_l1Once N.spec_l1Below G.spec_l1Below
def spec_DrawIsFresh_P {ρ : Type} (f_spec_l1New : (List Int) → ((List Int) × (Int × Int))) (g_spec_l1New : (List Int) → Bool) (f_spec_l13Any : ((List Int) × (Int × Int)) → (((List Int) × (Int × Int)) × THead)) (g_spec_l13Any : ((List Int) × (Int × Int)) → Bool) (f_spec_l1Once : ((List Int) × (Int × Int)) → Int → (((List Int) × (Int × Int)) × Bool)) (g_spec_l1Once : ((List Int) × (Int × Int)) → Int → Bool) (f_spec_l1Below : ((List Int) × (Int × Int)) → Int → (((List Int) × (Int × Int)) × Int)) (g_spec_l1Below : ((List Int) × (Int × Int)) → Int → Bool) (k : THead → Int → Option ρ) (a0 : (List Int)) : Option ρ := (cond (g_spec_l1New a0) (cond (g_spec_l13Any (f_spec_l1New a0)) (cond (g_spec_l1Once (f_spec_l13Any (f_spec_l1New a0)).1 (2 : Int)) (cond (f_spec_l1Once (f_spec_l13Any (f_spec_l1New a0)).1 (2 : Int)).2 (cond (g_spec_l1Below (f_spec_l1Once (f_spec_l13Any (f_spec_l1New a0)).1 (2 : Int)).1 (3 : Int)) (k (f_spec_l13Any (f_spec_l1New a0)).2 (IntKind.wrap .i64 ((IntKind.wrap .i64 ((f_spec_l13Any (f_spec_l1New a0)).2.2.2.2.2.1 + (f_spec_l1Below (f_spec_l1Once (f_spec_l13Any (f_spec_l1New a0)).1 (2 : Int)).1 (3 : Int)).2)) - (1 : Int)))) none) (cond (g_spec_l1Below (f_spec_l1Once (f_spec_l13Any (f_spec_l1New a0)).1 (2 : Int)).1 (100 : Int)) (k (f_spec_l13Any (f_spec_l1New a0)).2 (f_spec_l1Below (f_spec_l1Once (f_spec_l13Any (f_spec_l1New a0)).1 (2 : Int)).1 (100 : Int)).2) none)) none) none) none)
theorem ok_spec_DrawIsFresh : OracOk Try.prog sigs O_spec_DrawIsFresh := (orcB_ok rfl (fun d g => said_spec_l1Below d.1 d.2.1 g) (orcB_ok rfl (fun d g => said_spec_l1Once d.1 d.2.1 g) (orcB_ok rfl (fun d g => said_spec_l13Any d.1 g) (orcN_ok rfl (fun d g => said_spec_l1New d.2.1 g) nilO_ok))))
def A_spec_DrawIsFresh : Ann := fun b => ⟨[], []⟩
theorem aP_spec_DrawIsFresh (f_spec_l1New : (List Int) → ((List Int) × (Int × Int))) (g_spec_l1New : (List Int) → Bool) (f_spec_l13Any : ((List Int) × (Int × Int)) → (((List Int) × (Int × Int)) × THead)) (g_spec_l13Any : ((List Int) × (Int × Int)) → Bool) (f_spec_l1Once : ((List Int) × (Int × Int)) → Int → (((List Int) × (Int × Int)) × Bool)) (g_spec_l1Once : ((List Int) × (Int × Int)) → Int → Bool) (f_spec_l1Below : ((List Int) × (Int × Int)) → Int → (((List Int) × (Int × Int)) × Int)) (g_spec_l1Below : ((List Int) × (Int × Int)) → Int → Bool) (n : Nat) (a0 : (List Int)) : absF tab sigs (OP_spec_DrawIsFresh f_spec_l1New g_spec_l1New f_spec_l13Any g_spec_l13Any f_spec_l1Once g_spec_l1Once f_spec_l1Below g_spec_l1Below) A_spec_DrawIsFresh Try.f6 [(TyHead, (.pair .no (.pair .no (.pair .no (.pair .no (.pair .no (.pair .no (.pair .no (.pair .no (.pair (.pair (.own 0) .no) (.pair (.pair (.own 1) .no) (.pair .no (.pair (.pair (.own 2) .no) .no))))))))))))), ((.int .i64), .no)] n [.val (.slice 5 (.int .u8)) a0] = spec_DrawIsFresh_P f_spec_l1New g_spec_l1New f_spec_l13Any g_spec_l13Any f_spec_l1Once g_spec_l1Once f_spec_l1Below g_spec_l1Below (fun r0 r1 => some [⟨TyHead, r0⟩, ⟨(.int .i64), r1⟩])  a0 := by kernel_rfl
theorem a_spec_DrawIsFresh (n : Nat) (a0 : (List Int)) : absF tab sigs O_spec_DrawIsFresh A_spec_DrawIsFresh Try.f6 [(TyHead, (.pair .no (.pair .no (.pair .no (.pair .no (.pair .no (.pair .no (.pair .no (.pair .no (.pair (.pair (.own 0) .no) (.pair (.pair (.own 1) .no) (.pair .no (.pair (.pair (.own 2) .no) .no))))))))))))), ((.int .i64), .no)] n [.val (.slice 5 (.int .u8)) a0] = spec_DrawIsFresh (fun r0 r1 => some [⟨TyHead, r0⟩, ⟨(.int .i64), r1⟩])  a0 := aP_spec_DrawIsFresh N.spec_l1New G.spec_l1New N.spec_l13Any G.spec_l13Any N.spec_l1Once G.spec_l1Once N.spec_l1Below G.spec_l1Below n a0
theorem said_spec_DrawIsFresh (a0 : (List Int)) (g : G.spec_DrawIsFresh a0 = true) : Said Try.prog sigs_6 6 [.val (.slice 5 (.int .u8)) a0] [⟨TyHead, (N.spec_DrawIsFresh a0).1⟩, ⟨(.int .i64), (N.spec_DrawIsFresh a0).2⟩] := said_len (T := tab) (A := A_spec_DrawIsFresh) tabOk ok_spec_DrawIsFresh tabOk.follows Try.func6 (by kernel_rfl) (by kernel_rfl) (fun hl => ⟨0, (a_spec_DrawIsFresh 0 a0).trans (spec_DrawIsFresh_ok (ρ := Ret) (fun r0 r1 => some [⟨TyHead, r0⟩, ⟨(.int .i64), r1⟩]) a0 hl.1 g)⟩)
/-! spec.DrawNoKeys -/
abbrev G.spec_DrawNoKeys (l : List Int) : Bool := decide (l.length ≤ 1048576)
abbrev N.spec_DrawNoKeys (l : List Int) : TKeys := noK l
def spec_DrawNoKeys {ρ : Type} (k : TKeys → Option ρ) (a0 : (List Int)) : Option ρ := (cond (G.spec_l1New a0) (cond (G.spec_l1Once (N.spec_l1New a0) (2 : Int)) (cond (N.spec_l1Once (N.spec_l1New a0) (2 : Int)).2 (cond (G.spec_l1Below (N.spec_l1Once (N.spec_l1New a0) (2 : Int)).1 (2 : Int)) (k ([], (N.spec_l1Below (N.spec_l1Once (N.spec_l1New a0) (2 : Int)).1 (2 : Int)).2)) none) (cond (G.spec_l6Any (N.spec_l1Once (N.spec_l1New a0) (2 : Int)).1) (k (N.spec_l6Any (N.spec_l1Once (N.spec_l1New a0) (2 : Int)).1).2) none)) none) none)
theorem spec_DrawNoKeys_ok {ρ : Type} (k : TKeys → Option ρ) (a0 : (List Int)) (l_a0 : lnL (fun _ => True) a0) (g : G.spec_DrawNoKeys a0 = true) : spec_DrawNoKeys k  a0 = k (N.spec_DrawNoKeys a0) := by
  unfold G.spec_DrawNoKeys at g
  have h0 := okC_new (of_decide_eq_true g)
  have h1 := okC_once 2 h0
  simp only [spec_DrawNoKeys, G.spec_l1New, N.spec_l1New, G.spec_l6Any, N.spec_l6Any, G.spec_l1Once, N.spec_l1Once, G.spec_l1Below, N.spec_l1Below, g, h0, h1, cond_true]
  show _ = k (noK a0)
  unfold noK
  cases (onceC (newC a0) 2).2 <;> rfl
def OP_spec_DrawNoKeys (f_spec_l1New : (List Int) → ((List Int) × (Int × Int))) (g_spec_l1New : (List Int) → Bool) (f_spec_l1Once : ((List Int) × (Int × Int)) → Int → (((List Int) × (Int × Int)) × Bool)) (g_spec_l1Once : ((List Int) × (Int × Int)) → Int → Bool) (f_spec_l1Below : ((List Int) × (Int × Int)) → Int → (((List Int) × (Int × Int)) × Int)) (g_spec_l1Below : ((List Int) × (Int × Int)) → Int → Bool) (f_spec_l6Any : ((List Int) × (Int × Int)) → (((List Int) × (Int × Int)) × TKeys)) (g_spec_l6Any : ((List Int) × (Int × Int)) → Bool) : Orac := (orcX 24 [.lend (.pair (.slice 5 (.int .u8)) (.pair (.int .i64) (.int .i64))) .no] (fun d => g_spec_l6Any d.1) (fun d => [⟨(.pair (.slice 5 (.int .u8)) (.pair (.int .i64) (.int .i64))), (f_spec_l6Any d.1).1⟩, ⟨(.pair (.slice 3 (.int .i64)) (.int .i64)), (f_spec_l6Any d.1).2⟩]) (orcX 23 [.lend (.pair (.slice 5 (.int .u8)) (.pair (.int .i64) (.int .i64))) .no, .val (.int .i64)] (fun d => g_spec_l1Below d.1 d.2.1) (fun d => [⟨(.pair (.slice 5 (.int .u8)) (.pair (.int .i64) (.int .i64))), (f_spec_l1Below d.1 d.2.1).1⟩, ⟨(.int .i64), (f_spec_l1Below d.1 d.2.1).2⟩]) (orcX 21 [.lend (.pair (.slice 5 (.int .u8)) (.pair (.int .i64) (.int .i64))) .no, .val (.int .i64)] (fun d => g_spec_l1Once d.1 d.2.1) (fun d => [⟨(.pair (.slice 5 (.int .u8)) (.pair (.int .i64) (.int .i64))), (f_spec_l1Once d.1 d.2.1).1⟩, ⟨.bool, (f_spec_l1Once d.1 d.2.1).2⟩]) (orcX 19 [.lend .bool .nil, .val (.slice 5 (.int .u8))] (fun d => g_spec_l1New d.2.1) (fun d => [⟨(.pair (.slice 5 (.int .u8)) (.pair (.int .i64) (.int .i64))), f_spec_l1New d.2.1⟩]) nilO))))
def O_spec_DrawNoKeys : Orac := OP_spec_DrawNoKeys N.spec_l1New G.spec_l1New N.spec_l1Once G.spec_l1Once N.spec_l1Below G.spec_l1Below N.spec_l6Any G.spec_l6Any
def spec_DrawNoKeys_P {ρ : Type} (f_spec_l1New : (List Int) → ((List Int) × (Int × Int))) (g_spec_l1New : (List Int) → Bool) (f_spec_l1Once : ((List Int) × (Int × Int)) → Int → (((List Int) × (Int × Int)) × Bool)) (g_spec_l1Once : ((List Int) × (Int × Int)) → Int → Bool) (f_spec_l1Below : ((List Int) × (Int × Int)) → Int → (((List Int) × (Int × Int)) × Int)) (g_spec_l1Below : ((List Int) × (Int × Int)) → Int → Bool) (f_spec_l6Any : ((List Int) × (Int × Int)) → (((List Int) × (Int × Int)) × TKeys)) (g_spec_l6Any : ((List Int) × (Int × Int)) → Bool) (k : TKeys → Option ρ) (a0 : (List Int)) : Option ρ := (cond (g_spec_l1New a0) (cond (g_spec_l1Once (f_spec_l1New a0) (2 : Int)) (cond (f_spec_l1Once (f_spec_l1New a0) (2 : Int)).2 (cond (g_spec_l1Below (f_spec_l1Once (f_spec_l1New a0) (2 : Int)).1 (2 : Int)) (k ([], (f_spec_l1Below (f_spec_l1Once (f_spec_l1New a0) (2 : Int)).1 (2 : Int)).2)) none) (cond (g_spec_l6Any (f_spec_l1Once (f_spec_l1New a0) (2 : Int)).1) (k (f_spec_l6Any (f_spec_l1Once (f_spec_l1New a0) (2 : Int)).1).2) none)) none) none)
theorem ok_spec_DrawNoKeys : OracOk Try.prog sigs O_spec_DrawNoKeys := (orcB_ok rfl (fun d g => said_spec_l6Any d.1 g) (orcB_ok rfl (fun d g => said_spec_l1Below d.1 d.2.1 g) (orcB_ok rfl (fun d g => said_spec_l1Once d.1 d.2.1 g) (orcN_ok rfl (fun d g => said_spec_l1New d.2.1 g) nilO_ok))))
def A_spec_DrawNoKeys : Ann := fun b => ⟨[], []⟩
theorem aP_spec_DrawNoKeys (f_spec_l1New : (List Int) → ((List Int) × (Int × Int))) (g_spec_l1New : (List Int) → Bool) (f_spec_l1Once : ((List Int) × (Int × Int)) → Int → (((List Int) × (Int × Int)) × Bool)) (g_spec_l1Once : ((List Int) × (Int × Int)) → Int → Bool) (f_spec_l1Below : ((List Int) × (Int × Int)) → Int → (((List Int) × (Int × Int)) × Int)) (g_spec_l1Below : ((List Int) × (Int × Int)) → Int → Bool) (f_spec_l6Any : ((List Int) × (Int × Int)) → (((List Int) × (Int × Int)) × TKeys)) (g_spec_l6Any : ((List Int) × (Int × Int)) → Bool) (n : Nat) (a0 : (List Int)) : absF tab sigs (OP_spec_DrawNoKeys f_spec_l1New g_spec_l1New f_spec_l1Once g_spec_l1Once f_spec_l1Below g_spec_l1Below f_spec_l6Any g_spec_l6Any) A_spec_DrawNoKeys Try.f7 [((.pair (.slice 3 (.int .i64)) (.int .i64)), (.pair (.own 0) .no))] n [.val (.slice 5 (.int .u8)) a0] = spec_DrawNoKeys_P f_spec_l1New g_spec_l1New f_spec_l1Once g_spec_l1Once f_spec_l1Below g_spec_l1Below f_spec_l6Any g_spec_l6Any (fun r0 => some [⟨(.pair (.slice 3 (.int .i64)) (.int .i64)), r0⟩])  a0 := by kernel_rfl
theorem a_spec_DrawNoKeys (n : Nat) (a0 : (List Int)) : absF tab sigs O_spec_DrawNoKeys A_spec_DrawNoKeys Try.f7 [((.pair (.slice 3 (.int .i64)) (.int .i64)), (.pair (.own 0) .no))] n [.val (.slice 5 (.int .u8)) a0] = spec_DrawNoKeys (fun r0 => some [⟨(.pair (.slice 3 (.int .i64)) (.int .i64)), r0⟩])  a0 := aP_spec_DrawNoKeys N.spec_l1New G.spec_l1New N.spec_l1Once G.spec_l1Once N.spec_l1Below G.spec_l1Below N.spec_l6Any G.spec_l6Any n a0
theorem said_spec_DrawNoKeys (a0 : (List Int)) (g : G.spec_DrawNoKeys a0 = true) : Said Try.prog sigs_7 7 [.val (.slice 5 (.int .u8)) a0] [⟨(.pair (.slice 3 (.int .i64)) (.int .i64)), N.spec_DrawNoKeys a0⟩] := said_len (T := tab) (A := A_spec_DrawNoKeys) tabOk ok_spec_DrawNoKeys tabOk.follows Try.func7 (by kernel_rfl) (by kernel_rfl) (fun hl => ⟨0, (a_spec_DrawNoKeys 0 a0).trans (spec_DrawNoKeys_ok (ρ := Ret) (fun r0 => some [⟨(.pair (.slice 3 (.int .i64)) (.int .i64)), r0⟩]) a0 hl.1 g)⟩)
/-! impl.InRange -/
abbrev N.impl_InRange (n lo hi : Int) : Bool := inR n lo hi
def impl_InRange {ρ : Type} (k : Bool → Option ρ) (a0 : Int) (a1 : Int) (a2 : Int) : Option ρ := (cond (decide (a1 ≤ a0)) (k (decide (a0 ≤ a2))) (k false))
theorem impl_InRange_ok {ρ : Type} (k : Bool → Option ρ) (a0 : Int) (a1 : Int) (a2 : Int) : impl_InRange k  a0 a1 a2 = k (N.impl_InRange a0 a1 a2) := by
  simp only [impl_InRange, inR]
  cases decide (a1 ≤ a0) <;> rfl
def O_impl_InRange : Orac := nilO
theorem ok_impl_InRange : OracOk Try.prog sigs O_impl_InRange := nilO_ok
def A_impl_InRange : Ann := fun b => ⟨[], []⟩
theorem a_impl_InRange (n : Nat) (a0 : Int) (a1 : Int) (a2 : Int) : absF tab sigs O_impl_InRange A_impl_InRange Try.f26 [(.bool, .no)] n [.val (.int .i64) a0, .val (.int .i64) a1, .val (.int .i64) a2] = impl_InRange (fun r0 => some [⟨.bool, r0⟩])  a0 a1 a2 := by kernel_rfl
theorem said_impl_InRange (a0 : Int) (a1 : Int) (a2 : Int) : Said Try.prog sigs_26 26 [.val (.int .i64) a0, .val (.int .i64) a1, .val (.int .i64) a2] [⟨.bool, N.impl_InRange a0 a1 a2⟩] := said_len (T := tab) (A := A_impl_InRange) tabOk ok_impl_InRange tabOk.follows Try.func26 (by kernel_rfl) (by kernel_rfl) (fun hl => ⟨0, (a_impl_InRange 0 a0 a1 a2).trans (impl_InRange_ok (ρ := Ret) (fun r0 => some [⟨.bool, r0⟩]) a0 a1 a2)⟩)
/-! impl.isDigest -/
abbrev N.impl_isDigest (n : Int) : Bool := isDigest n
def impl_isDigest {ρ : Type} (k : Bool → Option ρ) (a0 : Int) : Option ρ := (k (N.impl_InRange a0 (0 : Int) (2147483646 : Int)))
theorem impl_isDigest_ok {ρ : Type} (k : Bool → Option ρ) (a0 : Int) : impl_isDigest k  a0 = k (N.impl_isDigest a0) := by
  rfl
def OP_impl_isDigest (f_impl_InRange : Int → Int → Int → Bool) : Orac := (orcX 26 [.val (.int .i64), .val (.int .i64), .val (.int .i64)] (fun d => true) (fun d => [⟨.bool, f_impl_InRange d.1 d.2.1 d.2.2.1⟩]) nilO)
def O_impl_isDigest : Orac := OP_impl_isDigest N.impl_InRange
def impl_isDigest_P {ρ : Type} (f_impl_InRange : Int → Int → Int → Bool) (k : Bool → Option ρ) (a0 : Int) : Option ρ := (k (f_impl_InRange a0 (0 : Int) (2147483646 : Int)))
theorem ok_impl_isDigest : OracOk Try.prog sigs O_impl_isDigest := (orcX_ok rfl rfl (fun d g => said_impl_InRange d.1 d.2.1 d.2.2.1) nilO_ok)
def A_impl_isDigest : Ann := fun b => ⟨[], []⟩
theorem aP_impl_isDigest (f_impl_InRange : Int → Int → Int → Bool) (n : Nat) (a0 : Int) : absF tab sigs (OP_impl_isDigest f_impl_InRange) A_impl_isDigest Try.f25 [(.bool, .no)] n [.val (.int .i64) a0] = impl_isDigest_P f_impl_InRange (fun r0 => some [⟨.bool, r0⟩])  a0 := by kernel_rfl
theorem a_impl_isDigest (n : Nat) (a0 : Int) : absF tab sigs O_impl_isDigest A_impl_isDigest Try.f25 [(.bool, .no)] n [.val (.int .i64) a0] = impl_isDigest (fun r0 => some [⟨.bool, r0⟩])  a0 := aP_impl_isDigest N.impl_InRange n a0
theorem said_impl_isDigest (a0 : Int) : Said Try.prog sigs_25 25 [.val (.int .i64) a0] [⟨.bool, N.impl_isDigest a0⟩] := said_len (T := tab) (A := A_impl_isDigest) tabOk ok_impl_isDigest tabOk.follows Try.func25 (by kernel_rfl) (by kernel_rfl) (fun hl => ⟨0, (a_impl_isDigest 0 a0).trans (impl_isDigest_ok (ρ := Ret) (fun r0 => some [⟨.bool, r0⟩]) a0)⟩)
/-! impl.isSpan -/
abbrev N.impl_isSpan (h : THead) : Bool := isSpan h
def impl_isSpan {ρ : Type} (k : Bool → Option ρ) (a0 : THead) : Option ρ := (cond (decide (a0.2.2.2.1 ≥ (0 : Int))) (cond (decide (a0.2.2.2.1 ≤ a0.2.2.2.2.1)) (cond (decide (a0.2.2.2.2.1 ≤ (100000 : Int))) (k (decide ((IntKind.wrap .i64 (a0.2.2.2.2.1 - a0.2.2.2.1)) ≤ (200 : Int)))) (k false)) (k false)) (k false))
theorem impl_isSpan_ok {ρ : Type} (k : Bool → Option ρ) (a0 : THead) (l_a0 : (lenT TyHead a0)) : impl_isSpan k  a0 = k (N.impl_isSpan a0) := by
  simp only [impl_isSpan, isSpan, ge_iff_le]
  cases decide (0 ≤ a0.2.2.2.1)
  · rfl
  cases decide (a0.2.2.2.1 ≤ a0.2.2.2.2.1)
  · rfl
  cases decide (a0.2.2.2.2.1 ≤ 100000) <;> rfl
def O_impl_isSpan : Orac := nilO
theorem ok_impl_isSpan : OracOk Try.prog sigs O_impl_isSpan := nilO_ok
def A_impl_isSpan : Ann := fun b => ⟨[], []⟩
theorem a_impl_isSpan (n : Nat) (a0 : THead) : absF tab sigs O_impl_isSpan A_impl_isSpan Try.f27 [(.bool, .no)] n [.val TyHead a0] = impl_isSpan (fun r0 => some [⟨.bool, r0⟩])  a0 := by kernel_rfl
theorem said_impl_isSpan (a0 : THead) : Said Try.prog sigs_27 27 [.val TyHead a0] [⟨.bool, N.impl_isSpan a0⟩] := said_len (T := tab) (A := A_impl_isSpan) tabOk ok_impl_isSpan tabOk.follows Try.func27 (by kernel_rfl) (by kernel_rfl) (fun hl => ⟨0, (a_impl_isSpan 0 a0).trans (impl_isSpan_ok (ρ := Ret) (fun r0 => some [⟨.bool, r0⟩]) a0 hl.1)⟩)
/-! impl.ascending -/
abbrev N.impl_ascending (l : List Int) : Bool := asc l
def impl_ascending_L0 {ρ : Type} (k : Bool → Option ρ) (L0 : (List Int) → Int → Int → Option ρ) (v0_0 : (List Int)) (v0_1 : Int) (v0_2 : Int) : Option ρ := (cond (decide (v0_2 < v0_1)) (cond (decide (v0_2 > (0 : Int))) (cond (inRange v0_2 (List.length v0_0)) (cond (inRange (IntKind.wrap .i64 (v0_2 - (1 : Int))) (List.length v0_0)) (cond (decide ((List.getD v0_0 (Int.toNat v0_2) (0 : Int)) ≤ (List.getD v0_0 (Int.toNat (IntKind.wrap .i64 (v0_2 - (1 : Int)))) (0 : Int)))) (k false) (L0 v0_0 v0_1 (IntKind.wrap .i64 (v0_2 + (1 : Int))))) none) none) (L0 v0_0 v0_1 (IntKind.wrap .i64 (v0_2 + (1 : Int))))) (k true))
def impl_ascending {ρ : Type} (k : Bool → Option ρ) (L0 : (List Int) → Int → Int → Option ρ) (a0 : (List Int)) : Option ρ := (L0 a0 (List.length a0 : Int) (0 : Int))
theorem impl_ascending_ok {ρ : Type} (k : Bool → Option ρ) (a0 : (List Int)) (l_a0 : lnL (fun _ => True) a0) : ∃ n0, ∀ n, n0 ≤ n → ∀ (L0 : Nat → (List Int) → Int → Int → Option ρ) (h0 : ∀ ( m : Nat) (v0_0 : (List Int)) (v0_1 : Int) (v0_2 : Int), L0 (m + 1) v0_0 v0_1 v0_2 = impl_ascending_L0 k (L0 m) v0_0 v0_1 v0_2), impl_ascending k (L0 n) a0 = k (N.impl_ascending a0) := by
  refine ⟨a0.length + 1, fun n hn L0 h0 => ?_⟩
  have hb : a0.length ≤ 9223372036854775807 := l_a0.1
  have hrun := raw_run0 (σ := Unit) (s := ()) (L := fun m i _ => L0 m a0 (a0.length : Int) i) (R := fun i _ c => impl_ascending_L0 k (fun _ _ i => c i ()) a0 (a0.length : Int) i) (fun m i s => h0 m a0 (a0.length : Int) i) a0.length (fun _ _ => True) (fun j _ => k (ascFrom a0 (a0.length - j) j)) (fun j s c hj _ hc => ?_) (fun s c _ => ?_) hn trivial
  · refine hrun.trans ?_
    rw [Nat.sub_zero]
    rfl
  · obtain ⟨m, hm⟩ : ∃ m, a0.length - j = m + 1 := ⟨a0.length - j - 1, by omega⟩
    have hm2 : a0.length - (j + 1) = m := by omega
    have hc' := hc () trivial
    rw [hm2] at hc'
    rw [hm]
    unfold ascFrom
    by_cases h0j : j = 0
    · subst h0j
      simp only [impl_ascending_L0, lt_nat, inRange_nat, decide_eq_true hj, cond_true, wrap_succ (j := 0) (by unfold big; omega), hc']
      simp
    · have e1 : decide ((j : Int) > 0) = true := by simp; omega
      have e2 : IntKind.wrap .i64 ((j : Int) - 1) = ((j - 1 : Nat) : Int) := by rw [wrap_id (by omega) (by omega)]; omega
      have e3 : j - 1 < a0.length := by omega
      have e4 : decide (a0.getD j 0 ≤ a0.getD (j - 1) 0) = !decide (a0.getD (j - 1) 0 < a0.getD j 0) := by rw [← decide_not]; simp
      simp only [impl_ascending_L0, lt_nat, inRange_nat, decide_eq_true hj, cond_true, Int.toNat_natCast, e1, e2, e4, decide_eq_true e3, wrap_succ (j := j) (by unfold big; omega), hc', decide_eq_false h0j]
      cases decide (a0.getD (j - 1) 0 < a0.getD j 0) <;> simp
  · rw [Nat.sub_self]
    simp [impl_ascending_L0, ascFrom]
def O_impl_ascending : Orac := nilO
theorem ok_impl_ascending : OracOk Try.prog sigs O_impl_ascending := nilO_ok
def A_impl_ascending : Ann := fun b => cond (Nat.beq b 0) ⟨[(0, false), (5, false), (6, false)], []⟩ (⟨[], []⟩)
def S_impl_ascending_0 (v0_0 : (List Int)) (v0_1 : Int) (v0_2 : Int) : St := [(kT 0, some (.tv (.v (.slice 3 (.int .i64)) v0_0 .no))), (kT 5, some (.tv (.v (.int .i64) v0_1 .no))), (kT 6, some (.tv (.v (.int .i64) v0_2 .no)))]
noncomputable def L_impl_ascending_0 (n m : Nat) : St → Option Ret := loopOf tab sigs O_impl_ascending A_impl_ascending Try.f48 [(.bool, .no)] n (fun _ => 0) 0 m
theorem b_impl_ascending_0 (n m : Nat) (v0_0 : (List Int)) (v0_1 : Int) (v0_2 : Int) : L_impl_ascending_0 n (m + 1) (S_impl_ascending_0 v0_0 v0_1 v0_2) = impl_ascending_L0 (fun r0 => some [⟨.bool, r0⟩]) (fun v0_0 v0_1 v0_2 => L_impl_ascending_0 n m (S_impl_ascending_0 v0_0 v0_1 v0_2)) v0_0 v0_1 v0_2 := by kernel_rfl
theorem a_impl_ascending (n : Nat) (a0 : (List Int)) : absF tab sigs O_impl_ascending A_impl_ascending Try.f48 [(.bool, .no)] n [.val (.slice 3 (.int .i64)) a0] = impl_ascending (fun r0 => some [⟨.bool, r0⟩]) (fun v0_0 v0_1 v0_2 => L_impl_ascending_0 n n (S_impl_ascending_0 v0_0 v0_1 v0_2)) a0 := by kernel_rfl
theorem said_impl_ascending (a0 : (List Int)) : Said Try.prog sigs_48 48 [.val (.slice 3 (.int .i64)) a0] [⟨.bool, N.impl_ascending a0⟩] := said_len (T := tab) (A := A_impl_ascending) tabOk ok_impl_ascending tabOk.follows Try.func48 (by kernel_rfl) (by kernel_rfl) (fun hl => let ⟨n, hn⟩ := impl_ascending_ok (ρ := Ret) (fun r0 => some [⟨.bool, r0⟩]) a0 hl.1; ⟨n, (a_impl_ascending n a0).trans (hn n (Nat.le_refl n) (fun  m v0_0 v0_1 v0_2 => L_impl_ascending_0 n  m (S_impl_ascending_0 v0_0 v0_1 v0_2)) (fun  m v0_0 v0_1 v0_2 => b_impl_ascending_0 n  m v0_0 v0_1 v0_2))⟩)
/-! impl.isKey -/
abbrev N.impl_isKey (n : Int) : Bool := isKey n
def impl_isKey {ρ : Type} (k : Bool → Option ρ) (a0 : Int) : Option ρ := (k (N.impl_InRange a0 (1 : Int) (99 : Int)))
theorem impl_isKey_ok {ρ : Type} (k : Bool → Option ρ) (a0 : Int) : impl_isKey k  a0 = k (N.impl_isKey a0) := by
  rfl
def OP_impl_isKey (f_impl_InRange : Int → Int → Int → Bool) : Orac := (orcX 26 [.val (.int .i64), .val (.int .i64), .val (.int .i64)] (fun d => true) (fun d => [⟨.bool, f_impl_InRange d.1 d.2.1 d.2.2.1⟩]) nilO)
def O_impl_isKey : Orac := OP_impl_isKey N.impl_InRange
def impl_isKey_P {ρ : Type} (f_impl_InRange : Int → Int → Int → Bool) (k : Bool → Option ρ) (a0 : Int) : Option ρ := (k (f_impl_InRange a0 (1 : Int) (99 : Int)))
theorem ok_impl_isKey : OracOk Try.prog sigs O_impl_isKey := (orcX_ok rfl rfl (fun d g => said_impl_InRange d.1 d.2.1 d.2.2.1) nilO_ok)
def A_impl_isKey : Ann := fun b => ⟨[], []⟩
theorem aP_impl_isKey (f_impl_InRange : Int → Int → Int → Bool) (n : Nat) (a0 : Int) : absF tab sigs (OP_impl_isKey f_impl_InRange) A_impl_isKey Try.f49 [(.bool, .no)] n [.val (.int .i64) a0] = impl_isKey_P f_impl_InRange (fun r0 => some [⟨.bool, r0⟩])  a0 := by kernel_rfl
theorem a_impl_isKey (n : Nat) (a0 : Int) : absF tab sigs O_impl_isKey A_impl_isKey Try.f49 [(.bool, .no)] n [.val (.int .i64) a0] = impl_isKey (fun r0 => some [⟨.bool, r0⟩])  a0 := aP_impl_isKey N.impl_InRange n a0
theorem said_impl_isKey (a0 : Int) : Said Try.prog sigs_49 49 [.val (.int .i64) a0] [⟨.bool, N.impl_isKey a0⟩] := said_len (T := tab) (A := A_impl_isKey) tabOk ok_impl_isKey tabOk.follows Try.func49 (by kernel_rfl) (by kernel_rfl) (fun hl => ⟨0, (a_impl_isKey 0 a0).trans (impl_isKey_ok (ρ := Ret) (fun r0 => some [⟨.bool, r0⟩]) a0)⟩)
/-! impl.IsKeys -/
abbrev N.impl_IsKeys (k : TKeys) : Bool := isKeys k
def impl_IsKeys {ρ : Type} (k : Bool → Option ρ) (a0 : TKeys) : Option ρ := (cond (N.impl_InRange (List.length a0.1 : Int) (1 : Int) (4 : Int)) (cond (N.impl_ascending a0.1) (cond (inRange (0 : Int) (List.length a0.1)) (cond (N.impl_isKey (List.getD a0.1 0 (0 : Int))) (cond (inRange (IntKind.wrap .i64 ((List.length a0.1 : Int) - (1 : Int))) (List.length a0.1)) (cond (N.impl_isKey (List.getD a0.1 (Int.toNat (IntKind.wrap .i64 ((List.length a0.1 : Int) - (1 : Int)))) (0 : Int))) (k (N.impl_InRange a0.2 (1 : Int) (List.length a0.1 : Int))) (k false)) none) (k false)) none) (k false)) (k false))
theorem impl_IsKeys_ok {ρ : Type} (k : Bool → Option ρ) (a0 : TKeys) (l_a0 : (lnL (fun _ => True) a0.1 ∧ True)) : impl_IsKeys k  a0 = k (N.impl_IsKeys a0) := by
  have hb : a0.1.length ≤ 9223372036854775807 := l_a0.1.1
  simp only [impl_IsKeys, N.impl_InRange, N.impl_ascending, N.impl_isKey, N.impl_IsKeys, isKeys]
  cases hr : inR (a0.1.length : Int) 1 4 with
  | false => rfl
  | true =>
    have hr2 : 1 ≤ (a0.1.length : Int) ∧ (a0.1.length : Int) ≤ 4 := by simpa [inR] using hr
    have e0 : inRange 0 a0.1.length = true := by
      unfold inRange
      rw [decide_eq_true (p := (0 : Int) < (a0.1.length : Int)) (by omega)]
      rfl
    have e1 : IntKind.wrap .i64 ((a0.1.length : Int) - 1) = ((a0.1.length - 1 : Nat) : Int) := by rw [wrap_id (by omega) (by omega)]; omega
    have e2 : inRange ((a0.1.length - 1 : Nat) : Int) a0.1.length = true := by rw [inRange_nat]; simp; omega
    simp only [e0, e1, e2, cond_true, Int.toNat_natCast]
    cases asc a0.1 <;> cases isKey (a0.1.getD 0 0) <;> cases isKey (a0.1.getD (a0.1.length - 1) 0) <;> rfl
def OP_impl_IsKeys (f_impl_InRange : Int → Int → Int → Bool) (f_impl_ascending : (List Int) → Bool) (f_impl_isKey : Int → Bool) : Orac := (orcX 49 [.val (.int .i64)] (fun d => true) (fun d => [⟨.bool, f_impl_isKey d.1⟩]) (orcX 48 [.val (.slice 3 (.int .i64))] (fun d => true) (fun d => [⟨.bool, f_impl_ascending d.1⟩]) (orcX 26 [.val (.int .i64), .val (.int .i64), .val (.int .i64)] (fun d => true) (fun d => [⟨.bool, f_impl_InRange d.1 d.2.1 d.2.2.1⟩]) nilO)))
def O_impl_IsKeys : Orac := OP_impl_IsKeys N.impl_InRange N.impl_ascending N.impl_isKey
def impl_IsKeys_P {ρ : Type} (f_impl_InRange : Int → Int → Int → Bool) (f_impl_ascending : (List Int) → Bool) (f_impl_isKey : Int → Bool) (k : Bool → Option ρ) (a0 : TKeys) : Option ρ := (cond (f_impl_InRange (List.length a0.1 : Int) (1 : Int) (4 : Int)) (cond (f_impl_ascending a0.1) (cond (inRange (0 : Int) (List.length a0.1)) (cond (f_impl_isKey (List.getD a0.1 0 (0 : Int))) (cond (inRange (IntKind.wrap .i64 ((List.length a0.1 : Int) - (1 : Int))) (List.length a0.1)) (cond (f_impl_isKey (List.getD a0.1 (Int.toNat (IntKind.wrap .i64 ((List.length a0.1 : Int) - (1 : Int)))) (0 : Int))) (k (f_impl_InRange a0.2 (1 : Int) (List.length a0.1 : Int))) (k false)) none) (k false)) none) (k false)) (k false))
theorem ok_impl_IsKeys : OracOk Try.prog sigs O_impl_IsKeys := (orcX_ok rfl rfl (fun d g => said_impl_isKey d.1) (orcX_ok rfl rfl (fun d g => said_impl_ascending d.1) (orcX_ok rfl rfl (fun d g => said_impl_InRange d.1 d.2.1 d.2.2.1) nilO_ok)))
def A_impl_IsKeys : Ann := fun b => ⟨[], []⟩
theorem aP_impl_IsKeys (f_impl_InRange : Int → Int → Int → Bool) (f_impl_ascending : (List Int) → Bool) (f_impl_isKey : Int → Bool) (n : Nat) (a0 : TKeys) : absF tab sigs (OP_impl_IsKeys f_impl_InRange f_impl_ascending f_impl_isKey) A_impl_IsKeys Try.f28 [(.bool, .no)] n [.val (.pair (.slice 3 (.int .i64)) (.int .i64)) a0] = impl_IsKeys_P f_impl_InRange f_impl_ascending f_impl_isKey (fun r0 => some [⟨.bool, r0⟩])  a0 := by kernel_rfl
theorem a_impl_IsKeys (n : Nat) (a0 : TKeys) : absF tab sigs O_impl_IsKeys A_impl_IsKeys Try.f28 [(.bool, .no)] n [.val (.pair (.slice 3 (.int .i64)) (.int .i64)) a0] = impl_IsKeys (fun r0 => some [⟨.bool, r0⟩])  a0 := aP_impl_IsKeys N.impl_InRange N.impl_ascending N.impl_isKey n a0
theorem said_impl_IsKeys (a0 : TKeys) : Said Try.prog sigs_28 28 [.val (.pair (.slice 3 (.int .i64)) (.int .i64)) a0] [⟨.bool, N.impl_IsKeys a0⟩] := said_len (T := tab) (A := A_impl_IsKeys) tabOk ok_impl_IsKeys tabOk.follows Try.func28 (by kernel_rfl) (by kernel_rfl) (fun hl => ⟨0, (a_impl_IsKeys 0 a0).trans (impl_IsKeys_ok (ρ := Ret) (fun r0 => some [⟨.bool, r0⟩]) a0 hl.1)⟩)
/-! impl.NoKeys -/
abbrev N.impl_NoKeys (k : TKeys) : Bool := noKeys k
def impl_NoKeys {ρ : Type} (k : Bool → Option ρ) (a0 : TKeys) : Option ρ := (cond (a0.2 == (0 : Int)) (k ((List.length a0.1 : Int) == (0 : Int))) (k false))
theorem impl_NoKeys_ok {ρ : Type} (k : Bool → Option ρ) (a0 : TKeys) (l_a0 : (lnL (fun _ => True) a0.1 ∧ True)) : impl_NoKeys k  a0 = k (N.impl_NoKeys a0) := by
  simp only [impl_NoKeys, N.impl_NoKeys, noKeys]
  cases a0.2 == 0 <;> rfl
def O_impl_NoKeys : Orac := nilO
theorem ok_impl_NoKeys : OracOk Try.prog sigs O_impl_NoKeys := nilO_ok
def A_impl_NoKeys : Ann := fun b => ⟨[], []⟩
theorem a_impl_NoKeys (n : Nat) (a0 : TKeys) : absF tab sigs O_impl_NoKeys A_impl_NoKeys Try.f15 [(.bool, .no)] n [.val (.pair (.slice 3 (.int .i64)) (.int .i64)) a0] = impl_NoKeys (fun r0 => some [⟨.bool, r0⟩])  a0 := by kernel_rfl
theorem said_impl_NoKeys (a0 : TKeys) : Said Try.prog sigs_15 15 [.val (.pair (.slice 3 (.int .i64)) (.int .i64)) a0] [⟨.bool, N.impl_NoKeys a0⟩] := said_len (T := tab) (A := A_impl_NoKeys) tabOk ok_impl_NoKeys tabOk.follows Try.func15 (by kernel_rfl) (by kernel_rfl) (fun hl => ⟨0, (a_impl_NoKeys 0 a0).trans (impl_NoKeys_ok (ρ := Ret) (fun r0 => some [⟨.bool, r0⟩]) a0 hl.1)⟩)
/-! impl.isMaybe -/
abbrev N.impl_isMaybe (k : TKeys) : Bool := isMaybe k
def impl_isMaybe {ρ : Type} (k : Bool → Option ρ) (a0 : TKeys) : Option ρ := (cond (N.impl_NoKeys a0) (k true) (k (N.impl_IsKeys a0)))
theorem impl_isMaybe_ok {ρ : Type} (k : Bool → Option ρ) (a0 : TKeys) (l_a0 : (lnL (fun _ => True) a0.1 ∧ True)) : impl_isMaybe k  a0 = k (N.impl_isMaybe a0) := by
  simp only [impl_isMaybe, N.impl_NoKeys, N.impl_IsKeys, N.impl_isMaybe, isMaybe]
  cases noKeys a0 <;> rfl
def OP_impl_isMaybe (f_impl_NoKeys : TKeys → Bool) (f_impl_IsKeys : TKeys → Bool) : Orac := (orcX 28 [.val (.pair (.slice 3 (.int .i64)) (.int .i64))] (fun d => true) (fun d => [⟨.bool, f_impl_IsKeys d.1⟩]) (orcX 15 [.val (.pair (.slice 3 (.int .i64)) (.int .i64))] (fun d => true) (fun d => [⟨.bool, f_impl_NoKeys d.1⟩]) nilO))
def O_impl_isMaybe : Orac := OP_impl_isMaybe N.impl_NoKeys N.impl_IsKeys
def impl_isMaybe_P {ρ : Type} (f_impl_NoKeys : TKeys → Bool) (f_impl_IsKeys : TKeys → Bool) (k : Bool → Option ρ) (a0 : TKeys) : Option ρ := (cond (f_impl_NoKeys a0) (k true) (k (f_impl_IsKeys a0)))
theorem ok_impl_isMaybe : OracOk Try.prog sigs O_impl_isMaybe := (orcX_ok rfl rfl (fun d g => said_impl_IsKeys d.1) (orcX_ok rfl rfl (fun d g => said_impl_NoKeys d.1) nilO_ok))
def A_impl_isMaybe : Ann := fun b => ⟨[], []⟩
theorem aP_impl_isMaybe (f_impl_NoKeys : TKeys → Bool) (f_impl_IsKeys : TKeys → Bool) (n : Nat) (a0 : TKeys) : absF tab sigs (OP_impl_isMaybe f_impl_NoKeys f_impl_IsKeys) A_impl_isMaybe Try.f29 [(.bool, .no)] n [.val (.pair (.slice 3 (.int .i64)) (.int .i64)) a0] = impl_isMaybe_P f_impl_NoKeys f_impl_IsKeys (fun r0 => some [⟨.bool, r0⟩])  a0 := by kernel_rfl
theorem a_impl_isMaybe (n : Nat) (a0 : TKeys) : absF tab sigs O_impl_isMaybe A_impl_isMaybe Try.f29 [(.bool, .no)] n [.val (.pair (.slice 3 (.int .i64)) (.int .i64)) a0] = impl_isMaybe (fun r0 => some [⟨.bool, r0⟩])  a0 := aP_impl_isMaybe N.impl_NoKeys N.impl_IsKeys n a0
theorem said_impl_isMaybe (a0 : TKeys) : Said Try.prog sigs_29 29 [.val (.pair (.slice 3 (.int .i64)) (.int .i64)) a0] [⟨.bool, N.impl_isMaybe a0⟩] := said_len (T := tab) (A := A_impl_isMaybe) tabOk ok_impl_isMaybe tabOk.follows Try.func29 (by kernel_rfl) (by kernel_rfl) (fun hl => ⟨0, (a_impl_isMaybe 0 a0).trans (impl_isMaybe_ok (ρ := Ret) (fun r0 => some [⟨.bool, r0⟩]) a0 hl.1)⟩)
/-! impl.isWait -/
abbrev N.impl_isWait (w : Int) (k : TKeys) : Bool := isWait w k
def impl_isWait {ρ : Type} (k : Bool → Option ρ) (a0 : Int) (a1 : TKeys) : Option ρ := (cond (N.impl_NoKeys a1) (k (a0 == (0 : Int))) (k (N.impl_InRange a0 (1 : Int) (500 : Int))))
theorem impl_isWait_ok {ρ : Type} (k : Bool → Option ρ) (a0 : Int) (a1 : TKeys) (l_a1 : (lnL (fun _ => True) a1.1 ∧ True)) : impl_isWait k  a0 a1 = k (N.impl_isWait a0 a1) := by
  simp only [impl_isWait, N.impl_NoKeys, N.impl_InRange, N.impl_isWait, isWait]
  cases noKeys a1 <;> rfl
def OP_impl_isWait (f_impl_NoKeys : TKeys → Bool) (f_impl_InRange : Int → Int → Int → Bool) : Orac := (orcX 26 [.val (.int .i64), .val (.int .i64), .val (.int .i64)] (fun d => true) (fun d => [⟨.bool, f_impl_InRange d.1 d.2.1 d.2.2.1⟩]) (orcX 15 [.val (.pair (.slice 3 (.int .i64)) (.int .i64))] (fun d => true) (fun d => [⟨.bool, f_impl_NoKeys d.1⟩]) nilO))
def O_impl_isWait : Orac := OP_impl_isWait N.impl_NoKeys N.impl_InRange
def impl_isWait_P {ρ : Type} (f_impl_NoKeys : TKeys → Bool) (f_impl_InRange : Int → Int → Int → Bool) (k : Bool → Option ρ) (a0 : Int) (a1 : TKeys) : Option ρ := (cond (f_impl_NoKeys a1) (k (a0 == (0 : Int))) (k (f_impl_InRange a0 (1 : Int) (500 : Int))))
theorem ok_impl_isWait : OracOk Try.prog sigs O_impl_isWait := (orcX_ok rfl rfl (fun d g => said_impl_InRange d.1 d.2.1 d.2.2.1) (orcX_ok rfl rfl (fun d g => said_impl_NoKeys d.1) nilO_ok))
def A_impl_isWait : Ann := fun b => ⟨[], []⟩
theorem aP_impl_isWait (f_impl_NoKeys : TKeys → Bool) (f_impl_InRange : Int → Int → Int → Bool) (n : Nat) (a0 : Int) (a1 : TKeys) : absF tab sigs (OP_impl_isWait f_impl_NoKeys f_impl_InRange) A_impl_isWait Try.f30 [(.bool, .no)] n [.val (.int .i64) a0, .val (.pair (.slice 3 (.int .i64)) (.int .i64)) a1] = impl_isWait_P f_impl_NoKeys f_impl_InRange (fun r0 => some [⟨.bool, r0⟩])  a0 a1 := by kernel_rfl
theorem a_impl_isWait (n : Nat) (a0 : Int) (a1 : TKeys) : absF tab sigs O_impl_isWait A_impl_isWait Try.f30 [(.bool, .no)] n [.val (.int .i64) a0, .val (.pair (.slice 3 (.int .i64)) (.int .i64)) a1] = impl_isWait (fun r0 => some [⟨.bool, r0⟩])  a0 a1 := aP_impl_isWait N.impl_NoKeys N.impl_InRange n a0 a1
theorem said_impl_isWait (a0 : Int) (a1 : TKeys) : Said Try.prog sigs_30 30 [.val (.int .i64) a0, .val (.pair (.slice 3 (.int .i64)) (.int .i64)) a1] [⟨.bool, N.impl_isWait a0 a1⟩] := said_len (T := tab) (A := A_impl_isWait) tabOk ok_impl_isWait tabOk.follows Try.func30 (by kernel_rfl) (by kernel_rfl) (fun hl => ⟨0, (a_impl_isWait 0 a0 a1).trans (impl_isWait_ok (ρ := Ret) (fun r0 => some [⟨.bool, r0⟩]) a0 a1 hl.2.1)⟩)
/-! impl.IsHead -/
abbrev N.impl_IsHead (h : THead) : Bool := isHead h
def impl_IsHead {ρ : Type} (k : Bool → Option ρ) (a0 : THead) : Option ρ := (cond (N.impl_isDigest a0.1) (cond (N.impl_isDigest a0.2.2.2.2.2.2.1) (cond (N.impl_isDigest a0.2.2.2.2.2.2.2.1) (cond (N.impl_InRange a0.2.1 (0 : Int) (200 : Int)) (cond (N.impl_InRange a0.2.2.1 (1 : Int) (3 : Int)) (cond (N.impl_isSpan a0) (cond (N.impl_InRange a0.2.2.2.2.2.1 (0 : Int) (12 : Int)) (cond (N.impl_IsKeys a0.2.2.2.2.2.2.2.2.1) (cond (N.impl_isMaybe a0.2.2.2.2.2.2.2.2.2.1) (cond (N.impl_isMaybe a0.2.2.2.2.2.2.2.2.2.2.2.1) (cond (N.impl_isWait a0.2.2.2.2.2.2.2.2.2.2.1 a0.2.2.2.2.2.2.2.2.2.1) (cond a0.2.2.2.2.2.2.2.2.2.2.2.2 (k (!(N.impl_NoKeys a0.2.2.2.2.2.2.2.2.2.2.2.1))) (k true)) (k false)) (k false)) (k false)) (k false)) (k false)) (k false)) (k false)) (k false)) (k false)) (k false)) (k false))
theorem impl_IsHead_ok {ρ : Type} (k : Bool → Option ρ) (a0 : THead) (l_a0 : (lenT TyHead a0)) : impl_IsHead k  a0 = k (N.impl_IsHead a0) := by
  simp only [impl_IsHead, N.impl_isDigest, N.impl_InRange, N.impl_isSpan, N.impl_IsKeys, N.impl_isMaybe, N.impl_isWait, N.impl_NoKeys, N.impl_IsHead, isHead]
  cases isDigest a0.1
  · rfl
  cases isDigest a0.2.2.2.2.2.2.1
  · rfl
  cases isDigest a0.2.2.2.2.2.2.2.1
  · rfl
  cases inR a0.2.1 0 200
  · rfl
  cases inR a0.2.2.1 1 3
  · rfl
  cases isSpan a0
  · rfl
  cases inR a0.2.2.2.2.2.1 0 12
  · rfl
  cases isKeys a0.2.2.2.2.2.2.2.2.1
  · rfl
  cases isMaybe a0.2.2.2.2.2.2.2.2.2.1
  · rfl
  cases isMaybe a0.2.2.2.2.2.2.2.2.2.2.2.1
  · rfl
  cases isWait a0.2.2.2.2.2.2.2.2.2.2.1 a0.2.2.2.2.2.2.2.2.2.1
  · rfl
  cases a0.2.2.2.2.2.2.2.2.2.2.2.2 <;> rfl
def OP_impl_IsHead (f_impl_isDigest : Int → Bool) (f_impl_InRange : Int → Int → Int → Bool) (f_impl_isSpan : THead → Bool) (f_impl_IsKeys : TKeys → Bool) (f_impl_isMaybe : TKeys → Bool) (f_impl_isWait : Int → TKeys → Bool) (f_impl_NoKeys : TKeys → Bool) : Orac := (orcX 15 [.val (.pair (.slice 3 (.int .i64)) (.int .i64))] (fun d => true) (fun d => [⟨.bool, f_impl_NoKeys d.1⟩]) (orcX 30 [.val (.int .i64), .val (.pair (.slice 3 (.int .i64)) (.int .i64))] (fun d => true) (fun d => [⟨.bool, f_impl_isWait d.1 d.2.1⟩]) (orcX 29 [.val (.pair (.slice 3 (.int .i64)) (.int .i64))] (fun d => true) (fun d => [⟨.bool, f_impl_isMaybe d.1⟩]) (orcX 28 [.val (.pair (.slice 3 (.int .i64)) (.int .i64))] (fun d => true) (fun d => [⟨.bool, f_impl_IsKeys d.1⟩]) (orcX 27 [.val TyHead] (fun d => true) (fun d => [⟨.bool, f_impl_isSpan d.1⟩]) (orcX 26 [.val (.int .i64), .val (.int .i64), .val (.int .i64)] (fun d => true) (fun d => [⟨.bool, f_impl_InRange d.1 d.2.1 d.2.2.1⟩]) (orcX 25 [.val (.int .i64)] (fun d => true) (fun d => [⟨.bool, f_impl_isDigest d.1⟩]) nilO)))))))
def O_impl_IsHead : Orac := OP_impl_IsHead N.impl_isDigest N.impl_InRange N.impl_isSpan N.impl_IsKeys N.impl_isMaybe N.impl_isWait N.impl_NoKeys
def impl_IsHead_P {ρ : Type} (f_impl_isDigest : Int → Bool) (f_impl_InRange : Int → Int → Int → Bool) (f_impl_isSpan : THead → Bool) (f_impl_IsKeys : TKeys → Bool) (f_impl_isMaybe : TKeys → Bool) (f_impl_isWait : Int → TKeys → Bool) (f_impl_NoKeys : TKeys → Bool) (k : Bool → Option ρ) (a0 : THead) : Option ρ := (cond (f_impl_isDigest a0.1) (cond (f_impl_isDigest a0.2.2.2.2.2.2.1) (cond (f_impl_isDigest a0.2.2.2.2.2.2.2.1) (cond (f_impl_InRange a0.2.1 (0 : Int) (200 : Int)) (cond (f_impl_InRange a0.2.2.1 (1 : Int) (3 : Int)) (cond (f_impl_isSpan a0) (cond (f_impl_InRange a0.2.2.2.2.2.1 (0 : Int) (12 : Int)) (cond (f_impl_IsKeys a0.2.2.2.2.2.2.2.2.1) (cond (f_impl_isMaybe a0.2.2.2.2.2.2.2.2.2.1) (cond (f_impl_isMaybe a0.2.2.2.2.2.2.2.2.2.2.2.1) (cond (f_impl_isWait a0.2.2.2.2.2.2.2.2.2.2.1 a0.2.2.2.2.2.2.2.2.2.1) (cond a0.2.2.2.2.2.2.2.2.2.2.2.2 (k (!(f_impl_NoKeys a0.2.2.2.2.2.2.2.2.2.2.2.1))) (k true)) (k false)) (k false)) (k false)) (k false)) (k false)) (k false)) (k false)) (k false)) (k false)) (k false)) (k false))
theorem ok_impl_IsHead : OracOk Try.prog sigs O_impl_IsHead := (orcX_ok rfl rfl (fun d g => said_impl_NoKeys d.1) (orcX_ok rfl rfl (fun d g => said_impl_isWait d.1 d.2.1) (orcX_ok rfl rfl (fun d g => said_impl_isMaybe d.1) (orcX_ok rfl rfl (fun d g => said_impl_IsKeys d.1) (orcX_ok rfl rfl (fun d g => said_impl_isSpan d.1) (orcX_ok rfl rfl (fun d g => said_impl_InRange d.1 d.2.1 d.2.2.1) (orcX_ok rfl rfl (fun d g => said_impl_isDigest d.1) nilO_ok)))))))
def A_impl_IsHead : Ann := fun b => ⟨[], []⟩
theorem aP_impl_IsHead (f_impl_isDigest : Int → Bool) (f_impl_InRange : Int → Int → Int → Bool) (f_impl_isSpan : THead → Bool) (f_impl_IsKeys : TKeys → Bool) (f_impl_isMaybe : TKeys → Bool) (f_impl_isWait : Int → TKeys → Bool) (f_impl_NoKeys : TKeys → Bool) (n : Nat) (a0 : THead) : absF tab sigs (OP_impl_IsHead f_impl_isDigest f_impl_InRange f_impl_isSpan f_impl_IsKeys f_impl_isMaybe f_impl_isWait f_impl_NoKeys) A_impl_IsHead Try.f8 [(.bool, .no)] n [.val TyHead a0] = impl_IsHead_P f_impl_isDigest f_impl_InRange f_impl_isSpan f_impl_IsKeys f_impl_isMaybe f_impl_isWait f_impl_NoKeys (fun r0 => some [⟨.bool, r0⟩])  a0 := by kernel_rfl
theorem a_impl_IsHead (n : Nat) (a0 : THead) : absF tab sigs O_impl_IsHead A_impl_IsHead Try.f8 [(.bool, .no)] n [.val TyHead a0] = impl_IsHead (fun r0 => some [⟨.bool, r0⟩])  a0 := aP_impl_IsHead N.impl_isDigest N.impl_InRange N.impl_isSpan N.impl_IsKeys N.impl_isMaybe N.impl_isWait N.impl_NoKeys n a0
theorem said_impl_IsHead (a0 : THead) : Said Try.prog sigs_8 8 [.val TyHead a0] [⟨.bool, N.impl_IsHead a0⟩] := said_len (T := tab) (A := A_impl_IsHead) tabOk ok_impl_IsHead tabOk.follows Try.func8 (by kernel_rfl) (by kernel_rfl) (fun hl => ⟨0, (a_impl_IsHead 0 a0).trans (impl_IsHead_ok (ρ := Ret) (fun r0 => some [⟨.bool, r0⟩]) a0 hl.1)⟩)
/-! spec.l1In -/
abbrev N.spec_l1In (n lo hi : Int) : Bool := inR n lo hi
def spec_l1In {ρ : Type} (k : Bool → Option ρ) (a0 : Int) (a1 : Int) (a2 : Int) : Option ρ := (cond (decide (a0 ≥ a1)) (k (decide (a0 ≤ a2))) (k false))
theorem spec_l1In_ok {ρ : Type} (k : Bool → Option ρ) (a0 : Int) (a1 : Int) (a2 : Int) : spec_l1In k  a0 a1 a2 = k (N.spec_l1In a0 a1 a2) := by
  simp only [spec_l1In, inR, ge_iff_le]
  cases decide (a1 ≤ a0) <;> rfl
def O_spec_l1In : Orac := nilO
theorem ok_spec_l1In : OracOk Try.prog sigs O_spec_l1In := nilO_ok
def A_spec_l1In : Ann := fun b => ⟨[], []⟩
theorem a_spec_l1In (n : Nat) (a0 : Int) (a1 : Int) (a2 : Int) : absF tab sigs O_spec_l1In A_spec_l1In Try.f31 [(.bool, .no)] n [.val (.int .i64) a0, .val (.int .i64) a1, .val (.int .i64) a2] = spec_l1In (fun r0 => some [⟨.bool, r0⟩])  a0 a1 a2 := by kernel_rfl
theorem said_spec_l1In (a0 : Int) (a1 : Int) (a2 : Int) : Said Try.prog sigs_31 31 [.val (.int .i64) a0, .val (.int .i64) a1, .val (.int .i64) a2] [⟨.bool, N.spec_l1In a0 a1 a2⟩] := said_len (T := tab) (A := A_spec_l1In) tabOk ok_spec_l1In tabOk.follows Try.func31 (by kernel_rfl) (by kernel_rfl) (fun hl => ⟨0, (a_spec_l1In 0 a0 a1 a2).trans (spec_l1In_ok (ρ := Ret) (fun r0 => some [⟨.bool, r0⟩]) a0 a1 a2)⟩)
/-! spec.IsKeys -/
abbrev N.spec_IsKeys (k : TKeys) : Bool := isKeys k
def spec_IsKeys_L0 {ρ : Type} (k : Bool → Option ρ) (L0 : Int → TKeys → Option ρ) (v0_0 : Int) (v0_1 : TKeys) : Option ρ := (cond (decide (v0_0 < (List.length v0_1.1 : Int))) (cond (inRange v0_0 (List.length v0_1.1)) (cond (!(N.spec_l1In (List.getD v0_1.1 (Int.toNat v0_0) (0 : Int)) (1 : Int) (99 : Int))) (k false) (cond (decide (v0_0 > (0 : Int))) (cond (inRange (IntKind.wrap .i64 (v0_0 - (1 : Int))) (List.length v0_1.1)) (cond (inRange v0_0 (List.length v0_1.1)) (cond (decide ((List.getD v0_1.1 (Int.toNat (IntKind.wrap .i64 (v0_0 - (1 : Int)))) (0 : Int)) ≥ (List.getD v0_1.1 (Int.toNat v0_0) (0 : Int)))) (k false) (L0 (IntKind.wrap .i64 (v0_0 + (1 : Int))) v0_1)) none) none) (L0 (IntKind.wrap .i64 (v0_0 + (1 : Int))) v0_1))) none) (cond (N.spec_l1In (List.length v0_1.1 : Int) (1 : Int) (4 : Int)) (k (N.spec_l1In v0_1.2 (1 : Int) (List.length v0_1.1 : Int))) (k false)))
def spec_IsKeys {ρ : Type} (k : Bool → Option ρ) (L0 : Int → TKeys → Option ρ) (a0 : TKeys) : Option ρ := (L0 (0 : Int) a0)
theorem spec_IsKeys_ok {ρ : Type} (k : Bool → Option ρ) (a0 : TKeys) (l_a0 : (lnL (fun _ => True) a0.1 ∧ True)) : ∃ n0, ∀ n, n0 ≤ n → ∀ (L0 : Nat → Int → TKeys → Option ρ) (h0 : ∀ ( m : Nat) (v0_0 : Int) (v0_1 : TKeys), L0 (m + 1) v0_0 v0_1 = spec_IsKeys_L0 k (L0 m) v0_0 v0_1), spec_IsKeys k (L0 n) a0 = k (N.spec_IsKeys a0) := by
  refine ⟨a0.1.length + 1, fun n hn L0 h0 => ?_⟩
  have hb : a0.1.length ≤ 9223372036854775807 := l_a0.1.1
  have hrun := raw_run0 (σ := Unit) (s := ()) (L := fun m i _ => L0 m i a0) (R := fun i _ c => spec_IsKeys_L0 k (fun i _ => c i ()) i a0) (fun m i s => h0 m i a0) a0.1.length (fun _ _ => True) (fun j _ => cond (keysFrom a0.1 (a0.1.length - j) j) (k (inR a0.1.length 1 4 && inR a0.2 1 a0.1.length)) (k false)) (fun j s c hj _ hc => ?_) (fun s c _ => ?_) hn trivial
  · refine hrun.trans ?_
    show _ = k (isKeys a0)
    rw [Nat.sub_zero, isKeys_eq]
    cases keysFrom a0.1 a0.1.length 0 <;> simp
  · obtain ⟨m, hm⟩ : ∃ m, a0.1.length - j = m + 1 := ⟨a0.1.length - j - 1, by omega⟩
    have hm2 : a0.1.length - (j + 1) = m := by omega
    have hc' := hc () trivial
    rw [hm2] at hc'
    rw [hm]
    unfold keysFrom
    by_cases h0j : j = 0
    · subst h0j
      simp only [spec_IsKeys_L0, lt_nat, inRange_nat, decide_eq_true hj, cond_true, Int.toNat_natCast, N.spec_l1In, wrap_succ (j := 0) (by unfold big; omega), hc', isKey]
      cases inR (a0.1.getD 0 0) 1 99 <;> simp
    · have e1 : decide ((j : Int) > 0) = true := by simp; omega
      have e2 : IntKind.wrap .i64 ((j : Int) - 1) = ((j - 1 : Nat) : Int) := by rw [wrap_id (by omega) (by omega)]; omega
      have e3 : j - 1 < a0.1.length := by omega
      have e4 : decide (a0.1.getD (j - 1) 0 ≥ a0.1.getD j 0) = !decide (a0.1.getD (j - 1) 0 < a0.1.getD j 0) := by rw [← decide_not]; simp
      simp only [spec_IsKeys_L0, lt_nat, inRange_nat, decide_eq_true hj, cond_true, Int.toNat_natCast, N.spec_l1In, e1, e2, e4, decide_eq_true e3, wrap_succ (j := j) (by unfold big; omega), hc', decide_eq_false h0j, isKey]
      cases inR (a0.1.getD j 0) 1 99 <;> cases decide (a0.1.getD (j - 1) 0 < a0.1.getD j 0) <;> simp
  · rw [Nat.sub_self]
    simp only [spec_IsKeys_L0, keysFrom, lt_nat, Nat.lt_irrefl, decide_false, cond_false, cond_true, N.spec_l1In]
    cases inR (a0.1.length : Int) 1 4 <;> rfl
def OP_spec_IsKeys (f_spec_l1In : Int → Int → Int → Bool) : Orac := (orcX 31 [.val (.int .i64), .val (.int .i64), .val (.int .i64)] (fun d => true) (fun d => [⟨.bool, f_spec_l1In d.1 d.2.1 d.2.2.1⟩]) nilO)
def O_spec_IsKeys : Orac := OP_spec_IsKeys N.spec_l1In
def spec_IsKeys_P_L0 {ρ : Type} (f_spec_l1In : Int → Int → Int → Bool) (k : Bool → Option ρ) (L0 : Int → TKeys → Option ρ) (v0_0 : Int) (v0_1 : TKeys) : Option ρ := (cond (decide (v0_0 < (List.length v0_1.1 : Int))) (cond (inRange v0_0 (List.length v0_1.1)) (cond (!(f_spec_l1In (List.getD v0_1.1 (Int.toNat v0_0) (0 : Int)) (1 : Int) (99 : Int))) (k false) (cond (decide (v0_0 > (0 : Int))) (cond (inRange (IntKind.wrap .i64 (v0_0 - (1 : Int))) (List.length v0_1.1)) (cond (inRange v0_0 (List.length v0_1.1)) (cond (decide ((List.getD v0_1.1 (Int.toNat (IntKind.wrap .i64 (v0_0 - (1 : Int)))) (0 : Int)) ≥ (List.getD v0_1.1 (Int.toNat v0_0) (0 : Int)))) (k false) (L0 (IntKind.wrap .i64 (v0_0 + (1 : Int))) v0_1)) none) none) (L0 (IntKind.wrap .i64 (v0_0 + (1 : Int))) v0_1))) none) (cond (f_spec_l1In (List.length v0_1.1 : Int) (1 : Int) (4 : Int)) (k (f_spec_l1In v0_1.2 (1 : Int) (List.length v0_1.1 : Int))) (k false)))
def spec_IsKeys_P {ρ : Type} (f_spec_l1In : Int → Int → Int → Bool) (k : Bool → Option ρ) (L0 : Int → TKeys → Option ρ) (a0 : TKeys) : Option ρ := (L0 (0 : Int) a0)
theorem ok_spec_IsKeys : OracOk Try.prog sigs O_spec_IsKeys := (orcX_ok rfl rfl (fun d g => said_spec_l1In d.1 d.2.1 d.2.2.1) nilO_ok)
def A_spec_IsKeys : Ann := fun b => cond (Nat.beq b 0) ⟨[(1, false), (3, false)], [(1, false)]⟩ (⟨[], []⟩)
def S_spec_IsKeys_0 (v0_0 : Int) (v0_1 : TKeys) : St := [(kT 1, some (.tv (.box 1 []))), (kT 3, some (.tv (.v (.int .i64) v0_0 .no))), (kB 1, some (.box (.pair (.slice 3 (.int .i64)) (.int .i64)) v0_1 .no))]
noncomputable def L_P_spec_IsKeys_0 (f_spec_l1In : Int → Int → Int → Bool) (n m : Nat) : St → Option Ret := loopOf tab sigs (OP_spec_IsKeys f_spec_l1In) A_spec_IsKeys Try.f32 [(.bool, .no)] n (fun _ => 0) 0 m
noncomputable def L_spec_IsKeys_0 (n m : Nat) : St → Option Ret := L_P_spec_IsKeys_0 N.spec_l1In n m
theorem bP_spec_IsKeys_0 (f_spec_l1In : Int → Int → Int → Bool) (n m : Nat) (v0_0 : Int) (v0_1 : TKeys) : L_P_spec_IsKeys_0 f_spec_l1In n (m + 1) (S_spec_IsKeys_0 v0_0 v0_1) = spec_IsKeys_P_L0 f_spec_l1In (fun r0 => some [⟨.bool, r0⟩]) (fun v0_0 v0_1 => L_P_spec_IsKeys_0 f_spec_l1In n m (S_spec_IsKeys_0 v0_0 v0_1)) v0_0 v0_1 := by kernel_rfl
theorem b_spec_IsKeys_0 (n m : Nat) (v0_0 : Int) (v0_1 : TKeys) : L_spec_IsKeys_0 n (m + 1) (S_spec_IsKeys_0 v0_0 v0_1) = spec_IsKeys_L0 (fun r0 => some [⟨.bool, r0⟩]) (fun v0_0 v0_1 => L_spec_IsKeys_0 n m (S_spec_IsKeys_0 v0_0 v0_1)) v0_0 v0_1 := bP_spec_IsKeys_0 N.spec_l1In n m v0_0 v0_1
theorem aP_spec_IsKeys (f_spec_l1In : Int → Int → Int → Bool) (n : Nat) (a0 : TKeys) : absF tab sigs (OP_spec_IsKeys f_spec_l1In) A_spec_IsKeys Try.f32 [(.bool, .no)] n [.val (.pair (.slice 3 (.int .i64)) (.int .i64)) a0] = spec_IsKeys_P f_spec_l1In (fun r0 => some [⟨.bool, r0⟩]) (fun v0_0 v0_1 => L_P_spec_IsKeys_0 f_spec_l1In n n (S_spec_IsKeys_0 v0_0 v0_1)) a0 := by kernel_rfl
theorem a_spec_IsKeys (n : Nat) (a0 : TKeys) : absF tab sigs O_spec_IsKeys A_spec_IsKeys Try.f32 [(.bool, .no)] n [.val (.pair (.slice 3 (.int .i64)) (.int .i64)) a0] = spec_IsKeys (fun r0 => some [⟨.bool, r0⟩]) (fun v0_0 v0_1 => L_spec_IsKeys_0 n n (S_spec_IsKeys_0 v0_0 v0_1)) a0 := aP_spec_IsKeys N.spec_l1In n a0
theorem said_spec_IsKeys (a0 : TKeys) : Said Try.prog sigs_32 32 [.val (.pair (.slice 3 (.int .i64)) (.int .i64)) a0] [⟨.bool, N.spec_IsKeys a0⟩] := said_len (T := tab) (A := A_spec_IsKeys) tabOk ok_spec_IsKeys tabOk.follows Try.func32 (by kernel_rfl) (by kernel_rfl) (fun hl => let ⟨n, hn⟩ := spec_IsKeys_ok (ρ := Ret) (fun r0 => some [⟨.bool, r0⟩]) a0 hl.1; ⟨n, (a_spec_IsKeys n a0).trans (hn n (Nat.le_refl n) (fun  m v0_0 v0_1 => L_spec_IsKeys_0 n  m (S_spec_IsKeys_0 v0_0 v0_1)) (fun  m v0_0 v0_1 => b_spec_IsKeys_0 n  m v0_0 v0_1))⟩)
/-! spec.NoKeys -/
abbrev N.spec_NoKeys (k : TKeys) : Bool := noKeys k
def spec_NoKeys {ρ : Type} (k : Bool → Option ρ) (a0 : TKeys) : Option ρ := (cond (a0.2 == (0 : Int)) (k ((List.length a0.1 : Int) == (0 : Int))) (k false))
theorem spec_NoKeys_ok {ρ : Type} (k : Bool → Option ρ) (a0 : TKeys) (l_a0 : (lnL (fun _ => True) a0.1 ∧ True)) : spec_NoKeys k  a0 = k (N.spec_NoKeys a0) := by
  simp only [spec_NoKeys, N.spec_NoKeys, noKeys]
  cases a0.2 == 0 <;> rfl
def O_spec_NoKeys : Orac := nilO
theorem ok_spec_NoKeys : OracOk Try.prog sigs O_spec_NoKeys := nilO_ok
def A_spec_NoKeys : Ann := fun b => ⟨[], []⟩
theorem a_spec_NoKeys (n : Nat) (a0 : TKeys) : absF tab sigs O_spec_NoKeys A_spec_NoKeys Try.f33 [(.bool, .no)] n [.val (.pair (.slice 3 (.int .i64)) (.int .i64)) a0] = spec_NoKeys (fun r0 => some [⟨.bool, r0⟩])  a0 := by kernel_rfl
theorem said_spec_NoKeys (a0 : TKeys) : Said Try.prog sigs_33 33 [.val (.pair (.slice 3 (.int .i64)) (.int .i64)) a0] [⟨.bool, N.spec_NoKeys a0⟩] := said_len (T := tab) (A := A_spec_NoKeys) tabOk ok_spec_NoKeys tabOk.follows Try.func33 (by kernel_rfl) (by kernel_rfl) (fun hl => ⟨0, (a_spec_NoKeys 0 a0).trans (spec_NoKeys_ok (ρ := Ret) (fun r0 => some [⟨.bool, r0⟩]) a0 hl.1)⟩)
/-! spec.IsHead -/
abbrev N.spec_IsHead (h : THead) : Bool := isHead h
def spec_IsHead {ρ : Type} (k : Bool → Option ρ) (a0 : THead) : Option ρ := (cond (!(N.spec_l1In a0.1 (0 : Int) (2147483646 : Int))) (k false) (cond (!(N.spec_l1In a0.2.2.2.2.2.2.1 (0 : Int) (2147483646 : Int))) (k false) (cond (!(N.spec_l1In a0.2.2.2.2.2.2.2.1 (0 : Int) (2147483646 : Int))) (k false) (cond (!(N.spec_l1In a0.2.1 (0 : Int) (200 : Int))) (k false) (cond (!(N.spec_l1In a0.2.2.1 (1 : Int) (3 : Int))) (k false) (cond (!(N.spec_l1In a0.2.2.2.1 (0 : Int) (100000 : Int))) (k false) (cond (!(N.spec_l1In a0.2.2.2.2.1 a0.2.2.2.1 (100000 : Int))) (k false) (cond (decide ((IntKind.wrap .i64 (a0.2.2.2.2.1 - a0.2.2.2.1)) > (200 : Int))) (k false) (cond (!(N.spec_l1In a0.2.2.2.2.2.1 (0 : Int) (12 : Int))) (k false) (cond (!(N.spec_IsKeys a0.2.2.2.2.2.2.2.2.1)) (k false) (cond (N.spec_NoKeys a0.2.2.2.2.2.2.2.2.2.1) (cond (a0.2.2.2.2.2.2.2.2.2.2.1 != (0 : Int)) (k false) (cond (N.spec_IsKeys a0.2.2.2.2.2.2.2.2.2.2.2.1) (k true) (cond (N.spec_NoKeys a0.2.2.2.2.2.2.2.2.2.2.2.1) (k (!a0.2.2.2.2.2.2.2.2.2.2.2.2)) (k false)))) (cond (!(N.spec_IsKeys a0.2.2.2.2.2.2.2.2.2.1)) (k false) (cond (!(N.spec_l1In a0.2.2.2.2.2.2.2.2.2.2.1 (1 : Int) (500 : Int))) (k false) (cond (N.spec_IsKeys a0.2.2.2.2.2.2.2.2.2.2.2.1) (k true) (cond (N.spec_NoKeys a0.2.2.2.2.2.2.2.2.2.2.2.1) (k (!a0.2.2.2.2.2.2.2.2.2.2.2.2)) (k false))))))))))))))))
theorem spec_IsHead_ok {ρ : Type} (k : Bool → Option ρ) (a0 : THead) (l_a0 : (lenT TyHead a0)) : spec_IsHead k  a0 = k (N.spec_IsHead a0) := by
  have e1 : ∀ x : Bool, (cond (decide (IntKind.wrap .i64 (a0.2.2.2.2.1 - a0.2.2.2.1) > 200)) (k false) (k x)) = k (decide (IntKind.wrap .i64 (a0.2.2.2.2.1 - a0.2.2.2.1) ≤ 200) && x) := by
    intro x
    by_cases h : IntKind.wrap .i64 (a0.2.2.2.2.1 - a0.2.2.2.1) ≤ 200
    · rw [decide_eq_true h, decide_eq_false (by omega)]; rfl
    · rw [decide_eq_false h, decide_eq_true (by omega)]; rfl
  have e2 : decide (IntKind.wrap .i64 (a0.2.2.2.2.1 - a0.2.2.2.1) > 200) = !decide (IntKind.wrap .i64 (a0.2.2.2.2.1 - a0.2.2.2.1) ≤ 200) := by rw [← decide_not]; simp only [decide_eq_decide]; omega
  have e3 : (inR a0.2.2.2.1 0 100000 && (inR a0.2.2.2.2.1 a0.2.2.2.1 100000 && decide (IntKind.wrap .i64 (a0.2.2.2.2.1 - a0.2.2.2.1) ≤ 200))) = isSpan a0 := by
    unfold inR isSpan
    by_cases h1 : 0 ≤ a0.2.2.2.1 <;> by_cases h2 : a0.2.2.2.1 ≤ a0.2.2.2.2.1 <;> by_cases h3 : a0.2.2.2.2.1 ≤ 100000 <;> simp [h1, h2, h3]
    omega
  simp only [spec_IsHead, N.spec_l1In, N.spec_IsKeys, N.spec_NoKeys, N.spec_IsHead, isHead, ← e3, e2, isDigest, isMaybe, isWait, bne]
  cases inR a0.1 0 2147483646
  · rfl
  cases inR a0.2.2.2.2.2.2.1 0 2147483646
  · rfl
  cases inR a0.2.2.2.2.2.2.2.1 0 2147483646
  · rfl
  cases inR a0.2.1 0 200
  · rfl
  cases inR a0.2.2.1 1 3
  · rfl
  cases inR a0.2.2.2.1 0 100000
  · rfl
  cases inR a0.2.2.2.2.1 a0.2.2.2.1 100000
  · rfl
  cases decide (IntKind.wrap .i64 (a0.2.2.2.2.1 - a0.2.2.2.1) ≤ 200)
  · rfl
  cases inR a0.2.2.2.2.2.1 0 12
  · rfl
  cases isKeys a0.2.2.2.2.2.2.2.2.1
  · rfl
  cases noKeys a0.2.2.2.2.2.2.2.2.2.1 <;> cases isKeys a0.2.2.2.2.2.2.2.2.2.1 <;> cases a0.2.2.2.2.2.2.2.2.2.2.1 == 0 <;> cases inR a0.2.2.2.2.2.2.2.2.2.2.1 1 500 <;> cases h1 : isKeys a0.2.2.2.2.2.2.2.2.2.2.2.1 <;> cases h2 : noKeys a0.2.2.2.2.2.2.2.2.2.2.2.1 <;> cases a0.2.2.2.2.2.2.2.2.2.2.2.2 <;> first | rfl | exact (keys_not_both h1 h2).elim
def OP_spec_IsHead (f_spec_l1In : Int → Int → Int → Bool) (f_spec_IsKeys : TKeys → Bool) (f_spec_NoKeys : TKeys → Bool) : Orac := (orcX 33 [.val (.pair (.slice 3 (.int .i64)) (.int .i64))] (fun d => true) (fun d => [⟨.bool, f_spec_NoKeys d.1⟩]) (orcX 32 [.val (.pair (.slice 3 (.int .i64)) (.int .i64))] (fun d => true) (fun d => [⟨.bool, f_spec_IsKeys d.1⟩]) (orcX 31 [.val (.int .i64), .val (.int .i64), .val (.int .i64)] (fun d => true) (fun d => [⟨.bool, f_spec_l1In d.1 d.2.1 d.2.2.1⟩]) nilO)))
def O_spec_IsHead : Orac := OP_spec_IsHead N.spec_l1In N.spec_IsKeys N.spec_NoKeys
def spec_IsHead_P {ρ : Type} (f_spec_l1In : Int → Int → Int → Bool) (f_spec_IsKeys : TKeys → Bool) (f_spec_NoKeys : TKeys → Bool) (k : Bool → Option ρ) (a0 : THead) : Option ρ := (cond (!(f_spec_l1In a0.1 (0 : Int) (2147483646 : Int))) (k false) (cond (!(f_spec_l1In a0.2.2.2.2.2.2.1 (0 : Int) (2147483646 : Int))) (k false) (cond (!(f_spec_l1In a0.2.2.2.2.2.2.2.1 (0 : Int) (2147483646 : Int))) (k false) (cond (!(f_spec_l1In a0.2.1 (0 : Int) (200 : Int))) (k false) (cond (!(f_spec_l1In a0.2.2.1 (1 : Int) (3 : Int))) (k false) (cond (!(f_spec_l1In a0.2.2.2.1 (0 : Int) (100000 : Int))) (k false) (cond (!(f_spec_l1In a0.2.2.2.2.1 a0.2.2.2.1 (100000 : Int))) (k false) (cond (decide ((IntKind.wrap .i64 (a0.2.2.2.2.1 - a0.2.2.2.1)) > (200 : Int))) (k false) (cond (!(f_spec_l1In a0.2.2.2.2.2.1 (0 : Int) (12 : Int))) (k false) (cond (!(f_spec_IsKeys a0.2.2.2.2.2.2.2.2.1)) (k false) (cond (f_spec_NoKeys a0.2.2.2.2.2.2.2.2.2.1) (cond (a0.2.2.2.2.2.2.2.2.2.2.1 != (0 : Int)) (k false) (cond (f_spec_IsKeys a0.2.2.2.2.2.2.2.2.2.2.2.1) (k true) (cond (f_spec_NoKeys a0.2.2.2.2.2.2.2.2.2.2.2.1) (k (!a0.2.2.2.2.2.2.2.2.2.2.2.2)) (k false)))) (cond (!(f_spec_IsKeys a0.2.2.2.2.2.2.2.2.2.1)) (k false) (cond (!(f_spec_l1In a0.2.2.2.2.2.2.2.2.2.2.1 (1 : Int) (500 : Int))) (k false) (cond (f_spec_IsKeys a0.2.2.2.2.2.2.2.2.2.2.2.1) (k true) (cond (f_spec_NoKeys a0.2.2.2.2.2.2.2.2.2.2.2.1) (k (!a0.2.2.2.2.2.2.2.2.2.2.2.2)) (k false))))))))))))))))
theorem ok_spec_IsHead : OracOk Try.prog sigs O_spec_IsHead := (orcX_ok rfl rfl (fun d g => said_spec_NoKeys d.1) (orcX_ok rfl rfl (fun d g => said_spec_IsKeys d.1) (orcX_ok rfl rfl (fun d g => said_spec_l1In d.1 d.2.1 d.2.2.1) nilO_ok)))
def A_spec_IsHead : Ann := fun b => ⟨[], []⟩
theorem aP_spec_IsHead (f_spec_l1In : Int → Int → Int → Bool) (f_spec_IsKeys : TKeys → Bool) (f_spec_NoKeys : TKeys → Bool) (n : Nat) (a0 : THead) : absF tab sigs (OP_spec_IsHead f_spec_l1In f_spec_IsKeys f_spec_NoKeys) A_spec_IsHead Try.f9 [(.bool, .no)] n [.val TyHead a0] = spec_IsHead_P f_spec_l1In f_spec_IsKeys f_spec_NoKeys (fun r0 => some [⟨.bool, r0⟩])  a0 := by kernel_rfl
theorem a_spec_IsHead (n : Nat) (a0 : THead) : absF tab sigs O_spec_IsHead A_spec_IsHead Try.f9 [(.bool, .no)] n [.val TyHead a0] = spec_IsHead (fun r0 => some [⟨.bool, r0⟩])  a0 := aP_spec_IsHead N.spec_l1In N.spec_IsKeys N.spec_NoKeys n a0
theorem said_spec_IsHead (a0 : THead) : Said Try.prog sigs_9 9 [.val TyHead a0] [⟨.bool, N.spec_IsHead a0⟩] := said_len (T := tab) (A := A_spec_IsHead) tabOk ok_spec_IsHead tabOk.follows Try.func9 (by kernel_rfl) (by kernel_rfl) (fun hl => ⟨0, (a_spec_IsHead 0 a0).trans (spec_IsHead_ok (ρ := Ret) (fun r0 => some [⟨.bool, r0⟩]) a0 hl.1)⟩)
/-! slices.Equal[[]int,int] -/
abbrev N.slices_Equal_int (a b : List Int) : Bool := eqInts a b
def slices_Equal_int_L0 {ρ : Type} (k : Bool → Option ρ) (L0 : (List Int) → (List Int) → Int → Int → Option ρ) (v0_0 : (List Int)) (v0_1 : (List Int)) (v0_2 : Int) (v0_3 : Int) : Option ρ := (cond (decide (v0_3 < v0_2)) (cond (inRange v0_3 (List.length v0_0)) (cond (inRange v0_3 (List.length v0_1)) (cond ((List.getD v0_0 (Int.toNat v0_3) (0 : Int)) != (List.getD v0_1 (Int.toNat v0_3) (0 : Int))) (k false) (L0 v0_0 v0_1 v0_2 (IntKind.wrap .i64 (v0_3 + (1 : Int))))) none) none) (k true))
def slices_Equal_int {ρ : Type} (k : Bool → Option ρ) (L0 : (List Int) → (List Int) → Int → Int → Option ρ) (a0 : (List Int)) (a1 : (List Int)) : Option ρ := (cond ((List.length a0 : Int) != (List.length a1 : Int)) (k false) (L0 a0 a1 (List.length a0 : Int) (0 : Int)))
theorem slices_Equal_int_ok {ρ : Type} (k : Bool → Option ρ) (a0 : (List Int)) (a1 : (List Int)) (l_a0 : lnL (fun _ => True) a0) (l_a1 : lnL (fun _ => True) a1) : ∃ n0, ∀ n, n0 ≤ n → ∀ (L0 : Nat → (List Int) → (List Int) → Int → Int → Option ρ) (h0 : ∀ ( m : Nat) (v0_0 : (List Int)) (v0_1 : (List Int)) (v0_2 : Int) (v0_3 : Int), L0 (m + 1) v0_0 v0_1 v0_2 v0_3 = slices_Equal_int_L0 k (L0 m) v0_0 v0_1 v0_2 v0_3), slices_Equal_int k (L0 n) a0 a1 = k (N.slices_Equal_int a0 a1) := by
  exact ⟨a0.length + 1, fun n hn L0 h0 => eq_all (p := fun x y => x == y) (d := 0) l_a0.1 (L := fun m i => L0 m a0 a1 (a0.length : Int) i) (fun m i => h0 m a0 a1 (a0.length : Int) i) hn⟩
def O_slices_Equal_int : Orac := nilO
theorem ok_slices_Equal_int : OracOk Try.prog sigs O_slices_Equal_int := nilO_ok
def A_slices_Equal_int : Ann := fun b => cond (Nat.beq b 0) ⟨[(0, false), (1, false), (12, false), (13, false)], []⟩ (⟨[], []⟩)
def S_slices_Equal_int_0 (v0_0 : (List Int)) (v0_1 : (List Int)) (v0_2 : Int) (v0_3 : Int) : St := [(kT 0, some (.tv (.v (.slice 3 (.int .i64)) v0_0 .no))), (kT 1, some (.tv (.v (.slice 3 (.int .i64)) v0_1 .no))), (kT 12, some (.tv (.v (.int .i64) v0_2 .no))), (kT 13, some (.tv (.v (.int .i64) v0_3 .no)))]
noncomputable def L_slices_Equal_int_0 (n m : Nat) : St → Option Ret := loopOf tab sigs O_slices_Equal_int A_slices_Equal_int Try.f35 [(.bool, .no)] n (fun _ => 0) 0 m
theorem b_slices_Equal_int_0 (n m : Nat) (v0_0 : (List Int)) (v0_1 : (List Int)) (v0_2 : Int) (v0_3 : Int) : L_slices_Equal_int_0 n (m + 1) (S_slices_Equal_int_0 v0_0 v0_1 v0_2 v0_3) = slices_Equal_int_L0 (fun r0 => some [⟨.bool, r0⟩]) (fun v0_0 v0_1 v0_2 v0_3 => L_slices_Equal_int_0 n m (S_slices_Equal_int_0 v0_0 v0_1 v0_2 v0_3)) v0_0 v0_1 v0_2 v0_3 := by kernel_rfl
theorem a_slices_Equal_int (n : Nat) (a0 : (List Int)) (a1 : (List Int)) : absF tab sigs O_slices_Equal_int A_slices_Equal_int Try.f35 [(.bool, .no)] n [.val (.slice 3 (.int .i64)) a0, .val (.slice 3 (.int .i64)) a1] = slices_Equal_int (fun r0 => some [⟨.bool, r0⟩]) (fun v0_0 v0_1 v0_2 v0_3 => L_slices_Equal_int_0 n n (S_slices_Equal_int_0 v0_0 v0_1 v0_2 v0_3)) a0 a1 := by kernel_rfl
theorem said_slices_Equal_int (a0 : (List Int)) (a1 : (List Int)) : Said Try.prog sigs_35 35 [.val (.slice 3 (.int .i64)) a0, .val (.slice 3 (.int .i64)) a1] [⟨.bool, N.slices_Equal_int a0 a1⟩] := said_len (T := tab) (A := A_slices_Equal_int) tabOk ok_slices_Equal_int tabOk.follows Try.func35 (by kernel_rfl) (by kernel_rfl) (fun hl => let ⟨n, hn⟩ := slices_Equal_int_ok (ρ := Ret) (fun r0 => some [⟨.bool, r0⟩]) a0 a1 hl.1 hl.2.1; ⟨n, (a_slices_Equal_int n a0 a1).trans (hn n (Nat.le_refl n) (fun  m v0_0 v0_1 v0_2 v0_3 => L_slices_Equal_int_0 n  m (S_slices_Equal_int_0 v0_0 v0_1 v0_2 v0_3)) (fun  m v0_0 v0_1 v0_2 v0_3 => b_slices_Equal_int_0 n  m v0_0 v0_1 v0_2 v0_3))⟩)
/-! impl.EqualKeys -/
abbrev N.impl_EqualKeys (a b : TKeys) : Bool := eqKeys a b
def impl_EqualKeys {ρ : Type} (k : Bool → Option ρ) (a0 : TKeys) (a1 : TKeys) : Option ρ := (cond (N.slices_Equal_int a0.1 a1.1) (k (a0.2 == a1.2)) (k false))
theorem impl_EqualKeys_ok {ρ : Type} (k : Bool → Option ρ) (a0 : TKeys) (a1 : TKeys) (l_a0 : (lnL (fun _ => True) a0.1 ∧ True)) (l_a1 : (lnL (fun _ => True) a1.1 ∧ True)) : impl_EqualKeys k  a0 a1 = k (N.impl_EqualKeys a0 a1) := by
  simp only [impl_EqualKeys, N.slices_Equal_int, N.impl_EqualKeys, eqKeys]
  cases eqInts a0.1 a1.1 <;> rfl
def OP_impl_EqualKeys (f_slices_Equal_int : (List Int) → (List Int) → Bool) : Orac := (orcX 35 [.val (.slice 3 (.int .i64)), .val (.slice 3 (.int .i64))] (fun d => true) (fun d => [⟨.bool, f_slices_Equal_int d.1 d.2.1⟩]) nilO)
def O_impl_EqualKeys : Orac := OP_impl_EqualKeys N.slices_Equal_int
def impl_EqualKeys_P {ρ : Type} (f_slices_Equal_int : (List Int) → (List Int) → Bool) (k : Bool → Option ρ) (a0 : TKeys) (a1 : TKeys) : Option ρ := (cond (f_slices_Equal_int a0.1 a1.1) (k (a0.2 == a1.2)) (k false))
theorem ok_impl_EqualKeys : OracOk Try.prog sigs O_impl_EqualKeys := (orcX_ok rfl rfl (fun d g => said_slices_Equal_int d.1 d.2.1) nilO_ok)
def A_impl_EqualKeys : Ann := fun b => ⟨[], []⟩
theorem aP_impl_EqualKeys (f_slices_Equal_int : (List Int) → (List Int) → Bool) (n : Nat) (a0 : TKeys) (a1 : TKeys) : absF tab sigs (OP_impl_EqualKeys f_slices_Equal_int) A_impl_EqualKeys Try.f34 [(.bool, .no)] n [.val (.pair (.slice 3 (.int .i64)) (.int .i64)) a0, .val (.pair (.slice 3 (.int .i64)) (.int .i64)) a1] = impl_EqualKeys_P f_slices_Equal_int (fun r0 => some [⟨.bool, r0⟩])  a0 a1 := by kernel_rfl
theorem a_impl_EqualKeys (n : Nat) (a0 : TKeys) (a1 : TKeys) : absF tab sigs O_impl_EqualKeys A_impl_EqualKeys Try.f34 [(.bool, .no)] n [.val (.pair (.slice 3 (.int .i64)) (.int .i64)) a0, .val (.pair (.slice 3 (.int .i64)) (.int .i64)) a1] = impl_EqualKeys (fun r0 => some [⟨.bool, r0⟩])  a0 a1 := aP_impl_EqualKeys N.slices_Equal_int n a0 a1
theorem said_impl_EqualKeys (a0 : TKeys) (a1 : TKeys) : Said Try.prog sigs_34 34 [.val (.pair (.slice 3 (.int .i64)) (.int .i64)) a0, .val (.pair (.slice 3 (.int .i64)) (.int .i64)) a1] [⟨.bool, N.impl_EqualKeys a0 a1⟩] := said_len (T := tab) (A := A_impl_EqualKeys) tabOk ok_impl_EqualKeys tabOk.follows Try.func34 (by kernel_rfl) (by kernel_rfl) (fun hl => ⟨0, (a_impl_EqualKeys 0 a0 a1).trans (impl_EqualKeys_ok (ρ := Ret) (fun r0 => some [⟨.bool, r0⟩]) a0 a1 hl.1 hl.2.1)⟩)
/-! impl.KeysInts -/
abbrev G.impl_KeysInts (k : TKeys) : Bool := decide (wK k ≤ 1048576)
abbrev N.impl_KeysInts (k : TKeys) : List Int := keysInts k
def impl_KeysInts {ρ : Type} (k : (List Int) → Option ρ) (a0 : TKeys) : Option ρ := (cond (fit (List.length [a0.2, (List.length a0.1 : Int)]) (List.length a0.1)) (k (List.append [a0.2, (List.length a0.1 : Int)] a0.1)) none)
theorem impl_KeysInts_ok {ρ : Type} (k : (List Int) → Option ρ) (a0 : TKeys) (l_a0 : (lnL (fun _ => True) a0.1 ∧ True)) (g : G.impl_KeysInts a0 = true) : impl_KeysInts k  a0 = k (N.impl_KeysInts a0) := by
  unfold G.impl_KeysInts at g
  have h : wK a0 ≤ 1048576 := of_decide_eq_true g
  have h1 : fit (List.length [a0.2, (List.length a0.1 : Int)]) (List.length a0.1) = true := fit_of (by
    unfold wK at h
    simp
    omega)
  show cond _ _ none = _
  rw [h1]
  rfl
def O_impl_KeysInts : Orac := nilO
theorem ok_impl_KeysInts : OracOk Try.prog sigs O_impl_KeysInts := nilO_ok
def A_impl_KeysInts : Ann := fun b => ⟨[], []⟩
theorem a_impl_KeysInts (n : Nat) (a0 : TKeys) : absF tab sigs O_impl_KeysInts A_impl_KeysInts Try.f40 [((.slice 3 (.int .i64)), (.own 0))] n [.val (.pair (.slice 3 (.int .i64)) (.int .i64)) a0] = impl_KeysInts (fun r0 => some [⟨(.slice 3 (.int .i64)), r0⟩])  a0 := by kernel_rfl
theorem said_impl_KeysInts (a0 : TKeys) (g : G.impl_KeysInts a0 = true) : Said Try.prog sigs_40 40 [.val (.pair (.slice 3 (.int .i64)) (.int .i64)) a0] [⟨(.slice 3 (.int .i64)), N.impl_KeysInts a0⟩] := said_len (T := tab) (A := A_impl_KeysInts) tabOk ok_impl_KeysInts tabOk.follows Try.func40 (by kernel_rfl) (by kernel_rfl) (fun hl => ⟨0, (a_impl_KeysInts 0 a0).trans (impl_KeysInts_ok (ρ := Ret) (fun r0 => some [⟨(.slice 3 (.int .i64)), r0⟩]) a0 hl.1 g)⟩)
/-! impl.bit -/
abbrev N.impl_bit (b : Bool) : Int := bitOf b
def impl_bit {ρ : Type} (k : Int → Option ρ) (a0 : Bool) : Option ρ := (cond a0 (k (1 : Int)) (k (0 : Int)))
theorem impl_bit_ok {ρ : Type} (k : Int → Option ρ) (a0 : Bool) : impl_bit k  a0 = k (N.impl_bit a0) := by
  simp only [impl_bit, N.impl_bit, bitOf]
  cases a0 <;> rfl
def O_impl_bit : Orac := nilO
theorem ok_impl_bit : OracOk Try.prog sigs O_impl_bit := nilO_ok
def A_impl_bit : Ann := fun b => ⟨[], []⟩
theorem a_impl_bit (n : Nat) (a0 : Bool) : absF tab sigs O_impl_bit A_impl_bit Try.f41 [((.int .i64), .no)] n [.val .bool a0] = impl_bit (fun r0 => some [⟨(.int .i64), r0⟩])  a0 := by kernel_rfl
theorem said_impl_bit (a0 : Bool) : Said Try.prog sigs_41 41 [.val .bool a0] [⟨(.int .i64), N.impl_bit a0⟩] := said_len (T := tab) (A := A_impl_bit) tabOk ok_impl_bit tabOk.follows Try.func41 (by kernel_rfl) (by kernel_rfl) (fun hl => ⟨0, (a_impl_bit 0 a0).trans (impl_bit_ok (ρ := Ret) (fun r0 => some [⟨(.int .i64), r0⟩]) a0)⟩)
/-! slices.Grow[[]int,int] -/
abbrev G.slices_Grow_int__nil (n : Int) : Bool := decide (0 ≤ n) && decide (n ≤ 4194304)
abbrev N.slices_Grow_int__nil (n : Int) : List Int := []
def slices_Grow_int__nil {ρ : Type} (k : (List Int) → Option ρ) (a1 : Int) : Option ρ := (cond (decide (a1 < (0 : Int))) none (cond (decide ((IntKind.wrap .i64 (a1 - (IntKind.wrap .i64 ((0 : Int) - (List.length ([] : (List Int)) : Int))))) > (0 : Int))) (cond (decide (0 ≤ (IntKind.wrap .i64 (a1 - (IntKind.wrap .i64 ((0 : Int) - (List.length ([] : (List Int)) : Int))))))) (cond (fit (List.length ([] : (List Int))) (Int.toNat (IntKind.wrap .i64 (a1 - (IntKind.wrap .i64 ((0 : Int) - (List.length ([] : (List Int)) : Int))))))) (cond (decide (0 ≤ (List.length ([] : (List Int)) : Int)) && decide ((List.length ([] : (List Int)) : Int) ≤ (List.length (List.append ([] : (List Int)) (List.replicate (Int.toNat (IntKind.wrap .i64 (a1 - (IntKind.wrap .i64 ((0 : Int) - (List.length ([] : (List Int)) : Int)))))) (0 : Int))) : Int))) (k (List.take (Int.toNat (List.length ([] : (List Int)) : Int)) (List.append ([] : (List Int)) (List.replicate (Int.toNat (IntKind.wrap .i64 (a1 - (IntKind.wrap .i64 ((0 : Int) - (List.length ([] : (List Int)) : Int)))))) (0 : Int))))) none) none) none) (k [])))
theorem slices_Grow_int__nil_ok {ρ : Type} (k : (List Int) → Option ρ) (a1 : Int) (g : G.slices_Grow_int__nil a1 = true) : slices_Grow_int__nil k  a1 = k (N.slices_Grow_int__nil a1) := by
  unfold G.slices_Grow_int__nil at g
  replace g := (Bool.and_eq_true _ _).mp g
  have g1 : 0 ≤ a1 := of_decide_eq_true g.1
  have g2 : a1 ≤ 4194304 := of_decide_eq_true g.2
  have e0 : IntKind.wrap .i64 ((0 : Int) - (List.length ([] : List Int) : Int)) = 0 := by decide
  have e1 : IntKind.wrap .i64 (a1 - 0) = a1 := by rw [wrap_id (by omega) (by omega)]; omega
  have e2 : decide (a1 < 0) = false := decide_eq_false (by omega)
  simp only [slices_Grow_int__nil, e0, e1, e2, cond_false]
  by_cases h : a1 > 0
  · have e3 : fit (List.length ([] : List Int)) (Int.toNat a1) = true := fit_of (by simp; omega)
    simp only [decide_eq_true h, decide_eq_true g1, e3, cond_true]
    have e4 : decide (0 ≤ max a1 0) = true := decide_eq_true (by omega)
    simp
    rw [e4]
    rfl
  · simp only [decide_eq_false h, cond_false]
def O_slices_Grow_int__nil : Orac := nilO
theorem ok_slices_Grow_int__nil : OracOk Try.prog sigs O_slices_Grow_int__nil := nilO_ok
def A_slices_Grow_int__nil : Ann := fun b => ⟨[], []⟩
theorem a_slices_Grow_int__nil (n : Nat) (a1 : Int) : absF tab sigs O_slices_Grow_int__nil A_slices_Grow_int__nil Try.f52 [((.slice 3 (.int .i64)), (.own 0))] n [.nil 3 (.int .i64), .val (.int .i64) a1] = slices_Grow_int__nil (fun r0 => some [⟨(.slice 3 (.int .i64)), r0⟩])  a1 := by kernel_rfl
theorem said_slices_Grow_int__nil (a1 : Int) (g : G.slices_Grow_int__nil a1 = true) : Said Try.prog sigs_52 52 [.nil 3 (.int .i64), .val (.int .i64) a1] [⟨(.slice 3 (.int .i64)), N.slices_Grow_int__nil a1⟩] := said_len (T := tab) (A := A_slices_Grow_int__nil) tabOk ok_slices_Grow_int__nil tabOk.follows Try.func52 (by kernel_rfl) (by kernel_rfl) (fun hl => ⟨0, (a_slices_Grow_int__nil 0 a1).trans (slices_Grow_int__nil_ok (ρ := Ret) (fun r0 => some [⟨(.slice 3 (.int .i64)), r0⟩]) a1 g)⟩)
/-! slices.Concat[[]int,int] -/
abbrev G.slices_Concat_int (l : List (List Int)) : Bool := decide (l.length ≤ 64) && decide (l.flatten.length ≤ 4194304)
abbrev N.slices_Concat_int (l : List (List Int)) : List Int := l.flatten
def slices_Concat_int_L2 {ρ : Type} (k : (List Int) → Option ρ) (L2 : (List (List Int)) → Int → Int → (List Int) → Option ρ) (v2_0 : (List (List Int))) (v2_1 : Int) (v2_2 : Int) (v2_3 : (List Int)) : Option ρ := (cond (decide (v2_2 < v2_1)) (cond (inRange v2_2 (List.length v2_0)) (cond (fit (List.length v2_3) (List.length (List.getD v2_0 (Int.toNat v2_2) []))) (L2 v2_0 v2_1 (IntKind.wrap .i64 (v2_2 + (1 : Int))) (List.append v2_3 (List.getD v2_0 (Int.toNat v2_2) []))) none) none) (k v2_3))
def slices_Concat_int_L0 {ρ : Type} (k : (List Int) → Option ρ) (L0 : (List (List Int)) → Int → (List (List Int)) → Int → Int → Option ρ) (L2 : (List (List Int)) → Int → Int → (List Int) → Option ρ) (v0_0 : (List (List Int))) (v0_1 : Int) (v0_2 : (List (List Int))) (v0_3 : Int) (v0_4 : Int) : Option ρ := (cond (decide (v0_4 < v0_3)) (cond (inRange v0_4 (List.length v0_2)) (cond (decide ((IntKind.wrap .i64 (v0_1 + (List.length (List.getD v0_2 (Int.toNat v0_4) []) : Int))) < (0 : Int))) none (L0 v0_0 (IntKind.wrap .i64 (v0_1 + (List.length (List.getD v0_2 (Int.toNat v0_4) []) : Int))) v0_2 v0_3 (IntKind.wrap .i64 (v0_4 + (1 : Int))))) none) (cond (G.slices_Grow_int__nil v0_1) (L2 v0_0 (List.length v0_0 : Int) (0 : Int) (N.slices_Grow_int__nil v0_1)) none))
def slices_Concat_int {ρ : Type} (k : (List Int) → Option ρ) (L0 : (List (List Int)) → Int → (List (List Int)) → Int → Int → Option ρ) (a0 : (List (List Int))) : Option ρ := (L0 a0 (0 : Int) a0 (List.length a0 : Int) (0 : Int))
theorem slices_Concat_int_ok {ρ : Type} (k : (List Int) → Option ρ) (a0 : (List (List Int))) (l_a0 : lnL (fun y => lnL (fun _ => True) y) a0) (g : G.slices_Concat_int a0 = true) : ∃ n0, ∀ n, n0 ≤ n → ∀ (L0 : Nat → (List (List Int)) → Int → (List (List Int)) → Int → Int → Option ρ) (L2 : Nat → (List (List Int)) → Int → Int → (List Int) → Option ρ) (h0 : ∀ ( m : Nat) (v0_0 : (List (List Int))) (v0_1 : Int) (v0_2 : (List (List Int))) (v0_3 : Int) (v0_4 : Int), L0 (m + 1) v0_0 v0_1 v0_2 v0_3 v0_4 = slices_Concat_int_L0 k (L0 m) (L2 n) v0_0 v0_1 v0_2 v0_3 v0_4) (h2 : ∀ ( m : Nat) (v2_0 : (List (List Int))) (v2_1 : Int) (v2_2 : Int) (v2_3 : (List Int)), L2 (m + 1) v2_0 v2_1 v2_2 v2_3 = slices_Concat_int_L2 k (L2 m) v2_0 v2_1 v2_2 v2_3), slices_Concat_int k (L0 n) a0 = k (N.slices_Concat_int a0) := by
  unfold G.slices_Concat_int at g
  replace g := (Bool.and_eq_true _ _).mp g
  have g1 : a0.length ≤ 64 := of_decide_eq_true g.1
  have g2 : a0.flatten.length ≤ 4194304 := of_decide_eq_true g.2
  refine ⟨a0.length + 1, fun n hn L0 L2 h0 h2 => ?_⟩
  have hrun := raw_run0 (σ := Int) (s := 0) (L := fun m i s => L0 m a0 s a0 (a0.length : Int) i) (R := fun i s c => slices_Concat_int_L0 k (fun _ s _ _ i => c i s) (L2 n) a0 s a0 (a0.length : Int) i) (fun m i s => h0 m a0 s a0 (a0.length : Int) i) a0.length (fun j s => s = ((a0.take j).flatten.length : Int)) (fun j s => L2 n a0 (a0.length : Int) 0 []) (fun j s c hj hI hc => ?_) (fun s c hI => ?_) hn (by simp)
  · refine hrun.trans ?_
    refine (raw_foldl (a := a0) [] (fun o x => o ++ x) (k := k) (s := []) (L := fun m i s => L2 m a0 (a0.length : Int) i s) (R := fun i s c => slices_Concat_int_L2 k (fun _ _ i s => c i s) a0 (a0.length : Int) i s) (fun m i s => h2 m a0 (a0.length : Int) i s) (fun j o => o.length = (a0.take j).flatten.length) (fun j s c hj hI => ?_) (fun j s hj hI => ?_) (fun s c => ?_) hn (by simp)).trans (by rw [foldl_flat]; rfl)
    · have hs := take_flat_succ a0 j hj
      have hle := take_flat_le a0 (j + 1)
      have e3 : fit s.length (a0.getD j []).length = true := fit_of (by omega)
      simp only [slices_Concat_int_L2, lt_nat, inRange_nat, decide_eq_true hj, cond_true, Int.toNat_natCast, e3, wrap_succ (j := j) (by unfold big; omega), List.append_eq]
    · rw [List.length_append, take_flat_succ a0 j hj, hI]
    · simp [slices_Concat_int_L2]
  · have hs := take_flat_succ a0 j hj
    have hle := take_flat_le a0 (j + 1)
    have e1 : IntKind.wrap .i64 (s + ((a0.getD j []).length : Int)) = ((a0.take (j + 1)).flatten.length : Int) := by rw [hI, wrap_id (by omega) (by omega)]; omega
    have e2 : decide ((((a0.take (j + 1)).flatten.length : Nat) : Int) < 0) = false := decide_eq_false (by omega)
    have := hc _ rfl
    simp only [slices_Concat_int_L0, lt_nat, inRange_nat, decide_eq_true hj, cond_true, cond_false, Int.toNat_natCast, e1, e2, wrap_succ (j := j) (by unfold big; omega), this]
  · rw [List.take_length] at hI
    have e1 : G.slices_Grow_int__nil s = true := by
      unfold G.slices_Grow_int__nil
      rw [decide_eq_true (by omega), decide_eq_true (by omega)]
      rfl
    simp only [slices_Concat_int_L0, lt_nat, Nat.lt_irrefl, decide_false, cond_false, e1, cond_true]
def OP_slices_Concat_int (f_slices_Grow_int__nil : Int → (List Int)) (g_slices_Grow_int__nil : Int → Bool) : Orac := (orcX 52 [.nil 3 (.int .i64), .val (.int .i64)] (fun d => g_slices_Grow_int__nil d.2.1) (fun d => [⟨(.slice 3 (.int .i64)), f_slices_Grow_int__nil d.2.1⟩]) nilO)
def O_slices_Concat_int : Orac := OP_slices_Concat_int N.slices_Grow_int__nil G.slices_Grow_int__nil
def slices_Concat_int_P_L2 {ρ : Type} (f_slices_Grow_int__nil : Int → (List Int)) (g_slices_Grow_int__nil : Int → Bool) (k : (List Int) → Option ρ) (L2 : (List (List Int)) → Int → Int → (List Int) → Option ρ) (v2_0 : (List (List Int))) (v2_1 : Int) (v2_2 : Int) (v2_3 : (List Int)) : Option ρ := (cond (decide (v2_2 < v2_1)) (cond (inRange v2_2 (List.length v2_0)) (cond (fit (List.length v2_3) (List.length (List.getD v2_0 (Int.toNat v2_2) []))) (L2 v2_0 v2_1 (IntKind.wrap .i64 (v2_2 + (1 : Int))) (List.append v2_3 (List.getD v2_0 (Int.toNat v2_2) []))) none) none) (k v2_3))
def slices_Concat_int_P_L0 {ρ : Type} (f_slices_Grow_int__nil : Int → (List Int)) (g_slices_Grow_int__nil : Int → Bool) (k : (List Int) → Option ρ) (L0 : (List (List Int)) → Int → (List (List Int)) → Int → Int → Option ρ) (L2 : (List (List Int)) → Int → Int → (List Int) → Option ρ) (v0_0 : (List (List Int))) (v0_1 : Int) (v0_2 : (List (List Int))) (v0_3 : Int) (v0_4 : Int) : Option ρ := (cond (decide (v0_4 < v0_3)) (cond (inRange v0_4 (List.length v0_2)) (cond (decide ((IntKind.wrap .i64 (v0_1 + (List.length (List.getD v0_2 (Int.toNat v0_4) []) : Int))) < (0 : Int))) none (L0 v0_0 (IntKind.wrap .i64 (v0_1 + (List.length (List.getD v0_2 (Int.toNat v0_4) []) : Int))) v0_2 v0_3 (IntKind.wrap .i64 (v0_4 + (1 : Int))))) none) (cond (g_slices_Grow_int__nil v0_1) (L2 v0_0 (List.length v0_0 : Int) (0 : Int) (f_slices_Grow_int__nil v0_1)) none))
def slices_Concat_int_P {ρ : Type} (f_slices_Grow_int__nil : Int → (List Int)) (g_slices_Grow_int__nil : Int → Bool) (k : (List Int) → Option ρ) (L0 : (List (List Int)) → Int → (List (List Int)) → Int → Int → Option ρ) (a0 : (List (List Int))) : Option ρ := (L0 a0 (0 : Int) a0 (List.length a0 : Int) (0 : Int))
theorem ok_slices_Concat_int : OracOk Try.prog sigs O_slices_Concat_int := (orcX_ok rfl rfl (fun d g => said_slices_Grow_int__nil d.2.1 g) nilO_ok)
def A_slices_Concat_int : Ann := fun b => cond (Nat.beq b 2) ⟨[(6, true), (25, false), (26, false), (27, false)], []⟩ (cond (Nat.beq b 0) ⟨[(0, false), (3, false), (9, false), (10, false), (11, false)], []⟩ (⟨[], []⟩))
def S_slices_Concat_int_0 (v0_0 : (List (List Int))) (v0_1 : Int) (v0_2 : (List (List Int))) (v0_3 : Int) (v0_4 : Int) : St := [(kT 0, some (.tv (.v (.slice 24 (.slice 3 (.int .i64))) v0_0 .no))), (kT 3, some (.tv (.v (.int .i64) v0_1 .no))), (kT 9, some (.tv (.v (.slice 24 (.slice 3 (.int .i64))) v0_2 .no))), (kT 10, some (.tv (.v (.int .i64) v0_3 .no))), (kT 11, some (.tv (.v (.int .i64) v0_4 .no)))]
noncomputable def L_P_slices_Concat_int_0 (f_slices_Grow_int__nil : Int → (List Int)) (g_slices_Grow_int__nil : Int → Bool) (n m : Nat) : St → Option Ret := loopOf tab sigs (OP_slices_Concat_int f_slices_Grow_int__nil g_slices_Grow_int__nil) A_slices_Concat_int Try.f39 [((.slice 3 (.int .i64)), (.own 0))] n (fun _ => 0) 0 m
noncomputable def L_slices_Concat_int_0 (n m : Nat) : St → Option Ret := L_P_slices_Concat_int_0 N.slices_Grow_int__nil G.slices_Grow_int__nil n m
def S_slices_Concat_int_2 (v2_0 : (List (List Int))) (v2_1 : Int) (v2_2 : Int) (v2_3 : (List Int)) : St := [(kT 6, some (.tv (.v (.slice 3 (.int .i64)) [] (.own 48)))), (kT 25, some (.tv (.v (.slice 24 (.slice 3 (.int .i64))) v2_0 .no))), (kT 26, some (.tv (.v (.int .i64) v2_1 .no))), (kT 27, some (.tv (.v (.int .i64) v2_2 .no))), (kR 48, some (.row 3 (.int .i64) v2_3))]
noncomputable def L_P_slices_Concat_int_2 (f_slices_Grow_int__nil : Int → (List Int)) (g_slices_Grow_int__nil : Int → Bool) (n m : Nat) : St → Option Ret := loopOf tab sigs (OP_slices_Concat_int f_slices_Grow_int__nil g_slices_Grow_int__nil) A_slices_Concat_int Try.f39 [((.slice 3 (.int .i64)), (.own 0))] n (fun _ => 0) 2 m
noncomputable def L_slices_Concat_int_2 (n m : Nat) : St → Option Ret := L_P_slices_Concat_int_2 N.slices_Grow_int__nil G.slices_Grow_int__nil n m
theorem bP_slices_Concat_int_0 (f_slices_Grow_int__nil : Int → (List Int)) (g_slices_Grow_int__nil : Int → Bool) (n m : Nat) (v0_0 : (List (List Int))) (v0_1 : Int) (v0_2 : (List (List Int))) (v0_3 : Int) (v0_4 : Int) : L_P_slices_Concat_int_0 f_slices_Grow_int__nil g_slices_Grow_int__nil n (m + 1) (S_slices_Concat_int_0 v0_0 v0_1 v0_2 v0_3 v0_4) = slices_Concat_int_P_L0 f_slices_Grow_int__nil g_slices_Grow_int__nil (fun r0 => some [⟨(.slice 3 (.int .i64)), r0⟩]) (fun v0_0 v0_1 v0_2 v0_3 v0_4 => L_P_slices_Concat_int_0 f_slices_Grow_int__nil g_slices_Grow_int__nil n m (S_slices_Concat_int_0 v0_0 v0_1 v0_2 v0_3 v0_4)) (fun v2_0 v2_1 v2_2 v2_3 => L_P_slices_Concat_int_2 f_slices_Grow_int__nil g_slices_Grow_int__nil n n (S_slices_Concat_int_2 v2_0 v2_1 v2_2 v2_3)) v0_0 v0_1 v0_2 v0_3 v0_4 := by kernel_rfl
theorem b_slices_Concat_int_0 (n m : Nat) (v0_0 : (List (List Int))) (v0_1 : Int) (v0_2 : (List (List Int))) (v0_3 : Int) (v0_4 : Int) : L_slices_Concat_int_0 n (m + 1) (S_slices_Concat_int_0 v0_0 v0_1 v0_2 v0_3 v0_4) = slices_Concat_int_L0 (fun r0 => some [⟨(.slice 3 (.int .i64)), r0⟩]) (fun v0_0 v0_1 v0_2 v0_3 v0_4 => L_slices_Concat_int_0 n m (S_slices_Concat_int_0 v0_0 v0_1 v0_2 v0_3 v0_4)) (fun v2_0 v2_1 v2_2 v2_3 => L_slices_Concat_int_2 n n (S_slices_Concat_int_2 v2_0 v2_1 v2_2 v2_3)) v0_0 v0_1 v0_2 v0_3 v0_4 := bP_slices_Concat_int_0 N.slices_Grow_int__nil G.slices_Grow_int__nil n m v0_0 v0_1 v0_2 v0_3 v0_4
theorem bP_slices_Concat_int_2 (f_slices_Grow_int__nil : Int → (List Int)) (g_slices_Grow_int__nil : Int → Bool) (n m : Nat) (v2_0 : (List (List Int))) (v2_1 : Int) (v2_2 : Int) (v2_3 : (List Int)) : L_P_slices_Concat_int_2 f_slices_Grow_int__nil g_slices_Grow_int__nil n (m + 1) (S_slices_Concat_int_2 v2_0 v2_1 v2_2 v2_3) = slices_Concat_int_P_L2 f_slices_Grow_int__nil g_slices_Grow_int__nil (fun r0 => some [⟨(.slice 3 (.int .i64)), r0⟩]) (fun v2_0 v2_1 v2_2 v2_3 => L_P_slices_Concat_int_2 f_slices_Grow_int__nil g_slices_Grow_int__nil n m (S_slices_Concat_int_2 v2_0 v2_1 v2_2 v2_3)) v2_0 v2_1 v2_2 v2_3 := by kernel_rfl
theorem b_slices_Concat_int_2 (n m : Nat) (v2_0 : (List (List Int))) (v2_1 : Int) (v2_2 : Int) (v2_3 : (List Int)) : L_slices_Concat_int_2 n (m + 1) (S_slices_Concat_int_2 v2_0 v2_1 v2_2 v2_3) = slices_Concat_int_L2 (fun r0 => some [⟨(.slice 3 (.int .i64)), r0⟩]) (fun v2_0 v2_1 v2_2 v2_3 => L_slices_Concat_int_2 n m (S_slices_Concat_int_2 v2_0 v2_1 v2_2 v2_3)) v2_0 v2_1 v2_2 v2_3 := bP_slices_Concat_int_2 N.slices_Grow_int__nil G.slices_Grow_int__nil n m v2_0 v2_1 v2_2 v2_3
theorem aP_slices_Concat_int (f_slices_Grow_int__nil : Int → (List Int)) (g_slices_Grow_int__nil : Int → Bool) (n : Nat) (a0 : (List (List Int))) : absF tab sigs (OP_slices_Concat_int f_slices_Grow_int__nil g_slices_Grow_int__nil) A_slices_Concat_int Try.f39 [((.slice 3 (.int .i64)), (.own 0))] n [.val (.slice 24 (.slice 3 (.int .i64))) a0] = slices_Concat_int_P f_slices_Grow_int__nil g_slices_Grow_int__nil (fun r0 => some [⟨(.slice 3 (.int .i64)), r0⟩]) (fun v0_0 v0_1 v0_2 v0_3 v0_4 => L_P_slices_Concat_int_0 f_slices_Grow_int__nil g_slices_Grow_int__nil n n (S_slices_Concat_int_0 v0_0 v0_1 v0_2 v0_3 v0_4)) a0 := by kernel_rfl
theorem a_slices_Concat_int (n : Nat) (a0 : (List (List Int))) : absF tab sigs O_slices_Concat_int A_slices_Concat_int Try.f39 [((.slice 3 (.int .i64)), (.own 0))] n [.val (.slice 24 (.slice 3 (.int .i64))) a0] = slices_Concat_int (fun r0 => some [⟨(.slice 3 (.int .i64)), r0⟩]) (fun v0_0 v0_1 v0_2 v0_3 v0_4 => L_slices_Concat_int_0 n n (S_slices_Concat_int_0 v0_0 v0_1 v0_2 v0_3 v0_4)) a0 := aP_slices_Concat_int N.slices_Grow_int__nil G.slices_Grow_int__nil n a0
theorem said_slices_Concat_int (a0 : (List (List Int))) (g : G.slices_Concat_int a0 = true) : Said Try.prog sigs_39 39 [.val (.slice 24 (.slice 3 (.int .i64))) a0] [⟨(.slice 3 (.int .i64)), N.slices_Concat_int a0⟩] := said_len (T := tab) (A := A_slices_Concat_int) tabOk ok_slices_Concat_int tabOk.follows Try.func39 (by kernel_rfl) (by kernel_rfl) (fun hl => let ⟨n, hn⟩ := slices_Concat_int_ok (ρ := Ret) (fun r0 => some [⟨(.slice 3 (.int .i64)), r0⟩]) a0 hl.1 g; ⟨n, (a_slices_Concat_int n a0).trans (hn n (Nat.le_refl n) (fun  m v0_0 v0_1 v0_2 v0_3 v0_4 => L_slices_Concat_int_0 n  m (S_slices_Concat_int_0 v0_0 v0_1 v0_2 v0_3 v0_4)) (fun  m v2_0 v2_1 v2_2 v2_3 => L_slices_Concat_int_2 n  m (S_slices_Concat_int_2 v2_0 v2_1 v2_2 v2_3)) (fun  m v0_0 v0_1 v0_2 v0_3 v0_4 => b_slices_Concat_int_0 n  m v0_0 v0_1 v0_2 v0_3 v0_4) (fun  m v2_0 v2_1 v2_2 v2_3 => b_slices_Concat_int_2 n  m v2_0 v2_1 v2_2 v2_3))⟩)
end Go.Proofs.Ytaghpijciobacaa.Ref
