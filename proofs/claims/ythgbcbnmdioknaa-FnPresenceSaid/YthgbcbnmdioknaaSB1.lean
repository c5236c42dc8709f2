/- Functions of the program: what each computes, and that it does so.
   Conditions: as each theorem states. -/
import Derived.Test.YthgbcbnmdioknaaSB0
set_option linter.unusedVariables false
set_option linter.unusedSimpArgs false
set_option maxRecDepth 100000
namespace Go.Proofs.Ythgbcbnmdioknaa.Ref
open Go.RowKit Go.Proofs.YthgbcbnmdioknaaW.PrintWords Go.Proofs.YthgbcbnmdioknaaW.PrintLast
abbrev G.spec_l1Int (c : TCur) (l : List Int) : Bool := okC c && decide (0 < l.length)
abbrev N.spec_l1Int (c : TCur) (l : List Int) : TCur × Int := intC c l
def spec_l1Int_P {ρ : Type} (f0 : TCur → Int → (TCur × Int)) (g0 : TCur → Int → Bool) (k : TCur → Int → Option ρ) (a0 : TCur) (a1 : (List Int)) : Option ρ := (cond (g0 a0 (List.length a1 : Int)) (cond (inRange (f0 a0 (List.length a1 : Int)).2 (List.length a1)) (k (f0 a0 (List.length a1 : Int)).1 (List.getD a1 (Int.toNat (f0 a0 (List.length a1 : Int)).2) (0 : Int))) none) none)
def spec_l1Int {ρ : Type} (k : TCur → Int → Option ρ) (a0 : TCur) (a1 : (List Int)) : Option ρ := spec_l1Int_P N.spec_l1Below G.spec_l1Below k a0 a1
theorem spec_l1Int_ok {ρ : Type} (k : TCur → Int → Option ρ) (a0 : TCur) (a1 : (List Int)) (l_a0 : (lnL (fun _ => True) a0.1 ∧ (True ∧ True))) (l_a1 : lnL (fun _ => True) a1) (g : G.spec_l1Int a0 a1 = true) : spec_l1Int k  a0 a1 = k (N.spec_l1Int a0 a1).1 (N.spec_l1Int a0 a1).2 := by
  unfold G.spec_l1Int at g
  obtain ⟨g1, g2⟩ := (Bool.and_eq_true _ _).mp g
  simp only [spec_l1Int, spec_l1Int_P, G.spec_l1Below, N.spec_l1Below, g1, pick_in a0 a1 (of_decide_eq_true g2), cond_true]
  rfl
def OP_spec_l1Int (f0 : TCur → Int → (TCur × Int)) (g0 : TCur → Int → Bool) : Orac := (orcX 42 [.lend (.pair (.slice 5 (.int .u8)) (.pair (.int .i64) (.int .i64))) .no, .val (.int .i64)] (fun d => g0 d.1 d.2.1) (fun d => [⟨(.pair (.slice 5 (.int .u8)) (.pair (.int .i64) (.int .i64))), (f0 d.1 d.2.1).1⟩, ⟨(.int .i64), (f0 d.1 d.2.1).2⟩]) nilO)
def O_spec_l1Int : Orac := OP_spec_l1Int N.spec_l1Below G.spec_l1Below
theorem ok_spec_l1Int : OracOk Try.prog sigs O_spec_l1Int := (orcB_ok rfl (fun d g => said_spec_l1Below d.1 d.2.1 g) nilO_ok)
def A_spec_l1Int : Ann := fun b => ⟨[], []⟩
theorem aP_spec_l1Int (f0 : TCur → Int → (TCur × Int)) (g0 : TCur → Int → Bool) (n : Nat) (a0 : TCur) (a1 : (List Int)) : absFB tab sigs (OP_spec_l1Int f0 g0) A_spec_l1Int Try.f49 [((.int .i64), .no)] n (.pair (.slice 5 (.int .u8)) (.pair (.int .i64) (.int .i64))) a0 [.val (.slice 3 (.int .i64)) a1] = spec_l1Int_P f0 g0 (fun r0 r1 => some [⟨(.pair (.slice 5 (.int .u8)) (.pair (.int .i64) (.int .i64))), r0⟩, ⟨(.int .i64), r1⟩])  a0 a1 := by kernel_rfl
theorem said_spec_l1Int (a0 : TCur) (a1 : (List Int)) (g : G.spec_l1Int a0 a1 = true) : SaidP Try.prog sigs_49 49 (.pair (.slice 5 (.int .u8)) (.pair (.int .i64) (.int .i64))) a0 [.val (.slice 3 (.int .i64)) a1] [⟨(.pair (.slice 5 (.int .u8)) (.pair (.int .i64) (.int .i64))), (N.spec_l1Int a0 a1).1⟩, ⟨(.int .i64), (N.spec_l1Int a0 a1).2⟩] := said_lenB (T := tab) (A := A_spec_l1Int) tabOk ok_spec_l1Int tabOk.follows Try.func49 (by kernel_rfl) (by kernel_rfl) (fun hl => ⟨0, (aP_spec_l1Int N.spec_l1Below G.spec_l1Below 0 a0 a1).trans (spec_l1Int_ok (ρ := Ret) (fun r0 r1 => some [⟨(.pair (.slice 5 (.int .u8)) (.pair (.int .i64) (.int .i64))), r0⟩, ⟨(.int .i64), r1⟩]) a0 a1 hl.1 hl.2.1 g)⟩)
abbrev G.spec_l1Once (c : TCur) (n : Int) : Bool := okC c
abbrev N.spec_l1Once (c : TCur) (n : Int) : TCur × Bool := onceC c n
def spec_l1Once {ρ : Type} (k : TCur → Bool → Option ρ) (a0 : TCur) (a1 : Int) : Option ρ := (cond (G.spec_l1Below a0 a1) (k (N.spec_l1Below a0 a1).1 ((N.spec_l1Below a0 a1).2 == (0 : Int))) none)
theorem spec_l1Once_ok {ρ : Type} (k : TCur → Bool → Option ρ) (a0 : TCur) (a1 : Int) (l_a0 : (lnL (fun _ => True) a0.1 ∧ (True ∧ True))) (g : G.spec_l1Once a0 a1 = true) : spec_l1Once k  a0 a1 = k (N.spec_l1Once a0 a1).1 (N.spec_l1Once a0 a1).2 := by
  unfold G.spec_l1Once at g
  simp only [spec_l1Once, G.spec_l1Below, N.spec_l1Below, g, cond_true]
  rfl
def OP_spec_l1Once (f0 : TCur → Int → (TCur × Int)) (g0 : TCur → Int → Bool) : Orac := (orcX 42 [.lend (.pair (.slice 5 (.int .u8)) (.pair (.int .i64) (.int .i64))) .no, .val (.int .i64)] (fun d => g0 d.1 d.2.1) (fun d => [⟨(.pair (.slice 5 (.int .u8)) (.pair (.int .i64) (.int .i64))), (f0 d.1 d.2.1).1⟩, ⟨(.int .i64), (f0 d.1 d.2.1).2⟩]) nilO)
def O_spec_l1Once : Orac := OP_spec_l1Once N.spec_l1Below G.spec_l1Below
def spec_l1Once_P {ρ : Type} (f0 : TCur → Int → (TCur × Int)) (g0 : TCur → Int → Bool) (k : TCur → Bool → Option ρ) (a0 : TCur) (a1 : Int) : Option ρ := (cond (g0 a0 a1) (k (f0 a0 a1).1 ((f0 a0 a1).2 == (0 : Int))) none)
theorem ok_spec_l1Once : OracOk Try.prog sigs O_spec_l1Once := (orcB_ok rfl (fun d g => said_spec_l1Below d.1 d.2.1 g) nilO_ok)
def A_spec_l1Once : Ann := fun b => ⟨[], []⟩
theorem aP_spec_l1Once (f0 : TCur → Int → (TCur × Int)) (g0 : TCur → Int → Bool) (n : Nat) (a0 : TCur) (a1 : Int) : absFB tab sigs (OP_spec_l1Once f0 g0) A_spec_l1Once Try.f57 [(.bool, .no)] n (.pair (.slice 5 (.int .u8)) (.pair (.int .i64) (.int .i64))) a0 [.val (.int .i64) a1] = spec_l1Once_P f0 g0 (fun r0 r1 => some [⟨(.pair (.slice 5 (.int .u8)) (.pair (.int .i64) (.int .i64))), r0⟩, ⟨.bool, r1⟩])  a0 a1 := by kernel_rfl
theorem said_spec_l1Once (a0 : TCur) (a1 : Int) (g : G.spec_l1Once a0 a1 = true) : SaidP Try.prog sigs_57 57 (.pair (.slice 5 (.int .u8)) (.pair (.int .i64) (.int .i64))) a0 [.val (.int .i64) a1] [⟨(.pair (.slice 5 (.int .u8)) (.pair (.int .i64) (.int .i64))), (N.spec_l1Once a0 a1).1⟩, ⟨.bool, (N.spec_l1Once a0 a1).2⟩] := said_lenB (T := tab) (A := A_spec_l1Once) tabOk ok_spec_l1Once tabOk.follows Try.func57 (by kernel_rfl) (by kernel_rfl) (fun hl => ⟨0, (aP_spec_l1Once N.spec_l1Below G.spec_l1Below 0 a0 a1).trans (spec_l1Once_ok (ρ := Ret) (fun r0 r1 => some [⟨(.pair (.slice 5 (.int .u8)) (.pair (.int .i64) (.int .i64))), r0⟩, ⟨.bool, r1⟩]) a0 a1 hl.1 g)⟩)
abbrev G.spec_l4Any (c : TCur) : Bool := okC c
abbrev N.spec_l4Any (c : TCur) : TCur × ByteArray := anyL c
def spec_l4Any_P {ρ : Type} (f0 : TCur → Int → (TCur × Bool)) (g0 : TCur → Int → Bool) (f1 : TCur → (List ByteArray) → (TCur × ByteArray)) (g1 : TCur → (List ByteArray) → Bool) (f2 : TCur → (TCur × ByteArray)) (g2 : TCur → Bool) (k : TCur → ByteArray → Option ρ) (a0 : TCur) : Option ρ := (cond (g0 a0 (4 : Int)) (cond (f0 a0 (4 : Int)).2 (cond (g1 (f0 a0 (4 : Int)).1 [(ByteArray.mk #[]), (ByteArray.mk #[45, 97]), (ByteArray.mk #[97, 45]), (ByteArray.mk #[65]), (ByteArray.mk #[97, 46, 98]), (ByteArray.mk #[97, 98, 99, 100, 101, 102, 103, 104]), (ByteArray.mk #[97, 98, 99, 100, 101, 102, 103, 104, 105]), (ByteArray.mk #[49, 108]), (ByteArray.mk #[108, 49]), (ByteArray.mk #[48])]) (k (f1 (f0 a0 (4 : Int)).1 [(ByteArray.mk #[]), (ByteArray.mk #[45, 97]), (ByteArray.mk #[97, 45]), (ByteArray.mk #[65]), (ByteArray.mk #[97, 46, 98]), (ByteArray.mk #[97, 98, 99, 100, 101, 102, 103, 104]), (ByteArray.mk #[97, 98, 99, 100, 101, 102, 103, 104, 105]), (ByteArray.mk #[49, 108]), (ByteArray.mk #[108, 49]), (ByteArray.mk #[48])]).1 (f1 (f0 a0 (4 : Int)).1 [(ByteArray.mk #[]), (ByteArray.mk #[45, 97]), (ByteArray.mk #[97, 45]), (ByteArray.mk #[65]), (ByteArray.mk #[97, 46, 98]), (ByteArray.mk #[97, 98, 99, 100, 101, 102, 103, 104]), (ByteArray.mk #[97, 98, 99, 100, 101, 102, 103, 104, 105]), (ByteArray.mk #[49, 108]), (ByteArray.mk #[108, 49]), (ByteArray.mk #[48])]).2) none) (cond (g2 (f0 a0 (4 : Int)).1) (k (f2 (f0 a0 (4 : Int)).1).1 (f2 (f0 a0 (4 : Int)).1).2) none)) none)
def spec_l4Any {ρ : Type} (k : TCur → ByteArray → Option ρ) (a0 : TCur) : Option ρ := spec_l4Any_P N.spec_l1Once G.spec_l1Once N.spec_l1Str G.spec_l1Str N.spec_l4Label G.spec_l4Label k a0
theorem spec_l4Any_ok {ρ : Type} (k : TCur → ByteArray → Option ρ) (a0 : TCur) (l_a0 : (lnL (fun _ => True) a0.1 ∧ (True ∧ True))) (g : G.spec_l4Any a0 = true) : spec_l4Any k  a0 = k (N.spec_l4Any a0).1 (N.spec_l4Any a0).2 := by
  unfold G.spec_l4Any at g
  show cond (okC a0) (cond (onceC a0 4).2 (cond (okC (onceC a0 4).1 && decide (0 < oddLabels.length)) (k (strC (onceC a0 4).1 oddLabels).1 (strC (onceC a0 4).1 oddLabels).2) none) (cond (okC (onceC a0 4).1) (k (labelC (onceC a0 4).1).1 (labelC (onceC a0 4).1).2) none)) none = k (anyL a0).1 (anyL a0).2
  rw [g, okC_once 4 g]
  unfold anyL
  cases (onceC a0 4).2 <;> rfl
def OP_spec_l4Any (f0 : TCur → Int → (TCur × Bool)) (g0 : TCur → Int → Bool) (f1 : TCur → (List ByteArray) → (TCur × ByteArray)) (g1 : TCur → (List ByteArray) → Bool) (f2 : TCur → (TCur × ByteArray)) (g2 : TCur → Bool) : Orac := (orcX 84 [.lend (.pair (.slice 5 (.int .u8)) (.pair (.int .i64) (.int .i64))) .no] (fun d => g2 d.1) (fun d => [⟨(.pair (.slice 5 (.int .u8)) (.pair (.int .i64) (.int .i64))), (f2 d.1).1⟩, ⟨.str, (f2 d.1).2⟩]) (orcX 83 [.lend (.pair (.slice 5 (.int .u8)) (.pair (.int .i64) (.int .i64))) .no, .val (.slice 9 .str)] (fun d => g1 d.1 d.2.1) (fun d => [⟨(.pair (.slice 5 (.int .u8)) (.pair (.int .i64) (.int .i64))), (f1 d.1 d.2.1).1⟩, ⟨.str, (f1 d.1 d.2.1).2⟩]) (orcX 57 [.lend (.pair (.slice 5 (.int .u8)) (.pair (.int .i64) (.int .i64))) .no, .val (.int .i64)] (fun d => g0 d.1 d.2.1) (fun d => [⟨(.pair (.slice 5 (.int .u8)) (.pair (.int .i64) (.int .i64))), (f0 d.1 d.2.1).1⟩, ⟨.bool, (f0 d.1 d.2.1).2⟩]) nilO)))
def O_spec_l4Any : Orac := OP_spec_l4Any N.spec_l1Once G.spec_l1Once N.spec_l1Str G.spec_l1Str N.spec_l4Label G.spec_l4Label
theorem ok_spec_l4Any : OracOk Try.prog sigs O_spec_l4Any := (orcB_ok rfl (fun d g => said_spec_l4Label d.1 g) (orcB_ok rfl (fun d g => said_spec_l1Str d.1 d.2.1 g) (orcB_ok rfl (fun d g => said_spec_l1Once d.1 d.2.1 g) nilO_ok)))
def A_spec_l4Any : Ann := fun b => ⟨[], []⟩
theorem aP_spec_l4Any (f0 : TCur → Int → (TCur × Bool)) (g0 : TCur → Int → Bool) (f1 : TCur → (List ByteArray) → (TCur × ByteArray)) (g1 : TCur → (List ByteArray) → Bool) (f2 : TCur → (TCur × ByteArray)) (g2 : TCur → Bool) (n : Nat) (a0 : TCur) : absFB tab sigs (OP_spec_l4Any f0 g0 f1 g1 f2 g2) A_spec_l4Any Try.f58 [(.str, .no)] n (.pair (.slice 5 (.int .u8)) (.pair (.int .i64) (.int .i64))) a0 [] = spec_l4Any_P f0 g0 f1 g1 f2 g2 (fun r0 r1 => some [⟨(.pair (.slice 5 (.int .u8)) (.pair (.int .i64) (.int .i64))), r0⟩, ⟨.str, r1⟩])  a0 := by kernel_rfl
theorem said_spec_l4Any (a0 : TCur) (g : G.spec_l4Any a0 = true) : SaidP Try.prog sigs_58 58 (.pair (.slice 5 (.int .u8)) (.pair (.int .i64) (.int .i64))) a0 [] [⟨(.pair (.slice 5 (.int .u8)) (.pair (.int .i64) (.int .i64))), (N.spec_l4Any a0).1⟩, ⟨.str, (N.spec_l4Any a0).2⟩] := said_lenB (T := tab) (A := A_spec_l4Any) tabOk ok_spec_l4Any tabOk.follows Try.func58 (by kernel_rfl) (by kernel_rfl) (fun hl => ⟨0, (aP_spec_l4Any N.spec_l1Once G.spec_l1Once N.spec_l1Str G.spec_l1Str N.spec_l4Label G.spec_l4Label 0 a0).trans (spec_l4Any_ok (ρ := Ret) (fun r0 r1 => some [⟨(.pair (.slice 5 (.int .u8)) (.pair (.int .i64) (.int .i64))), r0⟩, ⟨.str, r1⟩]) a0 hl.1 g)⟩)
abbrev G.spec_l5Any (c : TCur) : Bool := okC c
abbrev N.spec_l5Any (c : TCur) : TCur × List ByteArray := anyP c
def spec_l5Any_P {ρ : Type} (f0 : TCur → (TCur × (List ByteArray))) (g0 : TCur → Bool) (f1 : TCur → Int → (TCur × Int)) (g1 : TCur → Int → Bool) (f2 : TCur → (TCur × ByteArray)) (g2 : TCur → Bool) (k : TCur → (List ByteArray) → Option ρ) (a0 : TCur) : Option ρ := (cond (g0 a0) (cond (g1 (f0 a0).1 (8 : Int)) (cond ((f1 (f0 a0).1 (8 : Int)).2 == (0 : Int)) (cond (g2 (f1 (f0 a0).1 (8 : Int)).1) (cond (g2 (f2 (f1 (f0 a0).1 (8 : Int)).1).1) (cond (fit (List.length (f0 a0).2) (List.length [(f2 (f1 (f0 a0).1 (8 : Int)).1).2, (f2 (f2 (f1 (f0 a0).1 (8 : Int)).1).1).2])) (k (f2 (f2 (f1 (f0 a0).1 (8 : Int)).1).1).1 (List.append (f0 a0).2 [(f2 (f1 (f0 a0).1 (8 : Int)).1).2, (f2 (f2 (f1 (f0 a0).1 (8 : Int)).1).1).2])) none) none) none) (cond ((f1 (f0 a0).1 (8 : Int)).2 == (1 : Int)) (k (f1 (f0 a0).1 (8 : Int)).1 ([] : (List ByteArray))) (k (f1 (f0 a0).1 (8 : Int)).1 (f0 a0).2))) none) none)
def spec_l5Any {ρ : Type} (k : TCur → (List ByteArray) → Option ρ) (a0 : TCur) : Option ρ := spec_l5Any_P N.spec_l5Path G.spec_l5Path N.spec_l1Below G.spec_l1Below N.spec_l4Any G.spec_l4Any k a0
theorem spec_l5Any_ok {ρ : Type} (k : TCur → (List ByteArray) → Option ρ) (a0 : TCur) (l_a0 : (lnL (fun _ => True) a0.1 ∧ (True ∧ True))) (g : G.spec_l5Any a0 = true) : spec_l5Any k  a0 = k (N.spec_l5Any a0).1 (N.spec_l5Any a0).2 := by
  unfold G.spec_l5Any at g
  have h1 := okC_path g
  have h2 := okC_below 8 h1
  have hl : (pathC a0).2.length ≤ 30 := Nat.le_trans (wP_ge _) (path_le a0)
  have hf : ∀ x y : ByteArray, fit (List.length (pathC a0).2) (List.length [x, y]) = true := fun x y => fit_of (by simp; omega)
  simp only [spec_l5Any, spec_l5Any_P, G.spec_l5Path, N.spec_l5Path, G.spec_l1Below, N.spec_l1Below, G.spec_l4Any, N.spec_l4Any, g, h1, h2, okC_anyL h2, hf, cond_true]
  show _ = k (anyP a0).1 (anyP a0).2
  unfold anyP
  cases ((belowC (pathC a0).1 8).2 == 0) with
  | true => rfl
  | false => cases ((belowC (pathC a0).1 8).2 == 1) <;> rfl
def OP_spec_l5Any (f0 : TCur → (TCur × (List ByteArray))) (g0 : TCur → Bool) (f1 : TCur → Int → (TCur × Int)) (g1 : TCur → Int → Bool) (f2 : TCur → (TCur × ByteArray)) (g2 : TCur → Bool) : Orac := (orcX 58 [.lend (.pair (.slice 5 (.int .u8)) (.pair (.int .i64) (.int .i64))) .no] (fun d => g2 d.1) (fun d => [⟨(.pair (.slice 5 (.int .u8)) (.pair (.int .i64) (.int .i64))), (f2 d.1).1⟩, ⟨.str, (f2 d.1).2⟩]) (orcX 42 [.lend (.pair (.slice 5 (.int .u8)) (.pair (.int .i64) (.int .i64))) .no, .val (.int .i64)] (fun d => g1 d.1 d.2.1) (fun d => [⟨(.pair (.slice 5 (.int .u8)) (.pair (.int .i64) (.int .i64))), (f1 d.1 d.2.1).1⟩, ⟨(.int .i64), (f1 d.1 d.2.1).2⟩]) (orcX 112 [.lend (.pair (.slice 5 (.int .u8)) (.pair (.int .i64) (.int .i64))) .no] (fun d => g0 d.1) (fun d => [⟨(.pair (.slice 5 (.int .u8)) (.pair (.int .i64) (.int .i64))), (f0 d.1).1⟩, ⟨(.slice 9 .str), (f0 d.1).2⟩]) nilO)))
def O_spec_l5Any : Orac := OP_spec_l5Any N.spec_l5Path G.spec_l5Path N.spec_l1Below G.spec_l1Below N.spec_l4Any G.spec_l4Any
theorem ok_spec_l5Any : OracOk Try.prog sigs O_spec_l5Any := (orcB_ok rfl (fun d g => said_spec_l4Any d.1 g) (orcB_ok rfl (fun d g => said_spec_l1Below d.1 d.2.1 g) (orcB_ok rfl (fun d g => said_spec_l5Path d.1 g) nilO_ok)))
def A_spec_l5Any : Ann := fun b => ⟨[], []⟩
theorem aP_spec_l5Any (f0 : TCur → (TCur × (List ByteArray))) (g0 : TCur → Bool) (f1 : TCur → Int → (TCur × Int)) (g1 : TCur → Int → Bool) (f2 : TCur → (TCur × ByteArray)) (g2 : TCur → Bool) (n : Nat) (a0 : TCur) : absFB tab sigs (OP_spec_l5Any f0 g0 f1 g1 f2 g2) A_spec_l5Any Try.f94 [((.slice 9 .str), (.own 0))] n (.pair (.slice 5 (.int .u8)) (.pair (.int .i64) (.int .i64))) a0 [] = spec_l5Any_P f0 g0 f1 g1 f2 g2 (fun r0 r1 => some [⟨(.pair (.slice 5 (.int .u8)) (.pair (.int .i64) (.int .i64))), r0⟩, ⟨(.slice 9 .str), r1⟩])  a0 := by kernel_rfl
theorem said_spec_l5Any (a0 : TCur) (g : G.spec_l5Any a0 = true) : SaidP Try.prog sigs_94 94 (.pair (.slice 5 (.int .u8)) (.pair (.int .i64) (.int .i64))) a0 [] [⟨(.pair (.slice 5 (.int .u8)) (.pair (.int .i64) (.int .i64))), (N.spec_l5Any a0).1⟩, ⟨(.slice 9 .str), (N.spec_l5Any a0).2⟩] := said_lenB (T := tab) (A := A_spec_l5Any) tabOk ok_spec_l5Any tabOk.follows Try.func94 (by kernel_rfl) (by kernel_rfl) (fun hl => ⟨0, (aP_spec_l5Any N.spec_l5Path G.spec_l5Path N.spec_l1Below G.spec_l1Below N.spec_l4Any G.spec_l4Any 0 a0).trans (spec_l5Any_ok (ρ := Ret) (fun r0 r1 => some [⟨(.pair (.slice 5 (.int .u8)) (.pair (.int .i64) (.int .i64))), r0⟩, ⟨(.slice 9 .str), r1⟩]) a0 hl.1 g)⟩)
abbrev G.spec_l8Any (c : TCur) : Bool := okC c
abbrev N.spec_l8Any (c : TCur) : TCur × TEntry := anyE c
def spec_l8Any_P {ρ : Type} (f0 : TCur → (TCur × TEntry)) (g0 : TCur → Bool) (f1 : TCur → Int → (TCur × Int)) (g1 : TCur → Int → Bool) (f2 : TCur → (List Int) → (TCur × Int)) (g2 : TCur → (List Int) → Bool) (f3 : TCur → (TCur × ByteArray)) (g3 : TCur → Bool) (f4 : TCur → (TCur × (List ByteArray))) (g4 : TCur → Bool) (k : TCur → TEntry → Option ρ) (a0 : TCur) : Option ρ := (cond (g0 a0) (cond (g1 (f0 a0).1 (10 : Int)) (cond ((f1 (f0 a0).1 (10 : Int)).2 == (0 : Int)) (cond (g2 (f1 (f0 a0).1 (10 : Int)).1 [(0 : Int), (1 : Int), (2 : Int), (3 : Int), (4 : Int)]) (k (f2 (f1 (f0 a0).1 (10 : Int)).1 [(0 : Int), (1 : Int), (2 : Int), (3 : Int), (4 : Int)]).1 ((f0 a0).2.1, ((f2 (f1 (f0 a0).1 (10 : Int)).1 [(0 : Int), (1 : Int), (2 : Int), (3 : Int), (4 : Int)]).2, (f0 a0).2.2.2))) none) (cond ((f1 (f0 a0).1 (10 : Int)).2 == (1 : Int)) (cond (g2 (f1 (f0 a0).1 (10 : Int)).1 [(-1 : Int), (999999 : Int), (1000000 : Int), (2147483646 : Int), (2147483647 : Int)]) (k (f2 (f1 (f0 a0).1 (10 : Int)).1 [(-1 : Int), (999999 : Int), (1000000 : Int), (2147483646 : Int), (2147483647 : Int)]).1 ((f0 a0).2.1, ((f0 a0).2.2.1, ((f2 (f1 (f0 a0).1 (10 : Int)).1 [(-1 : Int), (999999 : Int), (1000000 : Int), (2147483646 : Int), (2147483647 : Int)]).2, (f0 a0).2.2.2.2)))) none) (cond ((f1 (f0 a0).1 (10 : Int)).2 == (2 : Int)) (cond (g3 (f1 (f0 a0).1 (10 : Int)).1) (k (f3 (f1 (f0 a0).1 (10 : Int)).1).1 ((f3 (f1 (f0 a0).1 (10 : Int)).1).2, (f0 a0).2.2)) none) (cond ((f1 (f0 a0).1 (10 : Int)).2 == (3 : Int)) (cond (g4 (f1 (f0 a0).1 (10 : Int)).1) (k (f4 (f1 (f0 a0).1 (10 : Int)).1).1 ((f0 a0).2.1, ((f0 a0).2.2.1, ((f0 a0).2.2.2.1, (f4 (f1 (f0 a0).1 (10 : Int)).1).2)))) none) (k (f1 (f0 a0).1 (10 : Int)).1 (f0 a0).2))))) none) none)
def spec_l8Any {ρ : Type} (k : TCur → TEntry → Option ρ) (a0 : TCur) : Option ρ := spec_l8Any_P N.spec_l8Entry G.spec_l8Entry N.spec_l1Below G.spec_l1Below N.spec_l1Int G.spec_l1Int N.spec_l4Any G.spec_l4Any N.spec_l5Any G.spec_l5Any k a0
theorem spec_l8Any_ok {ρ : Type} (k : TCur → TEntry → Option ρ) (a0 : TCur) (l_a0 : (lnL (fun _ => True) a0.1 ∧ (True ∧ True))) (g : G.spec_l8Any a0 = true) : spec_l8Any k  a0 = k (N.spec_l8Any a0).1 (N.spec_l8Any a0).2 := by
  unfold G.spec_l8Any at g
  have h1 := okC_entry g
  have h2 := okC_below 10 h1
  simp only [spec_l8Any, spec_l8Any_P, G.spec_l8Entry, N.spec_l8Entry, G.spec_l1Below, N.spec_l1Below, G.spec_l1Int, N.spec_l1Int, G.spec_l4Any, N.spec_l4Any, G.spec_l5Any, N.spec_l5Any, g, h1, h2, List.length_cons, List.length_nil, Nat.zero_add, Nat.reduceAdd, Nat.reduceLT, decide_true, Bool.and_true, cond_true]
  show _ = k (anyE a0).1 (anyE a0).2
  unfold anyE
  cases ((belowC (entryC a0).1 10).2 == 0) with
  | true => rfl
  | false =>
    cases ((belowC (entryC a0).1 10).2 == 1) with
    | true => rfl
    | false =>
      cases ((belowC (entryC a0).1 10).2 == 2) with
      | true => rfl
      | false => cases ((belowC (entryC a0).1 10).2 == 3) <;> rfl
def OP_spec_l8Any (f0 : TCur → (TCur × TEntry)) (g0 : TCur → Bool) (f1 : TCur → Int → (TCur × Int)) (g1 : TCur → Int → Bool) (f2 : TCur → (List Int) → (TCur × Int)) (g2 : TCur → (List Int) → Bool) (f3 : TCur → (TCur × ByteArray)) (g3 : TCur → Bool) (f4 : TCur → (TCur × (List ByteArray))) (g4 : TCur → Bool) : Orac := (orcX 94 [.lend (.pair (.slice 5 (.int .u8)) (.pair (.int .i64) (.int .i64))) .no] (fun d => g4 d.1) (fun d => [⟨(.pair (.slice 5 (.int .u8)) (.pair (.int .i64) (.int .i64))), (f4 d.1).1⟩, ⟨(.slice 9 .str), (f4 d.1).2⟩]) (orcX 58 [.lend (.pair (.slice 5 (.int .u8)) (.pair (.int .i64) (.int .i64))) .no] (fun d => g3 d.1) (fun d => [⟨(.pair (.slice 5 (.int .u8)) (.pair (.int .i64) (.int .i64))), (f3 d.1).1⟩, ⟨.str, (f3 d.1).2⟩]) (orcX 49 [.lend (.pair (.slice 5 (.int .u8)) (.pair (.int .i64) (.int .i64))) .no, .val (.slice 3 (.int .i64))] (fun d => g2 d.1 d.2.1) (fun d => [⟨(.pair (.slice 5 (.int .u8)) (.pair (.int .i64) (.int .i64))), (f2 d.1 d.2.1).1⟩, ⟨(.int .i64), (f2 d.1 d.2.1).2⟩]) (orcX 42 [.lend (.pair (.slice 5 (.int .u8)) (.pair (.int .i64) (.int .i64))) .no, .val (.int .i64)] (fun d => g1 d.1 d.2.1) (fun d => [⟨(.pair (.slice 5 (.int .u8)) (.pair (.int .i64) (.int .i64))), (f1 d.1 d.2.1).1⟩, ⟨(.int .i64), (f1 d.1 d.2.1).2⟩]) (orcX 93 [.lend (.pair (.slice 5 (.int .u8)) (.pair (.int .i64) (.int .i64))) .no] (fun d => g0 d.1) (fun d => [⟨(.pair (.slice 5 (.int .u8)) (.pair (.int .i64) (.int .i64))), (f0 d.1).1⟩, ⟨TyEntry, (f0 d.1).2⟩]) nilO)))))
def O_spec_l8Any : Orac := OP_spec_l8Any N.spec_l8Entry G.spec_l8Entry N.spec_l1Below G.spec_l1Below N.spec_l1Int G.spec_l1Int N.spec_l4Any G.spec_l4Any N.spec_l5Any G.spec_l5Any
theorem ok_spec_l8Any : OracOk Try.prog sigs O_spec_l8Any := (orcB_ok rfl (fun d g => said_spec_l5Any d.1 g) (orcB_ok rfl (fun d g => said_spec_l4Any d.1 g) (orcB_ok rfl (fun d g => said_spec_l1Int d.1 d.2.1 g) (orcB_ok rfl (fun d g => said_spec_l1Below d.1 d.2.1 g) (orcB_ok rfl (fun d g => said_spec_l8Entry d.1 g) nilO_ok)))))
def A_spec_l8Any : Ann := fun b => ⟨[], []⟩
theorem aP_spec_l8Any (f0 : TCur → (TCur × TEntry)) (g0 : TCur → Bool) (f1 : TCur → Int → (TCur × Int)) (g1 : TCur → Int → Bool) (f2 : TCur → (List Int) → (TCur × Int)) (g2 : TCur → (List Int) → Bool) (f3 : TCur → (TCur × ByteArray)) (g3 : TCur → Bool) (f4 : TCur → (TCur × (List ByteArray))) (g4 : TCur → Bool) (n : Nat) (a0 : TCur) : absFB tab sigs (OP_spec_l8Any f0 g0 f1 g1 f2 g2 f3 g3 f4 g4) A_spec_l8Any Try.f67 [(TyEntry, (.pair .no (.pair .no (.pair .no (.own 0)))))] n (.pair (.slice 5 (.int .u8)) (.pair (.int .i64) (.int .i64))) a0 [] = spec_l8Any_P f0 g0 f1 g1 f2 g2 f3 g3 f4 g4 (fun r0 r1 => some [⟨(.pair (.slice 5 (.int .u8)) (.pair (.int .i64) (.int .i64))), r0⟩, ⟨TyEntry, r1⟩])  a0 := by kernel_rfl
theorem said_spec_l8Any (a0 : TCur) (g : G.spec_l8Any a0 = true) : SaidP Try.prog sigs_67 67 (.pair (.slice 5 (.int .u8)) (.pair (.int .i64) (.int .i64))) a0 [] [⟨(.pair (.slice 5 (.int .u8)) (.pair (.int .i64) (.int .i64))), (N.spec_l8Any a0).1⟩, ⟨TyEntry, (N.spec_l8Any a0).2⟩] := said_lenB (T := tab) (A := A_spec_l8Any) tabOk ok_spec_l8Any tabOk.follows Try.func67 (by kernel_rfl) (by kernel_rfl) (fun hl => ⟨0, (aP_spec_l8Any N.spec_l8Entry G.spec_l8Entry N.spec_l1Below G.spec_l1Below N.spec_l1Int G.spec_l1Int N.spec_l4Any G.spec_l4Any N.spec_l5Any G.spec_l5Any 0 a0).trans (spec_l8Any_ok (ρ := Ret) (fun r0 r1 => some [⟨(.pair (.slice 5 (.int .u8)) (.pair (.int .i64) (.int .i64))), r0⟩, ⟨TyEntry, r1⟩]) a0 hl.1 g)⟩)
abbrev G.spec_l9Any (c : TCur) : Bool := okC c
abbrev N.spec_l9Any (c : TCur) : TCur × List TEntry := anyEs c
def spec_l9Any_P_L1 {ρ : Type} (f0 : TCur → (TCur × (List TEntry))) (g0 : TCur → Bool) (f1 : TCur → Int → (TCur × Int)) (g1 : TCur → Int → Bool) (f2 : TCur → (TCur × TEntry)) (g2 : TCur → Bool) (f3 : ByteArray → Int → TEntry) (f4 : (List TEntry) → TEntry → ((List TEntry) × Bool)) (g4 : (List TEntry) → TEntry → Bool) (k : TCur → (List TEntry) → Option ρ) (L1 : Int → Int → TCur → (List TEntry) → (List ByteArray) → Option ρ) (v1_0 : Int) (v1_1 : Int) (v1_2 : TCur) (v1_3 : (List TEntry)) (v1_4 : (List ByteArray)) : Option ρ := (cond (decide (v1_1 < v1_0)) (cond (inRange v1_1 (List.length v1_4)) (cond (inRange v1_1 (List.length v1_4)) (cond (g4 v1_3 (f3 (List.getD v1_4 (Int.toNat v1_1) ByteArray.empty) (1 : Int))) (L1 v1_0 (IntKind.wrap .i64 (v1_1 + (1 : Int))) v1_2 (f4 v1_3 (f3 (List.getD v1_4 (Int.toNat v1_1) ByteArray.empty) (1 : Int))).1 v1_4) none) none) none) (k v1_2 v1_3))
def spec_l9Any_P {ρ : Type} (f0 : TCur → (TCur × (List TEntry))) (g0 : TCur → Bool) (f1 : TCur → Int → (TCur × Int)) (g1 : TCur → Int → Bool) (f2 : TCur → (TCur × TEntry)) (g2 : TCur → Bool) (f3 : ByteArray → Int → TEntry) (f4 : (List TEntry) → TEntry → ((List TEntry) × Bool)) (g4 : (List TEntry) → TEntry → Bool) (k : TCur → (List TEntry) → Option ρ) (L1 : Int → Int → TCur → (List TEntry) → (List ByteArray) → Option ρ) (a0 : TCur) : Option ρ := (cond (g0 a0) (cond (g1 (f0 a0).1 (10 : Int)) (cond ((f1 (f0 a0).1 (10 : Int)).2 == (0 : Int)) (cond (g2 (f1 (f0 a0).1 (10 : Int)).1) (cond (fit (List.length (f0 a0).2) (List.length [(f2 (f1 (f0 a0).1 (10 : Int)).1).2])) (k (f2 (f1 (f0 a0).1 (10 : Int)).1).1 (List.append (f0 a0).2 [(f2 (f1 (f0 a0).1 (10 : Int)).1).2])) none) none) (cond ((f1 (f0 a0).1 (10 : Int)).2 == (1 : Int)) (L1 (List.length [(ByteArray.mk #[99]), (ByteArray.mk #[100]), (ByteArray.mk #[101]), (ByteArray.mk #[102]), (ByteArray.mk #[103]), (ByteArray.mk #[104]), (ByteArray.mk #[105]), (ByteArray.mk #[106]), (ByteArray.mk #[107]), (ByteArray.mk #[108]), (ByteArray.mk #[109]), (ByteArray.mk #[110])] : Int) (0 : Int) (f1 (f0 a0).1 (10 : Int)).1 (f0 a0).2 [(ByteArray.mk #[99]), (ByteArray.mk #[100]), (ByteArray.mk #[101]), (ByteArray.mk #[102]), (ByteArray.mk #[103]), (ByteArray.mk #[104]), (ByteArray.mk #[105]), (ByteArray.mk #[106]), (ByteArray.mk #[107]), (ByteArray.mk #[108]), (ByteArray.mk #[109]), (ByteArray.mk #[110])]) (k (f1 (f0 a0).1 (10 : Int)).1 (f0 a0).2))) none) none)
def spec_l9Any_L1 {ρ : Type} (k : TCur → (List TEntry) → Option ρ) (L1 : Int → Int → TCur → (List TEntry) → (List ByteArray) → Option ρ) (v1_0 : Int) (v1_1 : Int) (v1_2 : TCur) (v1_3 : (List TEntry)) (v1_4 : (List ByteArray)) : Option ρ := spec_l9Any_P_L1 N.spec_l9List G.spec_l9List N.spec_l1Below G.spec_l1Below N.spec_l8Any G.spec_l8Any N.spec_ValueEntry N.spec_PutEntry G.spec_PutEntry k L1 v1_0 v1_1 v1_2 v1_3 v1_4
def spec_l9Any {ρ : Type} (k : TCur → (List TEntry) → Option ρ) (L1 : Int → Int → TCur → (List TEntry) → (List ByteArray) → Option ρ) (a0 : TCur) : Option ρ := spec_l9Any_P N.spec_l9List G.spec_l9List N.spec_l1Below G.spec_l1Below N.spec_l8Any G.spec_l8Any N.spec_ValueEntry N.spec_PutEntry G.spec_PutEntry k L1 a0
theorem spec_l9Any_ok {ρ : Type} (k : TCur → (List TEntry) → Option ρ) (a0 : TCur) (l_a0 : (lnL (fun _ => True) a0.1 ∧ (True ∧ True))) (g : G.spec_l9Any a0 = true) : ∃ n0, ∀ n, n0 ≤ n → ∀ (L1 : Nat → Int → Int → TCur → (List TEntry) → (List ByteArray) → Option ρ) (h1 : ∀ ( m : Nat) (v1_0 : Int) (v1_1 : Int) (v1_2 : TCur) (v1_3 : (List TEntry)) (v1_4 : (List ByteArray)), L1 (m + 1) v1_0 v1_1 v1_2 v1_3 v1_4 = spec_l9Any_L1 k (L1 m) v1_0 v1_1 v1_2 v1_3 v1_4), spec_l9Any k (L1 n) a0 = k (N.spec_l9Any a0).1 (N.spec_l9Any a0).2 := by
  unfold G.spec_l9Any at g
  have h1 := okC_list g
  have h2 := okC_below 10 h1
  have hw := listC_w a0
  have hl := wEs_ge (listC a0).2
  refine ⟨20, fun n hn L1 h0 => ?_⟩
  have go : ∀ (T : Int) (ls : List ByteArray), T = 12 → ls = oneLabels → ∀ (r : List ByteArray) (n j : Nat) (c : TCur) (o : List TEntry), oneLabels.drop j = r → r.length < n → wEs o + 10 * r.length ≤ 1000 →
      L1 n T (j : Int) c o ls = k c (manyGo r o) := by
    intro T ls hT hls r
    subst hT
    subst hls
    induction r with
    | nil =>
      intro n j c o hr hn _
      obtain ⟨m, rfl⟩ : ∃ m, n = m + 1 := ⟨n - 1, by omega⟩
      have hj : 12 ≤ j := by
        have := congrArg List.length hr
        rw [List.length_drop] at this
        have h12 : oneLabels.length = 12 := rfl
        simp at this
        omega
      have e1 : decide ((j : Int) < 12) = false := decide_eq_false (by omega)
      rw [h0]
      simp only [spec_l9Any_L1, spec_l9Any_P_L1, e1, cond_false]
      rfl
    | cons s r ih =>
      intro n j c o hr hn ho
      obtain ⟨m, rfl⟩ : ∃ m, n = m + 1 := ⟨n - 1, by omega⟩
      have h12 : oneLabels.length = 12 := rfl
      have hj : j < oneLabels.length := by
        have := congrArg List.length hr
        rw [List.length_drop] at this
        simp at this
        omega
      have e1 : decide ((j : Int) < 12) = true := decide_eq_true (by omega)
      rw [drop_cons ByteArray.empty hj] at hr
      injection hr with hs hr
      have hsz := oneLabels_le _ (getD_mem (d := ByteArray.empty) hj)
      rw [hs] at hsz
      have hw := putE_w o (s, (1, (1, [])))
      have h3 : wE (s, ((1 : Int), ((1 : Int), ([] : List ByteArray)))) = s.size + 0 := rfl
      simp only [List.length_cons] at hn ho
      have g2 : decide (wEs o + wE (s, ((1 : Int), ((1 : Int), ([] : List ByteArray)))) + 1 ≤ 1048576) = true := decide_eq_true (by omega)
      rw [h0]
      simp only [spec_l9Any_L1, spec_l9Any_P_L1, e1, inRange_nat, decide_eq_true hj, Int.toNat_natCast, hs, N.spec_ValueEntry, G.spec_PutEntry, N.spec_PutEntry, g2, wrap_succ (j := j) (by unfold big; omega), cond_true]
      exact ih m (j + 1) c (putE o (s, (1, (1, [])))).1 hr (by omega) (by omega)
  have f1 : fit (List.length (listC a0).2) 1 = true := fit_of (by omega)
  simp only [spec_l9Any, spec_l9Any_P, G.spec_l9List, N.spec_l9List, G.spec_l1Below, N.spec_l1Below, G.spec_l8Any, N.spec_l8Any, g, h1, h2, f1, List.length_cons, List.length_nil, Nat.zero_add, Nat.reduceAdd, cond_true]
  show _ = k (anyEsP (listC a0)).1 (anyEsP (listC a0)).2
  unfold anyEsP
  cases ((belowC (listC a0).1 10).2 == 0) with
  | true =>
    simp only [cond_true]
    rfl
  | false =>
    cases ((belowC (listC a0).1 10).2 == 1) with
    | true =>
      simp only [cond_true, cond_false]
      exact go _ _ rfl rfl oneLabels n 0 _ _ rfl (by have h12 : oneLabels.length = 12 := rfl; omega) (by have h12 : oneLabels.length = 12 := rfl; omega)
    | false => simp only [cond_false]
def OP_spec_l9Any (f0 : TCur → (TCur × (List TEntry))) (g0 : TCur → Bool) (f1 : TCur → Int → (TCur × Int)) (g1 : TCur → Int → Bool) (f2 : TCur → (TCur × TEntry)) (g2 : TCur → Bool) (f3 : ByteArray → Int → TEntry) (f4 : (List TEntry) → TEntry → ((List TEntry) × Bool)) (g4 : (List TEntry) → TEntry → Bool) : Orac := (orcX 81 [.val (.slice 48 TyEntry), .val TyEntry] (fun d => g4 d.1 d.2.1) (fun d => [⟨(.slice 48 TyEntry), (f4 d.1 d.2.1).1⟩, ⟨.bool, (f4 d.1 d.2.1).2⟩]) (orcX 82 [.val .str, .val (.int .i64)] (fun d => true) (fun d => [⟨TyEntry, f3 d.1 d.2.1⟩]) (orcX 67 [.lend (.pair (.slice 5 (.int .u8)) (.pair (.int .i64) (.int .i64))) .no] (fun d => g2 d.1) (fun d => [⟨(.pair (.slice 5 (.int .u8)) (.pair (.int .i64) (.int .i64))), (f2 d.1).1⟩, ⟨TyEntry, (f2 d.1).2⟩]) (orcX 42 [.lend (.pair (.slice 5 (.int .u8)) (.pair (.int .i64) (.int .i64))) .no, .val (.int .i64)] (fun d => g1 d.1 d.2.1) (fun d => [⟨(.pair (.slice 5 (.int .u8)) (.pair (.int .i64) (.int .i64))), (f1 d.1 d.2.1).1⟩, ⟨(.int .i64), (f1 d.1 d.2.1).2⟩]) (orcX 66 [.lend (.pair (.slice 5 (.int .u8)) (.pair (.int .i64) (.int .i64))) .no] (fun d => g0 d.1) (fun d => [⟨(.pair (.slice 5 (.int .u8)) (.pair (.int .i64) (.int .i64))), (f0 d.1).1⟩, ⟨(.slice 48 TyEntry), (f0 d.1).2⟩]) nilO)))))
def O_spec_l9Any : Orac := OP_spec_l9Any N.spec_l9List G.spec_l9List N.spec_l1Below G.spec_l1Below N.spec_l8Any G.spec_l8Any N.spec_ValueEntry N.spec_PutEntry G.spec_PutEntry
theorem ok_spec_l9Any : OracOk Try.prog sigs O_spec_l9Any := (orcX_ok rfl rfl (fun d g => said_spec_PutEntry d.1 d.2.1 g) (orcX_ok rfl rfl (fun d g => said_spec_ValueEntry d.1 d.2.1) (orcB_ok rfl (fun d g => said_spec_l8Any d.1 g) (orcB_ok rfl (fun d g => said_spec_l1Below d.1 d.2.1 g) (orcB_ok rfl (fun d g => said_spec_l9List d.1 g) nilO_ok)))))
def A_spec_l9Any : Ann := fun b => cond (Nat.beq b 1) ⟨[(0, false), (3, true), (19, true), (20, false), (21, false)], [(0, false)]⟩ (⟨[], []⟩)
def S_spec_l9Any_1 (v1_0 : Int) (v1_1 : Int) (v1_2 : TCur) (v1_3 : (List TEntry)) (v1_4 : (List ByteArray)) : St := [(kT 0, some (.tv (.box 0 []))), (kT 3, some (.tv (.v (.slice 48 TyEntry) [] (.own 24)))), (kT 19, some (.tv (.v (.slice 9 .str) [] (.own 152)))), (kT 20, some (.tv (.v (.int .i64) v1_0 .no))), (kT 21, some (.tv (.v (.int .i64) v1_1 .no))), (kB 0, some (.box (.pair (.slice 5 (.int .u8)) (.pair (.int .i64) (.int .i64))) v1_2 .no)), (kR 24, some (.row 48 TyEntry v1_3)), (kR 152, some (.row 9 .str v1_4))]
noncomputable def L_P_spec_l9Any_1 (f0 : TCur → (TCur × (List TEntry))) (g0 : TCur → Bool) (f1 : TCur → Int → (TCur × Int)) (g1 : TCur → Int → Bool) (f2 : TCur → (TCur × TEntry)) (g2 : TCur → Bool) (f3 : ByteArray → Int → TEntry) (f4 : (List TEntry) → TEntry → ((List TEntry) × Bool)) (g4 : (List TEntry) → TEntry → Bool) (n m : Nat) : St → Option Ret := loopOfB tab sigs (OP_spec_l9Any f0 g0 f1 g1 f2 g2 f3 f4 g4) A_spec_l9Any Try.f56 [((.slice 48 TyEntry), (.own 0))] (.pair (.slice 5 (.int .u8)) (.pair (.int .i64) (.int .i64))) n (fun _ => 0) 1 m
theorem bP_spec_l9Any_1 (f0 : TCur → (TCur × (List TEntry))) (g0 : TCur → Bool) (f1 : TCur → Int → (TCur × Int)) (g1 : TCur → Int → Bool) (f2 : TCur → (TCur × TEntry)) (g2 : TCur → Bool) (f3 : ByteArray → Int → TEntry) (f4 : (List TEntry) → TEntry → ((List TEntry) × Bool)) (g4 : (List TEntry) → TEntry → Bool) (n m : Nat) (v1_0 : Int) (v1_1 : Int) (v1_2 : TCur) (v1_3 : (List TEntry)) (v1_4 : (List ByteArray)) : L_P_spec_l9Any_1 f0 g0 f1 g1 f2 g2 f3 f4 g4 n (m + 1) (S_spec_l9Any_1 v1_0 v1_1 v1_2 v1_3 v1_4) = spec_l9Any_P_L1 f0 g0 f1 g1 f2 g2 f3 f4 g4 (fun r0 r1 => some [⟨(.pair (.slice 5 (.int .u8)) (.pair (.int .i64) (.int .i64))), r0⟩, ⟨(.slice 48 TyEntry), r1⟩]) (fun v1_0 v1_1 v1_2 v1_3 v1_4 => L_P_spec_l9Any_1 f0 g0 f1 g1 f2 g2 f3 f4 g4 n m (S_spec_l9Any_1 v1_0 v1_1 v1_2 v1_3 v1_4)) v1_0 v1_1 v1_2 v1_3 v1_4 := by kernel_rfl
theorem aP_spec_l9Any (f0 : TCur → (TCur × (List TEntry))) (g0 : TCur → Bool) (f1 : TCur → Int → (TCur × Int)) (g1 : TCur → Int → Bool) (f2 : TCur → (TCur × TEntry)) (g2 : TCur → Bool) (f3 : ByteArray → Int → TEntry) (f4 : (List TEntry) → TEntry → ((List TEntry) × Bool)) (g4 : (List TEntry) → TEntry → Bool) (n : Nat) (a0 : TCur) : absFB tab sigs (OP_spec_l9Any f0 g0 f1 g1 f2 g2 f3 f4 g4) A_spec_l9Any Try.f56 [((.slice 48 TyEntry), (.own 0))] n (.pair (.slice 5 (.int .u8)) (.pair (.int .i64) (.int .i64))) a0 [] = spec_l9Any_P f0 g0 f1 g1 f2 g2 f3 f4 g4 (fun r0 r1 => some [⟨(.pair (.slice 5 (.int .u8)) (.pair (.int .i64) (.int .i64))), r0⟩, ⟨(.slice 48 TyEntry), r1⟩]) (fun v1_0 v1_1 v1_2 v1_3 v1_4 => L_P_spec_l9Any_1 f0 g0 f1 g1 f2 g2 f3 f4 g4 n n (S_spec_l9Any_1 v1_0 v1_1 v1_2 v1_3 v1_4)) a0 := by kernel_rfl
theorem said_spec_l9Any (a0 : TCur) (g : G.spec_l9Any a0 = true) : SaidP Try.prog sigs_56 56 (.pair (.slice 5 (.int .u8)) (.pair (.int .i64) (.int .i64))) a0 [] [⟨(.pair (.slice 5 (.int .u8)) (.pair (.int .i64) (.int .i64))), (N.spec_l9Any a0).1⟩, ⟨(.slice 48 TyEntry), (N.spec_l9Any a0).2⟩] := said_lenB (T := tab) (A := A_spec_l9Any) tabOk ok_spec_l9Any tabOk.follows Try.func56 (by kernel_rfl) (by kernel_rfl) (fun hl => let ⟨n, hn⟩ := spec_l9Any_ok (ρ := Ret) (fun r0 r1 => some [⟨(.pair (.slice 5 (.int .u8)) (.pair (.int .i64) (.int .i64))), r0⟩, ⟨(.slice 48 TyEntry), r1⟩]) a0 hl.1 g; ⟨n, (aP_spec_l9Any N.spec_l9List G.spec_l9List N.spec_l1Below G.spec_l1Below N.spec_l8Any G.spec_l8Any N.spec_ValueEntry N.spec_PutEntry G.spec_PutEntry n a0).trans (hn n (Nat.le_refl n) (fun  m v1_0 v1_1 v1_2 v1_3 v1_4 => L_P_spec_l9Any_1 N.spec_l9List G.spec_l9List N.spec_l1Below G.spec_l1Below N.spec_l8Any G.spec_l8Any N.spec_ValueEntry N.spec_PutEntry G.spec_PutEntry n  m (S_spec_l9Any_1 v1_0 v1_1 v1_2 v1_3 v1_4)) (fun  m v1_0 v1_1 v1_2 v1_3 v1_4 => bP_spec_l9Any_1 N.spec_l9List G.spec_l9List N.spec_l1Below G.spec_l1Below N.spec_l8Any G.spec_l8Any N.spec_ValueEntry N.spec_PutEntry G.spec_PutEntry n  m v1_0 v1_1 v1_2 v1_3 v1_4))⟩)
abbrev G.spec_DrawProveEntry (l : List Int) : Bool := decide (l.length ≤ 1048576)
abbrev N.spec_DrawProveEntry (l : List Int) : List TEntry × ByteArray := proveD l
def spec_DrawProveEntry_P {ρ : Type} (f0 : (List Int) → TCur) (g0 : (List Int) → Bool) (f1 : TCur → (TCur × (List TEntry))) (g1 : TCur → Bool) (f2 : TCur → Int → (TCur × Bool)) (g2 : TCur → Int → Bool) (f3 : TCur → Int → (TCur × Int)) (g3 : TCur → Int → Bool) (f4 : TCur → (TCur × ByteArray)) (g4 : TCur → Bool) (k : (List TEntry) → ByteArray → Option ρ) (a0 : (List Int)) : Option ρ := (cond (g0 a0) (cond (g1 (f0 a0)) (cond (decide ((List.length (f1 (f0 a0)).2 : Int) > (0 : Int))) (cond (g2 (f1 (f0 a0)).1 (3 : Int)) (cond (!(f2 (f1 (f0 a0)).1 (3 : Int)).2) (cond (g3 (f2 (f1 (f0 a0)).1 (3 : Int)).1 (List.length (f1 (f0 a0)).2 : Int)) (cond (inRange (f3 (f2 (f1 (f0 a0)).1 (3 : Int)).1 (List.length (f1 (f0 a0)).2 : Int)).2 (List.length (f1 (f0 a0)).2)) (cond (inRange (f3 (f2 (f1 (f0 a0)).1 (3 : Int)).1 (List.length (f1 (f0 a0)).2 : Int)).2 (List.length (f1 (f0 a0)).2)) (k (f1 (f0 a0)).2 (List.getD (f1 (f0 a0)).2 (Int.toNat (f3 (f2 (f1 (f0 a0)).1 (3 : Int)).1 (List.length (f1 (f0 a0)).2 : Int)).2) (ByteArray.empty, ((0 : Int), ((0 : Int), [])))).1) none) none) none) (cond (g4 (f2 (f1 (f0 a0)).1 (3 : Int)).1) (k (f1 (f0 a0)).2 (f4 (f2 (f1 (f0 a0)).1 (3 : Int)).1).2) none)) none) (cond (g4 (f1 (f0 a0)).1) (k (f1 (f0 a0)).2 (f4 (f1 (f0 a0)).1).2) none)) none) none)
def spec_DrawProveEntry {ρ : Type} (k : (List TEntry) → ByteArray → Option ρ) (a0 : (List Int)) : Option ρ := spec_DrawProveEntry_P N.spec_l1New G.spec_l1New N.spec_l9Any G.spec_l9Any N.spec_l1Once G.spec_l1Once N.spec_l1Below G.spec_l1Below N.spec_l4Any G.spec_l4Any k a0
theorem spec_DrawProveEntry_ok {ρ : Type} (k : (List TEntry) → ByteArray → Option ρ) (a0 : (List Int)) (l_a0 : lnL (fun _ => True) a0) (g : G.spec_DrawProveEntry a0 = true) : spec_DrawProveEntry k  a0 = k (N.spec_DrawProveEntry a0).1 (N.spec_DrawProveEntry a0).2 := by
  unfold G.spec_DrawProveEntry at g
  have h0 := okC_new (of_decide_eq_true g)
  have h1 := okC_anyEs h0
  have h2 := okC_once 3 h1
  simp only [spec_DrawProveEntry, spec_DrawProveEntry_P, G.spec_l1New, N.spec_l1New, G.spec_l9Any, N.spec_l9Any, G.spec_l1Once, N.spec_l1Once, G.spec_l1Below, N.spec_l1Below, G.spec_l4Any, N.spec_l4Any, g, h0, h1, h2, cond_true]
  show _ = k (proveDp (anyEs (newC a0))).1 (proveDp (anyEs (newC a0))).2
  unfold proveDp
  cases hd : decide (((anyEs (newC a0)).2.length : Int) > 0) with
  | false => rfl
  | true =>
    have := of_decide_eq_true hd
    have hi := pick_in (onceC (anyEs (newC a0)).1 3).1 (anyEs (newC a0)).2 (by omega)
    rw [hi]
    cases (onceC (anyEs (newC a0)).1 3).2 <;> rfl
def OP_spec_DrawProveEntry (f0 : (List Int) → TCur) (g0 : (List Int) → Bool) (f1 : TCur → (TCur × (List TEntry))) (g1 : TCur → Bool) (f2 : TCur → Int → (TCur × Bool)) (g2 : TCur → Int → Bool) (f3 : TCur → Int → (TCur × Int)) (g3 : TCur → Int → Bool) (f4 : TCur → (TCur × ByteArray)) (g4 : TCur → Bool) : Orac := (orcX 58 [.lend (.pair (.slice 5 (.int .u8)) (.pair (.int .i64) (.int .i64))) .no] (fun d => g4 d.1) (fun d => [⟨(.pair (.slice 5 (.int .u8)) (.pair (.int .i64) (.int .i64))), (f4 d.1).1⟩, ⟨.str, (f4 d.1).2⟩]) (orcX 42 [.lend (.pair (.slice 5 (.int .u8)) (.pair (.int .i64) (.int .i64))) .no, .val (.int .i64)] (fun d => g3 d.1 d.2.1) (fun d => [⟨(.pair (.slice 5 (.int .u8)) (.pair (.int .i64) (.int .i64))), (f3 d.1 d.2.1).1⟩, ⟨(.int .i64), (f3 d.1 d.2.1).2⟩]) (orcX 57 [.lend (.pair (.slice 5 (.int .u8)) (.pair (.int .i64) (.int .i64))) .no, .val (.int .i64)] (fun d => g2 d.1 d.2.1) (fun d => [⟨(.pair (.slice 5 (.int .u8)) (.pair (.int .i64) (.int .i64))), (f2 d.1 d.2.1).1⟩, ⟨.bool, (f2 d.1 d.2.1).2⟩]) (orcX 56 [.lend (.pair (.slice 5 (.int .u8)) (.pair (.int .i64) (.int .i64))) .no] (fun d => g1 d.1) (fun d => [⟨(.pair (.slice 5 (.int .u8)) (.pair (.int .i64) (.int .i64))), (f1 d.1).1⟩, ⟨(.slice 48 TyEntry), (f1 d.1).2⟩]) (orcX 40 [.lend .bool .nil, .val (.slice 5 (.int .u8))] (fun d => g0 d.2.1) (fun d => [⟨(.pair (.slice 5 (.int .u8)) (.pair (.int .i64) (.int .i64))), f0 d.2.1⟩]) nilO)))))
def O_spec_DrawProveEntry : Orac := OP_spec_DrawProveEntry N.spec_l1New G.spec_l1New N.spec_l9Any G.spec_l9Any N.spec_l1Once G.spec_l1Once N.spec_l1Below G.spec_l1Below N.spec_l4Any G.spec_l4Any
theorem ok_spec_DrawProveEntry : OracOk Try.prog sigs O_spec_DrawProveEntry := (orcB_ok rfl (fun d g => said_spec_l4Any d.1 g) (orcB_ok rfl (fun d g => said_spec_l1Below d.1 d.2.1 g) (orcB_ok rfl (fun d g => said_spec_l1Once d.1 d.2.1 g) (orcB_ok rfl (fun d g => said_spec_l9Any d.1 g) (orcN_ok rfl (fun d g => said_spec_l1New d.2.1 g) nilO_ok)))))
def A_spec_DrawProveEntry : Ann := fun b => ⟨[], []⟩
theorem aP_spec_DrawProveEntry (f0 : (List Int) → TCur) (g0 : (List Int) → Bool) (f1 : TCur → (TCur × (List TEntry))) (g1 : TCur → Bool) (f2 : TCur → Int → (TCur × Bool)) (g2 : TCur → Int → Bool) (f3 : TCur → Int → (TCur × Int)) (g3 : TCur → Int → Bool) (f4 : TCur → (TCur × ByteArray)) (g4 : TCur → Bool) (n : Nat) (a0 : (List Int)) : absF tab sigs (OP_spec_DrawProveEntry f0 g0 f1 g1 f2 g2 f3 g3 f4 g4) A_spec_DrawProveEntry Try.f20 [((.slice 48 TyEntry), .no), (.str, .no)] n [.val (.slice 5 (.int .u8)) a0] = spec_DrawProveEntry_P f0 g0 f1 g1 f2 g2 f3 g3 f4 g4 (fun r0 r1 => some [⟨(.slice 48 TyEntry), r0⟩, ⟨.str, r1⟩])  a0 := by kernel_rfl
theorem said_spec_DrawProveEntry (a0 : (List Int)) (g : G.spec_DrawProveEntry a0 = true) : Said Try.prog sigs_20 20 [.val (.slice 5 (.int .u8)) a0] [⟨(.slice 48 TyEntry), (N.spec_DrawProveEntry a0).1⟩, ⟨.str, (N.spec_DrawProveEntry a0).2⟩] := said_len (T := tab) (A := A_spec_DrawProveEntry) tabOk ok_spec_DrawProveEntry tabOk.follows Try.func20 (by kernel_rfl) (by kernel_rfl) (fun hl => ⟨0, (aP_spec_DrawProveEntry N.spec_l1New G.spec_l1New N.spec_l9Any G.spec_l9Any N.spec_l1Once G.spec_l1Once N.spec_l1Below G.spec_l1Below N.spec_l4Any G.spec_l4Any 0 a0).trans (spec_DrawProveEntry_ok (ρ := Ret) (fun r0 r1 => some [⟨(.slice 48 TyEntry), r0⟩, ⟨.str, r1⟩]) a0 hl.1 g)⟩)
abbrev N.impl_FindEntry_s1 (e : TEntry) (s : ByteArray) : Bool := eqStr e.1 s
def impl_FindEntry_s1 {ρ : Type} (k : Bool → Option ρ) (a0 : TEntry) (a1 : ByteArray) : Option ρ := (k ((ByteArray.toList a0.1) == (ByteArray.toList a1)))
theorem impl_FindEntry_s1_ok {ρ : Type} (k : Bool → Option ρ) (a0 : TEntry) (a1 : ByteArray) (l_a0 : (True ∧ (True ∧ (True ∧ lnL (fun _ => True) a0.2.2.2)))) : impl_FindEntry_s1 k  a0 a1 = k (N.impl_FindEntry_s1 a0 a1) := by
  rfl
def O_impl_FindEntry_s1 : Orac := nilO
theorem ok_impl_FindEntry_s1 : OracOk Try.prog sigs O_impl_FindEntry_s1 := nilO_ok
def A_impl_FindEntry_s1 : Ann := fun b => ⟨[], []⟩
theorem a_impl_FindEntry_s1 (n : Nat) (a0 : TEntry) (a1 : ByteArray) : absF tab sigs O_impl_FindEntry_s1 A_impl_FindEntry_s1 Try.f86 [(.bool, .no)] n [.val TyEntry a0, .ref .str a1] = impl_FindEntry_s1 (fun r0 => some [⟨.bool, r0⟩])  a0 a1 := by kernel_rfl
theorem said_impl_FindEntry_s1 (a0 : TEntry) (a1 : ByteArray) : Said Try.prog sigs_86 86 [.val TyEntry a0, .ref .str a1] [⟨.bool, N.impl_FindEntry_s1 a0 a1⟩] := said_len (T := tab) (A := A_impl_FindEntry_s1) tabOk ok_impl_FindEntry_s1 tabOk.follows Try.func86 (by kernel_rfl) (by kernel_rfl) (fun hl => ⟨0, (a_impl_FindEntry_s1 0 a0 a1).trans (impl_FindEntry_s1_ok (ρ := Ret) (fun r0 => some [⟨.bool, r0⟩]) a0 a1 hl.1)⟩)
abbrev N.slices_IndexFunc_impl_Entry__impl_FindEntry_s1 (l : List TEntry) (s : ByteArray) : Int := findEntry l s
def slices_IndexFunc_impl_Entry__impl_FindEntry_s1_P_L0 {ρ : Type} (f0 : TEntry → ByteArray → Bool) (k : Int → Option ρ) (L0 : (List TEntry) → ByteArray → Int → Int → Option ρ) (v0_0 : (List TEntry)) (v0_1 : ByteArray) (v0_2 : Int) (v0_3 : Int) : Option ρ := (cond (decide (v0_3 < v0_2)) (cond (inRange v0_3 (List.length v0_0)) (cond (f0 (List.getD v0_0 (Int.toNat v0_3) (ByteArray.empty, ((0 : Int), ((0 : Int), [])))) v0_1) (k v0_3) (L0 v0_0 v0_1 v0_2 (IntKind.wrap .i64 (v0_3 + (1 : Int))))) none) (k (-1 : Int)))
def slices_IndexFunc_impl_Entry__impl_FindEntry_s1_P {ρ : Type} (f0 : TEntry → ByteArray → Bool) (k : Int → Option ρ) (L0 : (List TEntry) → ByteArray → Int → Int → Option ρ) (a0 : (List TEntry)) (c1_0 : ByteArray) : Option ρ := (L0 a0 c1_0 (List.length a0 : Int) (0 : Int))
def slices_IndexFunc_impl_Entry__impl_FindEntry_s1_L0 {ρ : Type} (k : Int → Option ρ) (L0 : (List TEntry) → ByteArray → Int → Int → Option ρ) (v0_0 : (List TEntry)) (v0_1 : ByteArray) (v0_2 : Int) (v0_3 : Int) : Option ρ := slices_IndexFunc_impl_Entry__impl_FindEntry_s1_P_L0 N.impl_FindEntry_s1 k L0 v0_0 v0_1 v0_2 v0_3
def slices_IndexFunc_impl_Entry__impl_FindEntry_s1 {ρ : Type} (k : Int → Option ρ) (L0 : (List TEntry) → ByteArray → Int → Int → Option ρ) (a0 : (List TEntry)) (c1_0 : ByteArray) : Option ρ := slices_IndexFunc_impl_Entry__impl_FindEntry_s1_P N.impl_FindEntry_s1 k L0 a0 c1_0
theorem slices_IndexFunc_impl_Entry__impl_FindEntry_s1_ok {ρ : Type} (k : Int → Option ρ) (a0 : (List TEntry)) (c1_0 : ByteArray) (l_a0 : lnL (fun y => (True ∧ (True ∧ (True ∧ lnL (fun _ => True) y.2.2.2)))) a0) : ∃ n0, ∀ n, n0 ≤ n → ∀ (L0 : Nat → (List TEntry) → ByteArray → Int → Int → Option ρ) (h0 : ∀ ( m : Nat) (v0_0 : (List TEntry)) (v0_1 : ByteArray) (v0_2 : Int) (v0_3 : Int), L0 (m + 1) v0_0 v0_1 v0_2 v0_3 = slices_IndexFunc_impl_Entry__impl_FindEntry_s1_L0 k (L0 m) v0_0 v0_1 v0_2 v0_3), slices_IndexFunc_impl_Entry__impl_FindEntry_s1 k (L0 n) a0 c1_0 = k (N.slices_IndexFunc_impl_Entry__impl_FindEntry_s1 a0 c1_0) := by
  refine ⟨a0.length + 1, fun n hn L0 h0 => ?_⟩
  refine raw_idx (a := a0) (ByteArray.empty, (0, (0, []))) (fun e => eqStr e.1 c1_0) (k := k) (σ := Unit) (s := ()) (L := fun m i _ => L0 m a0 c1_0 (a0.length : Int) i) (R := fun i s c => slices_IndexFunc_impl_Entry__impl_FindEntry_s1_L0 k (fun _ _ _ i => c i ()) a0 c1_0 (a0.length : Int) i) (fun m i s => h0 m a0 c1_0 (a0.length : Int) i) (fun j s c hj => ?_) (fun s c => ?_) hn
  · have : j < big := by have := l_a0.1; omega
    simp [slices_IndexFunc_impl_Entry__impl_FindEntry_s1_L0, slices_IndexFunc_impl_Entry__impl_FindEntry_s1_P_L0, lt_nat, inRange_nat, hj, wrap_succ this, eqStr]
  · simp [slices_IndexFunc_impl_Entry__impl_FindEntry_s1_L0, slices_IndexFunc_impl_Entry__impl_FindEntry_s1_P_L0]
def OP_slices_IndexFunc_impl_Entry__impl_FindEntry_s1 (f0 : TEntry → ByteArray → Bool) : Orac := (orcX 86 [.val TyEntry, .ref .str] (fun d => true) (fun d => [⟨.bool, f0 d.1 d.2.1⟩]) nilO)
def O_slices_IndexFunc_impl_Entry__impl_FindEntry_s1 : Orac := OP_slices_IndexFunc_impl_Entry__impl_FindEntry_s1 N.impl_FindEntry_s1
theorem ok_slices_IndexFunc_impl_Entry__impl_FindEntry_s1 : OracOk Try.prog sigs O_slices_IndexFunc_impl_Entry__impl_FindEntry_s1 := (orcX_ok rfl rfl (fun d g => said_impl_FindEntry_s1 d.1 d.2.1) nilO_ok)
def A_slices_IndexFunc_impl_Entry__impl_FindEntry_s1 : Ann := fun b => cond (Nat.beq b 0) ⟨[(0, false), (1, false), (7, false), (8, false)], []⟩ (⟨[], []⟩)
def S_slices_IndexFunc_impl_Entry__impl_FindEntry_s1_0 (v0_0 : (List TEntry)) (v0_1 : ByteArray) (v0_2 : Int) (v0_3 : Int) : St := [(kT 0, some (.tv (.v (.slice 48 TyEntry) v0_0 .no))), (kT 1, some (.tv (.clo 86 [(.ref .str v0_1)]))), (kT 7, some (.tv (.v (.int .i64) v0_2 .no))), (kT 8, some (.tv (.v (.int .i64) v0_3 .no)))]
noncomputable def L_P_slices_IndexFunc_impl_Entry__impl_FindEntry_s1_0 (f0 : TEntry → ByteArray → Bool) (n m : Nat) : St → Option Ret := loopOf tab sigs (OP_slices_IndexFunc_impl_Entry__impl_FindEntry_s1 f0) A_slices_IndexFunc_impl_Entry__impl_FindEntry_s1 Try.f85 [((.int .i64), .no)] n (fun _ => 0) 0 m
theorem bP_slices_IndexFunc_impl_Entry__impl_FindEntry_s1_0 (f0 : TEntry → ByteArray → Bool) (n m : Nat) (v0_0 : (List TEntry)) (v0_1 : ByteArray) (v0_2 : Int) (v0_3 : Int) : L_P_slices_IndexFunc_impl_Entry__impl_FindEntry_s1_0 f0 n (m + 1) (S_slices_IndexFunc_impl_Entry__impl_FindEntry_s1_0 v0_0 v0_1 v0_2 v0_3) = slices_IndexFunc_impl_Entry__impl_FindEntry_s1_P_L0 f0 (fun r0 => some [⟨(.int .i64), r0⟩]) (fun v0_0 v0_1 v0_2 v0_3 => L_P_slices_IndexFunc_impl_Entry__impl_FindEntry_s1_0 f0 n m (S_slices_IndexFunc_impl_Entry__impl_FindEntry_s1_0 v0_0 v0_1 v0_2 v0_3)) v0_0 v0_1 v0_2 v0_3 := by kernel_rfl
theorem aP_slices_IndexFunc_impl_Entry__impl_FindEntry_s1 (f0 : TEntry → ByteArray → Bool) (n : Nat) (a0 : (List TEntry)) (c1_0 : ByteArray) : absF tab sigs (OP_slices_IndexFunc_impl_Entry__impl_FindEntry_s1 f0) A_slices_IndexFunc_impl_Entry__impl_FindEntry_s1 Try.f85 [((.int .i64), .no)] n [.val (.slice 48 TyEntry) a0, .clo 86 [.ref .str c1_0]] = slices_IndexFunc_impl_Entry__impl_FindEntry_s1_P f0 (fun r0 => some [⟨(.int .i64), r0⟩]) (fun v0_0 v0_1 v0_2 v0_3 => L_P_slices_IndexFunc_impl_Entry__impl_FindEntry_s1_0 f0 n n (S_slices_IndexFunc_impl_Entry__impl_FindEntry_s1_0 v0_0 v0_1 v0_2 v0_3)) a0 c1_0 := by kernel_rfl
theorem said_slices_IndexFunc_impl_Entry__impl_FindEntry_s1 (a0 : (List TEntry)) (c1_0 : ByteArray) : Said Try.prog sigs_85 85 [.val (.slice 48 TyEntry) a0, .clo 86 [.ref .str c1_0]] [⟨(.int .i64), N.slices_IndexFunc_impl_Entry__impl_FindEntry_s1 a0 c1_0⟩] := said_len (T := tab) (A := A_slices_IndexFunc_impl_Entry__impl_FindEntry_s1) tabOk ok_slices_IndexFunc_impl_Entry__impl_FindEntry_s1 tabOk.follows Try.func85 (by kernel_rfl) (by kernel_rfl) (fun hl => let ⟨n, hn⟩ := slices_IndexFunc_impl_Entry__impl_FindEntry_s1_ok (ρ := Ret) (fun r0 => some [⟨(.int .i64), r0⟩]) a0 c1_0 hl.1; ⟨n, (aP_slices_IndexFunc_impl_Entry__impl_FindEntry_s1 N.impl_FindEntry_s1 n a0 c1_0).trans (hn n (Nat.le_refl n) (fun  m v0_0 v0_1 v0_2 v0_3 => L_P_slices_IndexFunc_impl_Entry__impl_FindEntry_s1_0 N.impl_FindEntry_s1 n  m (S_slices_IndexFunc_impl_Entry__impl_FindEntry_s1_0 v0_0 v0_1 v0_2 v0_3)) (fun  m v0_0 v0_1 v0_2 v0_3 => bP_slices_IndexFunc_impl_Entry__impl_FindEntry_s1_0 N.impl_FindEntry_s1 n  m v0_0 v0_1 v0_2 v0_3))⟩)
abbrev N.impl_FindEntry (l : List TEntry) (s : ByteArray) : Int := findEntry l s
def impl_FindEntry {ρ : Type} (k : Int → Option ρ) (a0 : (List TEntry)) (a1 : ByteArray) : Option ρ := (k (N.slices_IndexFunc_impl_Entry__impl_FindEntry_s1 a0 a1))
theorem impl_FindEntry_ok {ρ : Type} (k : Int → Option ρ) (a0 : (List TEntry)) (a1 : ByteArray) (l_a0 : lnL (fun y => (True ∧ (True ∧ (True ∧ lnL (fun _ => True) y.2.2.2)))) a0) : impl_FindEntry k  a0 a1 = k (N.impl_FindEntry a0 a1) := by
  rfl
def OP_impl_FindEntry (f0 : (List TEntry) → ByteArray → Int) : Orac := (orcX 85 [.val (.slice 48 TyEntry), .clo 86 [.str]] (fun d => true) (fun d => [⟨(.int .i64), f0 d.1 d.2.1.1⟩]) nilO)
def O_impl_FindEntry : Orac := OP_impl_FindEntry N.slices_IndexFunc_impl_Entry__impl_FindEntry_s1
def impl_FindEntry_P {ρ : Type} (f0 : (List TEntry) → ByteArray → Int) (k : Int → Option ρ) (a0 : (List TEntry)) (a1 : ByteArray) : Option ρ := (k (f0 a0 a1))
theorem ok_impl_FindEntry : OracOk Try.prog sigs O_impl_FindEntry := (orcX_ok rfl rfl (fun d g => said_slices_IndexFunc_impl_Entry__impl_FindEntry_s1 d.1 d.2.1.1) nilO_ok)
def A_impl_FindEntry : Ann := fun b => ⟨[], []⟩
theorem aP_impl_FindEntry (f0 : (List TEntry) → ByteArray → Int) (n : Nat) (a0 : (List TEntry)) (a1 : ByteArray) : absF tab sigs (OP_impl_FindEntry f0) A_impl_FindEntry Try.f59 [((.int .i64), .no)] n [.val (.slice 48 TyEntry) a0, .val .str a1] = impl_FindEntry_P f0 (fun r0 => some [⟨(.int .i64), r0⟩])  a0 a1 := by kernel_rfl
theorem said_impl_FindEntry (a0 : (List TEntry)) (a1 : ByteArray) : Said Try.prog sigs_59 59 [.val (.slice 48 TyEntry) a0, .val .str a1] [⟨(.int .i64), N.impl_FindEntry a0 a1⟩] := said_len (T := tab) (A := A_impl_FindEntry) tabOk ok_impl_FindEntry tabOk.follows Try.func59 (by kernel_rfl) (by kernel_rfl) (fun hl => ⟨0, (aP_impl_FindEntry N.slices_IndexFunc_impl_Entry__impl_FindEntry_s1 0 a0 a1).trans (impl_FindEntry_ok (ρ := Ret) (fun r0 => some [⟨(.int .i64), r0⟩]) a0 a1 hl.1)⟩)
abbrev G.impl_BytesToInts (b : List Int) : Bool := decide (b.length ≤ 1048577)
abbrev N.impl_BytesToInts (b : List Int) : List Int := bytesInts b
def impl_BytesToInts_L0 {ρ : Type} (k : (List Int) → Option ρ) (L0 : (List Int) → Int → Int → (List Int) → Option ρ) (v0_0 : (List Int)) (v0_1 : Int) (v0_2 : Int) (v0_3 : (List Int)) : Option ρ := (cond (decide (v0_2 < v0_1)) (cond (inRange v0_2 (List.length v0_0)) (cond (fit (List.length v0_3) (List.length [(IntKind.wrap .i64 (List.getD v0_0 (Int.toNat v0_2) (0 : Int)))])) (L0 v0_0 v0_1 (IntKind.wrap .i64 (v0_2 + (1 : Int))) (List.append v0_3 [(IntKind.wrap .i64 (List.getD v0_0 (Int.toNat v0_2) (0 : Int)))])) none) none) (k v0_3))
def impl_BytesToInts {ρ : Type} (k : (List Int) → Option ρ) (L0 : (List Int) → Int → Int → (List Int) → Option ρ) (a0 : (List Int)) : Option ρ := (L0 a0 (List.length a0 : Int) (0 : Int) [(List.length a0 : Int)])
theorem impl_BytesToInts_ok {ρ : Type} (k : (List Int) → Option ρ) (a0 : (List Int)) (l_a0 : lnL (fun _ => True) a0) (g : G.impl_BytesToInts a0 = true) : ∃ n0, ∀ n, n0 ≤ n → ∀ (L0 : Nat → (List Int) → Int → Int → (List Int) → Option ρ) (h0 : ∀ ( m : Nat) (v0_0 : (List Int)) (v0_1 : Int) (v0_2 : Int) (v0_3 : (List Int)), L0 (m + 1) v0_0 v0_1 v0_2 v0_3 = impl_BytesToInts_L0 k (L0 m) v0_0 v0_1 v0_2 v0_3), impl_BytesToInts k (L0 n) a0 = k (N.impl_BytesToInts a0) := by
  unfold G.impl_BytesToInts at g
  have hlen : a0.length ≤ 1048577 := of_decide_eq_true g
  refine ⟨a0.length + 1, fun n hn L0 h0 => ?_⟩
  refine (raw_foldl (a := a0) 0 (fun o x => o ++ [IntKind.wrap .i64 x]) (k := k) (s := [(a0.length : Int)]) (L := fun m i s => L0 m a0 (a0.length : Int) i s) (R := fun i s c => impl_BytesToInts_L0 k (fun _ _ i s => c i s) a0 (a0.length : Int) i s) (fun m i s => h0 m a0 (a0.length : Int) i s) (fun j o => o.length ≤ j + 1) (fun j s c hj hI => ?_) (fun j s hj hI => by simp; exact hI) (fun s c => ?_) hn (by simp)).trans (by rw [foldl_app]; rfl)
  · have : j < big := by unfold big; omega
    have e3 : fit s.length 1 = true := fit_of (by omega)
    simp only [impl_BytesToInts_L0, lt_nat, inRange_nat, decide_eq_true hj, cond_true, Int.toNat_natCast, List.length_singleton, e3, wrap_succ this, List.append_eq]
  · simp [impl_BytesToInts_L0]
def O_impl_BytesToInts : Orac := nilO
theorem ok_impl_BytesToInts : OracOk Try.prog sigs O_impl_BytesToInts := nilO_ok
def A_impl_BytesToInts : Ann := fun b => cond (Nat.beq b 0) ⟨[(3, true), (9, false), (10, false), (11, false)], []⟩ (⟨[], []⟩)
def S_impl_BytesToInts_0 (v0_0 : (List Int)) (v0_1 : Int) (v0_2 : Int) (v0_3 : (List Int)) : St := [(kT 3, some (.tv (.v (.slice 3 (.int .i64)) [] (.own 24)))), (kT 9, some (.tv (.v (.slice 5 (.int .u8)) v0_0 .no))), (kT 10, some (.tv (.v (.int .i64) v0_1 .no))), (kT 11, some (.tv (.v (.int .i64) v0_2 .no))), (kR 24, some (.row 3 (.int .i64) v0_3))]
noncomputable def L_impl_BytesToInts_0 (n m : Nat) : St → Option Ret := loopOf tab sigs O_impl_BytesToInts A_impl_BytesToInts Try.f131 [((.slice 3 (.int .i64)), (.own 0))] n (fun _ => 0) 0 m
theorem b_impl_BytesToInts_0 (n m : Nat) (v0_0 : (List Int)) (v0_1 : Int) (v0_2 : Int) (v0_3 : (List Int)) : L_impl_BytesToInts_0 n (m + 1) (S_impl_BytesToInts_0 v0_0 v0_1 v0_2 v0_3) = impl_BytesToInts_L0 (fun r0 => some [⟨(.slice 3 (.int .i64)), r0⟩]) (fun v0_0 v0_1 v0_2 v0_3 => L_impl_BytesToInts_0 n m (S_impl_BytesToInts_0 v0_0 v0_1 v0_2 v0_3)) v0_0 v0_1 v0_2 v0_3 := by kernel_rfl
theorem a_impl_BytesToInts (n : Nat) (a0 : (List Int)) : absF tab sigs O_impl_BytesToInts A_impl_BytesToInts Try.f131 [((.slice 3 (.int .i64)), (.own 0))] n [.val (.slice 5 (.int .u8)) a0] = impl_BytesToInts (fun r0 => some [⟨(.slice 3 (.int .i64)), r0⟩]) (fun v0_0 v0_1 v0_2 v0_3 => L_impl_BytesToInts_0 n n (S_impl_BytesToInts_0 v0_0 v0_1 v0_2 v0_3)) a0 := by kernel_rfl
theorem said_impl_BytesToInts (a0 : (List Int)) (g : G.impl_BytesToInts a0 = true) : Said Try.prog sigs_131 131 [.val (.slice 5 (.int .u8)) a0] [⟨(.slice 3 (.int .i64)), N.impl_BytesToInts a0⟩] := said_len (T := tab) (A := A_impl_BytesToInts) tabOk ok_impl_BytesToInts tabOk.follows Try.func131 (by kernel_rfl) (by kernel_rfl) (fun hl => let ⟨n, hn⟩ := impl_BytesToInts_ok (ρ := Ret) (fun r0 => some [⟨(.slice 3 (.int .i64)), r0⟩]) a0 hl.1 g; ⟨n, (a_impl_BytesToInts n a0).trans (hn n (Nat.le_refl n) (fun  m v0_0 v0_1 v0_2 v0_3 => L_impl_BytesToInts_0 n  m (S_impl_BytesToInts_0 v0_0 v0_1 v0_2 v0_3)) (fun  m v0_0 v0_1 v0_2 v0_3 => b_impl_BytesToInts_0 n  m v0_0 v0_1 v0_2 v0_3))⟩)
abbrev G.impl_LabelInts (s : ByteArray) : Bool := decide (s.size ≤ 1048576)
abbrev N.impl_LabelInts (s : ByteArray) : List Int := labelInts s
def impl_LabelInts {ρ : Type} (k : (List Int) → Option ρ) (a0 : ByteArray) : Option ρ := (cond (decide ((ByteArray.size a0 : Int) ≤ 549755813888)) (cond (G.impl_BytesToInts (bytesOf a0)) (k (N.impl_BytesToInts (bytesOf a0))) none) none)
theorem impl_LabelInts_ok {ρ : Type} (k : (List Int) → Option ρ) (a0 : ByteArray) (g : G.impl_LabelInts a0 = true) : impl_LabelInts k  a0 = k (N.impl_LabelInts a0) := by
  unfold G.impl_LabelInts at g
  have h : a0.size ≤ 1048576 := of_decide_eq_true g
  have h1 : decide ((a0.size : Int) ≤ 549755813888) = true := by simp; omega
  have h2 : G.impl_BytesToInts (bytesOf a0) = true := decide_eq_true (by rw [bytesOf_length]; omega)
  show cond _ (cond _ _ none) none = _
  rw [h1, h2]
  rfl
def OP_impl_LabelInts (f0 : (List Int) → (List Int)) (g0 : (List Int) → Bool) : Orac := (orcX 131 [.val (.slice 5 (.int .u8))] (fun d => g0 d.1) (fun d => [⟨(.slice 3 (.int .i64)), f0 d.1⟩]) nilO)
def O_impl_LabelInts : Orac := OP_impl_LabelInts N.impl_BytesToInts G.impl_BytesToInts
def impl_LabelInts_P {ρ : Type} (f0 : (List Int) → (List Int)) (g0 : (List Int) → Bool) (k : (List Int) → Option ρ) (a0 : ByteArray) : Option ρ := (cond (decide ((ByteArray.size a0 : Int) ≤ 549755813888)) (cond (g0 (bytesOf a0)) (k (f0 (bytesOf a0))) none) none)
theorem ok_impl_LabelInts : OracOk Try.prog sigs O_impl_LabelInts := (orcX_ok rfl rfl (fun d g => said_impl_BytesToInts d.1 g) nilO_ok)
def A_impl_LabelInts : Ann := fun b => ⟨[], []⟩
theorem aP_impl_LabelInts (f0 : (List Int) → (List Int)) (g0 : (List Int) → Bool) (n : Nat) (a0 : ByteArray) : absF tab sigs (OP_impl_LabelInts f0 g0) A_impl_LabelInts Try.f107 [((.slice 3 (.int .i64)), (.own 0))] n [.val .str a0] = impl_LabelInts_P f0 g0 (fun r0 => some [⟨(.slice 3 (.int .i64)), r0⟩])  a0 := by kernel_rfl
theorem said_impl_LabelInts (a0 : ByteArray) (g : G.impl_LabelInts a0 = true) : Said Try.prog sigs_107 107 [.val .str a0] [⟨(.slice 3 (.int .i64)), N.impl_LabelInts a0⟩] := said_len (T := tab) (A := A_impl_LabelInts) tabOk ok_impl_LabelInts tabOk.follows Try.func107 (by kernel_rfl) (by kernel_rfl) (fun hl => ⟨0, (aP_impl_LabelInts N.impl_BytesToInts G.impl_BytesToInts 0 a0).trans (impl_LabelInts_ok (ρ := Ret) (fun r0 => some [⟨(.slice 3 (.int .i64)), r0⟩]) a0 g)⟩)
abbrev G.impl_EntryInts (e : TEntry) : Bool := decide (wE e ≤ 1048576)
abbrev N.impl_EntryInts (e : TEntry) : List Int := entryInts e
def impl_EntryInts_P_L0 {ρ : Type} (f0 : ByteArray → (List Int)) (g0 : ByteArray → Bool) (k : (List Int) → Option ρ) (L0 : (List ByteArray) → Int → Int → (List Int) → Option ρ) (v0_0 : (List ByteArray)) (v0_1 : Int) (v0_2 : Int) (v0_3 : (List Int)) : Option ρ := (cond (decide (v0_2 < v0_1)) (cond (inRange v0_2 (List.length v0_0)) (cond (g0 (List.getD v0_0 (Int.toNat v0_2) ByteArray.empty)) (cond (fit (List.length v0_3) (List.length (f0 (List.getD v0_0 (Int.toNat v0_2) ByteArray.empty)))) (L0 v0_0 v0_1 (IntKind.wrap .i64 (v0_2 + (1 : Int))) (List.append v0_3 (f0 (List.getD v0_0 (Int.toNat v0_2) ByteArray.empty)))) none) none) none) (k v0_3))
def impl_EntryInts_P {ρ : Type} (f0 : ByteArray → (List Int)) (g0 : ByteArray → Bool) (k : (List Int) → Option ρ) (L0 : (List ByteArray) → Int → Int → (List Int) → Option ρ) (a0 : TEntry) : Option ρ := (cond (g0 a0.1) (cond (fit (List.length (f0 a0.1)) (List.length [a0.2.1, a0.2.2.1, (List.length a0.2.2.2 : Int)])) (L0 a0.2.2.2 (List.length a0.2.2.2 : Int) (0 : Int) (List.append (f0 a0.1) [a0.2.1, a0.2.2.1, (List.length a0.2.2.2 : Int)])) none) none)
def impl_EntryInts_L0 {ρ : Type} (k : (List Int) → Option ρ) (L0 : (List ByteArray) → Int → Int → (List Int) → Option ρ) (v0_0 : (List ByteArray)) (v0_1 : Int) (v0_2 : Int) (v0_3 : (List Int)) : Option ρ := impl_EntryInts_P_L0 N.impl_LabelInts G.impl_LabelInts k L0 v0_0 v0_1 v0_2 v0_3
def impl_EntryInts {ρ : Type} (k : (List Int) → Option ρ) (L0 : (List ByteArray) → Int → Int → (List Int) → Option ρ) (a0 : TEntry) : Option ρ := impl_EntryInts_P N.impl_LabelInts G.impl_LabelInts k L0 a0
theorem impl_EntryInts_ok {ρ : Type} (k : (List Int) → Option ρ) (a0 : TEntry) (l_a0 : (True ∧ (True ∧ (True ∧ lnL (fun _ => True) a0.2.2.2)))) (g : G.impl_EntryInts a0 = true) : ∃ n0, ∀ n, n0 ≤ n → ∀ (L0 : Nat → (List ByteArray) → Int → Int → (List Int) → Option ρ) (h0 : ∀ ( m : Nat) (v0_0 : (List ByteArray)) (v0_1 : Int) (v0_2 : Int) (v0_3 : (List Int)), L0 (m + 1) v0_0 v0_1 v0_2 v0_3 = impl_EntryInts_L0 k (L0 m) v0_0 v0_1 v0_2 v0_3), impl_EntryInts k (L0 n) a0 = k (N.impl_EntryInts a0) := by
  unfold G.impl_EntryInts at g
  have hw : wE a0 ≤ 1048576 := of_decide_eq_true g
  have hw2 : a0.1.size + (a0.2.2.2.length + wsum ByteArray.size a0.2.2.2) ≤ 1048576 := hw
  have g1 : decide (a0.1.size ≤ 1048576) = true := by simp; omega
  have f1 : fit (labelInts a0.1).length 3 = true := fit_of (by rw [labelInts_len]; omega)
  refine ⟨a0.2.2.2.length + 1, fun n hn L0 h0 => ?_⟩
  show cond (decide (a0.1.size ≤ 1048576)) (cond (fit (labelInts a0.1).length 3) (L0 n a0.2.2.2 (a0.2.2.2.length : Int) 0 (labelInts a0.1 ++ [a0.2.1, a0.2.2.1, (a0.2.2.2.length : Int)])) none) none = k (entryInts a0)
  rw [g1, f1]
  have key := raw_run0 (σ := List Int) (L := fun m i s => L0 m a0.2.2.2 (a0.2.2.2.length : Int) i s) (R := fun i s c => impl_EntryInts_L0 k (fun _ _ i s => c i s) a0.2.2.2 (a0.2.2.2.length : Int) i s) (fun m i s => h0 m a0.2.2.2 (a0.2.2.2.length : Int) i s) a0.2.2.2.length (fun j s => s.length + wP (a0.2.2.2.drop j) ≤ 4194304) (fun j s => k (s ++ (a0.2.2.2.drop j).flatMap labelInts)) (fun j s c hj hI hc => ?_) (fun s c _ => ?_) hn (s := labelInts a0.1 ++ [a0.2.1, a0.2.2.1, (a0.2.2.2.length : Int)]) (by rw [List.drop_zero, List.length_append, labelInts_len]; unfold wP; simp; omega)
  · rw [List.drop_zero] at key
    exact key
  · have hd := drop_cons ByteArray.empty hj
    have hp : wP (a0.2.2.2.drop j) = 1 + (a0.2.2.2.getD j ByteArray.empty).size + wP (a0.2.2.2.drop (j + 1)) := by
      rw [hd]
      unfold wP
      rw [List.length_cons]
      show _ + (_ + _) = _
      omega
    have hm := wsum_mem (wt := ByteArray.size) (getD_mem (d := ByteArray.empty) hj)
    have g2 : decide ((a0.2.2.2.getD j ByteArray.empty).size ≤ 1048576) = true := by simp only [decide_eq_true_eq]; omega
    have e3 : fit s.length (labelInts (a0.2.2.2.getD j ByteArray.empty)).length = true := fit_of (by rw [labelInts_len]; omega)
    have := hc (s ++ labelInts (a0.2.2.2.getD j ByteArray.empty)) (by rw [List.length_append, labelInts_len]; omega)
    simp only [impl_EntryInts_L0, impl_EntryInts_P_L0, lt_nat, inRange_nat, decide_eq_true hj, cond_true, Int.toNat_natCast, G.impl_LabelInts, N.impl_LabelInts, g2, e3, wrap_succ (j := j) (by unfold big; omega), List.append_eq, this]
    rw [hd]
    simp
  · simp [impl_EntryInts_L0, impl_EntryInts_P_L0]
def OP_impl_EntryInts (f0 : ByteArray → (List Int)) (g0 : ByteArray → Bool) : Orac := (orcX 107 [.val .str] (fun d => g0 d.1) (fun d => [⟨(.slice 3 (.int .i64)), f0 d.1⟩]) nilO)
def O_impl_EntryInts : Orac := OP_impl_EntryInts N.impl_LabelInts G.impl_LabelInts
theorem ok_impl_EntryInts : OracOk Try.prog sigs O_impl_EntryInts := (orcX_ok rfl rfl (fun d g => said_impl_LabelInts d.1 g) nilO_ok)
def A_impl_EntryInts : Ann := fun b => cond (Nat.beq b 0) ⟨[(3, true), (19, false), (20, false), (21, false)], []⟩ (⟨[], []⟩)
def S_impl_EntryInts_0 (v0_0 : (List ByteArray)) (v0_1 : Int) (v0_2 : Int) (v0_3 : (List Int)) : St := [(kT 3, some (.tv (.v (.slice 3 (.int .i64)) [] (.own 24)))), (kT 19, some (.tv (.v (.slice 9 .str) v0_0 .no))), (kT 20, some (.tv (.v (.int .i64) v0_1 .no))), (kT 21, some (.tv (.v (.int .i64) v0_2 .no))), (kR 24, some (.row 3 (.int .i64) v0_3))]
noncomputable def L_P_impl_EntryInts_0 (f0 : ByteArray → (List Int)) (g0 : ByteArray → Bool) (n m : Nat) : St → Option Ret := loopOf tab sigs (OP_impl_EntryInts f0 g0) A_impl_EntryInts Try.f89 [((.slice 3 (.int .i64)), (.own 0))] n (fun _ => 0) 0 m
theorem bP_impl_EntryInts_0 (f0 : ByteArray → (List Int)) (g0 : ByteArray → Bool) (n m : Nat) (v0_0 : (List ByteArray)) (v0_1 : Int) (v0_2 : Int) (v0_3 : (List Int)) : L_P_impl_EntryInts_0 f0 g0 n (m + 1) (S_impl_EntryInts_0 v0_0 v0_1 v0_2 v0_3) = impl_EntryInts_P_L0 f0 g0 (fun r0 => some [⟨(.slice 3 (.int .i64)), r0⟩]) (fun v0_0 v0_1 v0_2 v0_3 => L_P_impl_EntryInts_0 f0 g0 n m (S_impl_EntryInts_0 v0_0 v0_1 v0_2 v0_3)) v0_0 v0_1 v0_2 v0_3 := by kernel_rfl
theorem aP_impl_EntryInts (f0 : ByteArray → (List Int)) (g0 : ByteArray → Bool) (n : Nat) (a0 : TEntry) : absF tab sigs (OP_impl_EntryInts f0 g0) A_impl_EntryInts Try.f89 [((.slice 3 (.int .i64)), (.own 0))] n [.val TyEntry a0] = impl_EntryInts_P f0 g0 (fun r0 => some [⟨(.slice 3 (.int .i64)), r0⟩]) (fun v0_0 v0_1 v0_2 v0_3 => L_P_impl_EntryInts_0 f0 g0 n n (S_impl_EntryInts_0 v0_0 v0_1 v0_2 v0_3)) a0 := by kernel_rfl
theorem said_impl_EntryInts (a0 : TEntry) (g : G.impl_EntryInts a0 = true) : Said Try.prog sigs_89 89 [.val TyEntry a0] [⟨(.slice 3 (.int .i64)), N.impl_EntryInts a0⟩] := said_len (T := tab) (A := A_impl_EntryInts) tabOk ok_impl_EntryInts tabOk.follows Try.func89 (by kernel_rfl) (by kernel_rfl) (fun hl => let ⟨n, hn⟩ := impl_EntryInts_ok (ρ := Ret) (fun r0 => some [⟨(.slice 3 (.int .i64)), r0⟩]) a0 hl.1 g; ⟨n, (aP_impl_EntryInts N.impl_LabelInts G.impl_LabelInts n a0).trans (hn n (Nat.le_refl n) (fun  m v0_0 v0_1 v0_2 v0_3 => L_P_impl_EntryInts_0 N.impl_LabelInts G.impl_LabelInts n  m (S_impl_EntryInts_0 v0_0 v0_1 v0_2 v0_3)) (fun  m v0_0 v0_1 v0_2 v0_3 => bP_impl_EntryInts_0 N.impl_LabelInts G.impl_LabelInts n  m v0_0 v0_1 v0_2 v0_3))⟩)
abbrev N.impl_InRange (n lo hi : Int) : Bool := inR n lo hi
def impl_InRange {ρ : Type} (k : Bool → Option ρ) (a0 : Int) (a1 : Int) (a2 : Int) : Option ρ := (cond (decide (a1 ≤ a0)) (k (decide (a0 ≤ a2))) (k false))
theorem impl_InRange_ok {ρ : Type} (k : Bool → Option ρ) (a0 : Int) (a1 : Int) (a2 : Int) : impl_InRange k  a0 a1 a2 = k (N.impl_InRange a0 a1 a2) := by
  simp only [impl_InRange, inR]
  cases decide (a1 ≤ a0) <;> rfl
def O_impl_InRange : Orac := nilO
theorem ok_impl_InRange : OracOk Try.prog sigs O_impl_InRange := nilO_ok
def A_impl_InRange : Ann := fun b => ⟨[], []⟩
theorem a_impl_InRange (n : Nat) (a0 : Int) (a1 : Int) (a2 : Int) : absF tab sigs O_impl_InRange A_impl_InRange Try.f43 [(.bool, .no)] n [.val (.int .i64) a0, .val (.int .i64) a1, .val (.int .i64) a2] = impl_InRange (fun r0 => some [⟨.bool, r0⟩])  a0 a1 a2 := by kernel_rfl
theorem said_impl_InRange (a0 : Int) (a1 : Int) (a2 : Int) : Said Try.prog sigs_43 43 [.val (.int .i64) a0, .val (.int .i64) a1, .val (.int .i64) a2] [⟨.bool, N.impl_InRange a0 a1 a2⟩] := said_len (T := tab) (A := A_impl_InRange) tabOk ok_impl_InRange tabOk.follows Try.func43 (by kernel_rfl) (by kernel_rfl) (fun hl => ⟨0, (a_impl_InRange 0 a0 a1 a2).trans (impl_InRange_ok (ρ := Ret) (fun r0 => some [⟨.bool, r0⟩]) a0 a1 a2)⟩)
abbrev N.impl_Mod (n m : Int) : Int := modM n m
def impl_Mod {ρ : Type} (k : Int → Option ρ) (a0 : Int) (a1 : Int) : Option ρ := (cond (!(N.impl_InRange a1 (1 : Int) (1000000000000 : Int))) (k (0 : Int)) (cond (!(decide (a1 = 0))) (cond (!(decide (a1 = 0))) (k (Int.tmod (IntKind.wrap .i64 ((Int.tmod a0 a1) + a1)) a1)) none) none))
theorem impl_Mod_ok {ρ : Type} (k : Int → Option ρ) (a0 : Int) (a1 : Int) : impl_Mod k  a0 a1 = k (N.impl_Mod a0 a1) := by
  simp only [impl_Mod, N.impl_InRange, modM]
  cases h : inR a1 1 1000000000000
  · rfl
  · have h1 : 1 ≤ a1 := by
      unfold inR at h
      simp only [Bool.and_eq_true, decide_eq_true_eq] at h
      exact h.1
    have h2 : decide (a1 = 0) = false := by simp; omega
    simp [h2]
def OP_impl_Mod (f0 : Int → Int → Int → Bool) : Orac := (orcX 43 [.val (.int .i64), .val (.int .i64), .val (.int .i64)] (fun d => true) (fun d => [⟨.bool, f0 d.1 d.2.1 d.2.2.1⟩]) nilO)
def O_impl_Mod : Orac := OP_impl_Mod N.impl_InRange
def impl_Mod_P {ρ : Type} (f0 : Int → Int → Int → Bool) (k : Int → Option ρ) (a0 : Int) (a1 : Int) : Option ρ := (cond (!(f0 a1 (1 : Int) (1000000000000 : Int))) (k (0 : Int)) (cond (!(decide (a1 = 0))) (cond (!(decide (a1 = 0))) (k (Int.tmod (IntKind.wrap .i64 ((Int.tmod a0 a1) + a1)) a1)) none) none))
theorem ok_impl_Mod : OracOk Try.prog sigs O_impl_Mod := (orcX_ok rfl rfl (fun d g => said_impl_InRange d.1 d.2.1 d.2.2.1) nilO_ok)
def A_impl_Mod : Ann := fun b => ⟨[], []⟩
theorem aP_impl_Mod (f0 : Int → Int → Int → Bool) (n : Nat) (a0 : Int) (a1 : Int) : absF tab sigs (OP_impl_Mod f0) A_impl_Mod Try.f105 [((.int .i64), .no)] n [.val (.int .i64) a0, .val (.int .i64) a1] = impl_Mod_P f0 (fun r0 => some [⟨(.int .i64), r0⟩])  a0 a1 := by kernel_rfl
theorem said_impl_Mod (a0 : Int) (a1 : Int) : Said Try.prog sigs_105 105 [.val (.int .i64) a0, .val (.int .i64) a1] [⟨(.int .i64), N.impl_Mod a0 a1⟩] := said_len (T := tab) (A := A_impl_Mod) tabOk ok_impl_Mod tabOk.follows Try.func105 (by kernel_rfl) (by kernel_rfl) (fun hl => ⟨0, (aP_impl_Mod N.impl_InRange 0 a0 a1).trans (impl_Mod_ok (ρ := Ret) (fun r0 => some [⟨(.int .i64), r0⟩]) a0 a1)⟩)
abbrev N.impl_Hash (l : List Int) : Int := hash l
def impl_Hash_P_L0 {ρ : Type} (f0 : Int → Int → Int) (k : Int → Option ρ) (L0 : Int → (List Int) → Int → Int → Option ρ) (v0_0 : Int) (v0_1 : (List Int)) (v0_2 : Int) (v0_3 : Int) : Option ρ := (cond (decide (v0_3 < v0_2)) (cond (inRange v0_3 (List.length v0_1)) (L0 (Int.tmod (IntKind.wrap .i64 ((IntKind.wrap .i64 ((IntKind.wrap .i64 (v0_0 * (1000003 : Int))) + (f0 (List.getD v0_1 (Int.toNat v0_3) (0 : Int)) (2147483647 : Int)))) + (13 : Int))) (2147483647 : Int)) v0_1 v0_2 (IntKind.wrap .i64 (v0_3 + (1 : Int)))) none) (k v0_0))
def impl_Hash_P {ρ : Type} (f0 : Int → Int → Int) (k : Int → Option ρ) (L0 : Int → (List Int) → Int → Int → Option ρ) (a0 : (List Int)) : Option ρ := (L0 (11 : Int) a0 (List.length a0 : Int) (0 : Int))
def impl_Hash_L0 {ρ : Type} (k : Int → Option ρ) (L0 : Int → (List Int) → Int → Int → Option ρ) (v0_0 : Int) (v0_1 : (List Int)) (v0_2 : Int) (v0_3 : Int) : Option ρ := impl_Hash_P_L0 N.impl_Mod k L0 v0_0 v0_1 v0_2 v0_3
def impl_Hash {ρ : Type} (k : Int → Option ρ) (L0 : Int → (List Int) → Int → Int → Option ρ) (a0 : (List Int)) : Option ρ := impl_Hash_P N.impl_Mod k L0 a0
theorem impl_Hash_ok {ρ : Type} (k : Int → Option ρ) (a0 : (List Int)) (l_a0 : lnL (fun _ => True) a0) : ∃ n0, ∀ n, n0 ≤ n → ∀ (L0 : Nat → Int → (List Int) → Int → Int → Option ρ) (h0 : ∀ ( m : Nat) (v0_0 : Int) (v0_1 : (List Int)) (v0_2 : Int) (v0_3 : Int), L0 (m + 1) v0_0 v0_1 v0_2 v0_3 = impl_Hash_L0 k (L0 m) v0_0 v0_1 v0_2 v0_3), impl_Hash k (L0 n) a0 = k (N.impl_Hash a0) := by
  refine ⟨a0.length + 1, fun n hn L0 h0 => ?_⟩
  refine raw_foldl (a := a0) 0 hashStep (k := k) (L := fun m i s => L0 m s a0 (a0.length : Int) i) (R := fun i s c => impl_Hash_L0 k (fun s _ _ i => c i s) s a0 (a0.length : Int) i) (fun m i s => h0 m s a0 (a0.length : Int) i) (fun _ _ => True) (fun j s c hj _ => ?_) (fun _ _ _ _ => trivial) (fun s c => ?_) hn trivial
  · have : j < big := by have := l_a0.1; omega
    simp [impl_Hash_L0, impl_Hash_P_L0, lt_nat, inRange_nat, hj, wrap_succ this, hashStep]
  · simp [impl_Hash_L0, impl_Hash_P_L0]
def OP_impl_Hash (f0 : Int → Int → Int) : Orac := (orcX 105 [.val (.int .i64), .val (.int .i64)] (fun d => true) (fun d => [⟨(.int .i64), f0 d.1 d.2.1⟩]) nilO)
def O_impl_Hash : Orac := OP_impl_Hash N.impl_Mod
theorem ok_impl_Hash : OracOk Try.prog sigs O_impl_Hash := (orcX_ok rfl rfl (fun d g => said_impl_Mod d.1 d.2.1) nilO_ok)
def A_impl_Hash : Ann := fun b => cond (Nat.beq b 0) ⟨[(3, false), (6, false), (7, false), (8, false)], []⟩ (⟨[], []⟩)
def S_impl_Hash_0 (v0_0 : Int) (v0_1 : (List Int)) (v0_2 : Int) (v0_3 : Int) : St := [(kT 3, some (.tv (.v (.int .i64) v0_0 .no))), (kT 6, some (.tv (.v (.slice 3 (.int .i64)) v0_1 .no))), (kT 7, some (.tv (.v (.int .i64) v0_2 .no))), (kT 8, some (.tv (.v (.int .i64) v0_3 .no)))]
noncomputable def L_P_impl_Hash_0 (f0 : Int → Int → Int) (n m : Nat) : St → Option Ret := loopOf tab sigs (OP_impl_Hash f0) A_impl_Hash Try.f79 [((.int .i64), .no)] n (fun _ => 0) 0 m
theorem bP_impl_Hash_0 (f0 : Int → Int → Int) (n m : Nat) (v0_0 : Int) (v0_1 : (List Int)) (v0_2 : Int) (v0_3 : Int) : L_P_impl_Hash_0 f0 n (m + 1) (S_impl_Hash_0 v0_0 v0_1 v0_2 v0_3) = impl_Hash_P_L0 f0 (fun r0 => some [⟨(.int .i64), r0⟩]) (fun v0_0 v0_1 v0_2 v0_3 => L_P_impl_Hash_0 f0 n m (S_impl_Hash_0 v0_0 v0_1 v0_2 v0_3)) v0_0 v0_1 v0_2 v0_3 := by kernel_rfl
theorem aP_impl_Hash (f0 : Int → Int → Int) (n : Nat) (a0 : (List Int)) : absF tab sigs (OP_impl_Hash f0) A_impl_Hash Try.f79 [((.int .i64), .no)] n [.val (.slice 3 (.int .i64)) a0] = impl_Hash_P f0 (fun r0 => some [⟨(.int .i64), r0⟩]) (fun v0_0 v0_1 v0_2 v0_3 => L_P_impl_Hash_0 f0 n n (S_impl_Hash_0 v0_0 v0_1 v0_2 v0_3)) a0 := by kernel_rfl
theorem said_impl_Hash (a0 : (List Int)) : Said Try.prog sigs_79 79 [.val (.slice 3 (.int .i64)) a0] [⟨(.int .i64), N.impl_Hash a0⟩] := said_len (T := tab) (A := A_impl_Hash) tabOk ok_impl_Hash tabOk.follows Try.func79 (by kernel_rfl) (by kernel_rfl) (fun hl => let ⟨n, hn⟩ := impl_Hash_ok (ρ := Ret) (fun r0 => some [⟨(.int .i64), r0⟩]) a0 hl.1; ⟨n, (aP_impl_Hash N.impl_Mod n a0).trans (hn n (Nat.le_refl n) (fun  m v0_0 v0_1 v0_2 v0_3 => L_P_impl_Hash_0 N.impl_Mod n  m (S_impl_Hash_0 v0_0 v0_1 v0_2 v0_3)) (fun  m v0_0 v0_1 v0_2 v0_3 => bP_impl_Hash_0 N.impl_Mod n  m v0_0 v0_1 v0_2 v0_3))⟩)
abbrev G.impl_LeafOf (e : TEntry) : Bool := decide (wE e ≤ 1048576)
abbrev N.impl_LeafOf (e : TEntry) : Int := leafOf e
def impl_LeafOf {ρ : Type} (k : Int → Option ρ) (a0 : TEntry) : Option ρ := (cond (G.impl_EntryInts a0) (cond (fit (List.length [(227 : Int)]) (List.length (N.impl_EntryInts a0))) (k (N.impl_Hash (List.append [(227 : Int)] (N.impl_EntryInts a0)))) none) none)
theorem impl_LeafOf_ok {ρ : Type} (k : Int → Option ρ) (a0 : TEntry) (l_a0 : (True ∧ (True ∧ (True ∧ lnL (fun _ => True) a0.2.2.2)))) (g : G.impl_LeafOf a0 = true) : impl_LeafOf k  a0 = k (N.impl_LeafOf a0) := by
  unfold G.impl_LeafOf at g
  have hw : wE a0 ≤ 1048576 := of_decide_eq_true g
  have f1 : fit 1 (entryInts a0).length = true := fit_of (by rw [entryInts_len]; omega)
  show cond (decide (wE a0 ≤ 1048576)) (cond (fit 1 (entryInts a0).length) _ none) none = _
  rw [g, f1]
  rfl
def OP_impl_LeafOf (f0 : TEntry → (List Int)) (g0 : TEntry → Bool) (f1 : (List Int) → Int) : Orac := (orcX 79 [.val (.slice 3 (.int .i64))] (fun d => true) (fun d => [⟨(.int .i64), f1 d.1⟩]) (orcX 89 [.val TyEntry] (fun d => g0 d.1) (fun d => [⟨(.slice 3 (.int .i64)), f0 d.1⟩]) nilO))
def O_impl_LeafOf : Orac := OP_impl_LeafOf N.impl_EntryInts G.impl_EntryInts N.impl_Hash
def impl_LeafOf_P {ρ : Type} (f0 : TEntry → (List Int)) (g0 : TEntry → Bool) (f1 : (List Int) → Int) (k : Int → Option ρ) (a0 : TEntry) : Option ρ := (cond (g0 a0) (cond (fit (List.length [(227 : Int)]) (List.length (f0 a0))) (k (f1 (List.append [(227 : Int)] (f0 a0)))) none) none)
theorem ok_impl_LeafOf : OracOk Try.prog sigs O_impl_LeafOf := (orcX_ok rfl rfl (fun d g => said_impl_Hash d.1) (orcX_ok rfl rfl (fun d g => said_impl_EntryInts d.1 g) nilO_ok))
def A_impl_LeafOf : Ann := fun b => ⟨[], []⟩
theorem aP_impl_LeafOf (f0 : TEntry → (List Int)) (g0 : TEntry → Bool) (f1 : (List Int) → Int) (n : Nat) (a0 : TEntry) : absF tab sigs (OP_impl_LeafOf f0 g0 f1) A_impl_LeafOf Try.f63 [((.int .i64), .no)] n [.val TyEntry a0] = impl_LeafOf_P f0 g0 f1 (fun r0 => some [⟨(.int .i64), r0⟩])  a0 := by kernel_rfl
theorem said_impl_LeafOf (a0 : TEntry) (g : G.impl_LeafOf a0 = true) : Said Try.prog sigs_63 63 [.val TyEntry a0] [⟨(.int .i64), N.impl_LeafOf a0⟩] := said_len (T := tab) (A := A_impl_LeafOf) tabOk ok_impl_LeafOf tabOk.follows Try.func63 (by kernel_rfl) (by kernel_rfl) (fun hl => ⟨0, (aP_impl_LeafOf N.impl_EntryInts G.impl_EntryInts N.impl_Hash 0 a0).trans (impl_LeafOf_ok (ρ := Ret) (fun r0 => some [⟨(.int .i64), r0⟩]) a0 hl.1 g)⟩)
abbrev G.impl_LeavesOf (l : List TEntry) : Bool := decide (wEs l ≤ 1048576)
abbrev N.impl_LeavesOf (l : List TEntry) : List Int := l.map leafOf
def impl_LeavesOf_P_L0 {ρ : Type} (f0 : TEntry → Int) (g0 : TEntry → Bool) (k : (List Int) → Option ρ) (L0 : (List TEntry) → Int → Int → (List Int) → Option ρ) (v0_0 : (List TEntry)) (v0_1 : Int) (v0_2 : Int) (v0_3 : (List Int)) : Option ρ := (cond (decide (v0_2 < v0_1)) (cond (inRange v0_2 (List.length v0_0)) (cond (g0 (List.getD v0_0 (Int.toNat v0_2) (ByteArray.empty, ((0 : Int), ((0 : Int), []))))) (cond (fit (List.length v0_3) (List.length [(f0 (List.getD v0_0 (Int.toNat v0_2) (ByteArray.empty, ((0 : Int), ((0 : Int), [])))))])) (L0 v0_0 v0_1 (IntKind.wrap .i64 (v0_2 + (1 : Int))) (List.append v0_3 [(f0 (List.getD v0_0 (Int.toNat v0_2) (ByteArray.empty, ((0 : Int), ((0 : Int), [])))))])) none) none) none) (k v0_3))
def impl_LeavesOf_P {ρ : Type} (f0 : TEntry → Int) (g0 : TEntry → Bool) (k : (List Int) → Option ρ) (L0 : (List TEntry) → Int → Int → (List Int) → Option ρ) (a0 : (List TEntry)) : Option ρ := (L0 a0 (List.length a0 : Int) (0 : Int) ([] : (List Int)))
def impl_LeavesOf_L0 {ρ : Type} (k : (List Int) → Option ρ) (L0 : (List TEntry) → Int → Int → (List Int) → Option ρ) (v0_0 : (List TEntry)) (v0_1 : Int) (v0_2 : Int) (v0_3 : (List Int)) : Option ρ := impl_LeavesOf_P_L0 N.impl_LeafOf G.impl_LeafOf k L0 v0_0 v0_1 v0_2 v0_3
def impl_LeavesOf {ρ : Type} (k : (List Int) → Option ρ) (L0 : (List TEntry) → Int → Int → (List Int) → Option ρ) (a0 : (List TEntry)) : Option ρ := impl_LeavesOf_P N.impl_LeafOf G.impl_LeafOf k L0 a0
theorem impl_LeavesOf_ok {ρ : Type} (k : (List Int) → Option ρ) (a0 : (List TEntry)) (l_a0 : lnL (fun y => (True ∧ (True ∧ (True ∧ lnL (fun _ => True) y.2.2.2)))) a0) (g : G.impl_LeavesOf a0 = true) : ∃ n0, ∀ n, n0 ≤ n → ∀ (L0 : Nat → (List TEntry) → Int → Int → (List Int) → Option ρ) (h0 : ∀ ( m : Nat) (v0_0 : (List TEntry)) (v0_1 : Int) (v0_2 : Int) (v0_3 : (List Int)), L0 (m + 1) v0_0 v0_1 v0_2 v0_3 = impl_LeavesOf_L0 k (L0 m) v0_0 v0_1 v0_2 v0_3), impl_LeavesOf k (L0 n) a0 = k (N.impl_LeavesOf a0) := by
  unfold G.impl_LeavesOf at g
  have hw : wEs a0 ≤ 1048576 := of_decide_eq_true g
  have hl : a0.length ≤ 1048576 := by unfold wEs at hw; omega
  refine ⟨a0.length + 1, fun n hn L0 h0 => ?_⟩
  refine raw_map (a := a0) (ByteArray.empty, (0, (0, []))) leafOf 1048576 (k := k) (L := fun m i out => L0 m a0 (a0.length : Int) i out) (R := fun i out c => impl_LeavesOf_L0 k (fun _ _ i out => c i out) a0 (a0.length : Int) i out) (fun m i s => h0 m a0 (a0.length : Int) i s) (fun j out c hj ho => ?_) (fun out c => ?_) hl hn
  · have hm := wEs_mem (getD_mem (d := (ByteArray.empty, (0, (0, [])))) hj)
    have g2 : decide (wE (a0.getD j (ByteArray.empty, (0, (0, [])))) ≤ 1048576) = true := by simp only [decide_eq_true_eq]; omega
    have e3 : fit out.length 1 = true := fit_of (by omega)
    simp only [impl_LeavesOf_L0, impl_LeavesOf_P_L0, lt_nat, inRange_nat, decide_eq_true hj, cond_true, Int.toNat_natCast, G.impl_LeafOf, g2, List.length_singleton, e3, wrap_succ (j := j) (by unfold big; omega), List.append_eq]
  · simp [impl_LeavesOf_L0, impl_LeavesOf_P_L0]
def OP_impl_LeavesOf (f0 : TEntry → Int) (g0 : TEntry → Bool) : Orac := (orcX 63 [.val TyEntry] (fun d => g0 d.1) (fun d => [⟨(.int .i64), f0 d.1⟩]) nilO)
def O_impl_LeavesOf : Orac := OP_impl_LeavesOf N.impl_LeafOf G.impl_LeafOf
theorem ok_impl_LeavesOf : OracOk Try.prog sigs O_impl_LeavesOf := (orcX_ok rfl rfl (fun d g => said_impl_LeafOf d.1 g) nilO_ok)
def A_impl_LeavesOf : Ann := fun b => cond (Nat.beq b 0) ⟨[(3, true), (7, false), (8, false), (9, false)], []⟩ (⟨[], []⟩)
def S_impl_LeavesOf_0 (v0_0 : (List TEntry)) (v0_1 : Int) (v0_2 : Int) (v0_3 : (List Int)) : St := [(kT 3, some (.tv (.v (.slice 3 (.int .i64)) [] (.own 24)))), (kT 7, some (.tv (.v (.slice 48 TyEntry) v0_0 .no))), (kT 8, some (.tv (.v (.int .i64) v0_1 .no))), (kT 9, some (.tv (.v (.int .i64) v0_2 .no))), (kR 24, some (.row 3 (.int .i64) v0_3))]
noncomputable def L_P_impl_LeavesOf_0 (f0 : TEntry → Int) (g0 : TEntry → Bool) (n m : Nat) : St → Option Ret := loopOf tab sigs (OP_impl_LeavesOf f0 g0) A_impl_LeavesOf Try.f53 [((.slice 3 (.int .i64)), (.own 0))] n (fun _ => 0) 0 m
theorem bP_impl_LeavesOf_0 (f0 : TEntry → Int) (g0 : TEntry → Bool) (n m : Nat) (v0_0 : (List TEntry)) (v0_1 : Int) (v0_2 : Int) (v0_3 : (List Int)) : L_P_impl_LeavesOf_0 f0 g0 n (m + 1) (S_impl_LeavesOf_0 v0_0 v0_1 v0_2 v0_3) = impl_LeavesOf_P_L0 f0 g0 (fun r0 => some [⟨(.slice 3 (.int .i64)), r0⟩]) (fun v0_0 v0_1 v0_2 v0_3 => L_P_impl_LeavesOf_0 f0 g0 n m (S_impl_LeavesOf_0 v0_0 v0_1 v0_2 v0_3)) v0_0 v0_1 v0_2 v0_3 := by kernel_rfl
theorem aP_impl_LeavesOf (f0 : TEntry → Int) (g0 : TEntry → Bool) (n : Nat) (a0 : (List TEntry)) : absF tab sigs (OP_impl_LeavesOf f0 g0) A_impl_LeavesOf Try.f53 [((.slice 3 (.int .i64)), (.own 0))] n [.val (.slice 48 TyEntry) a0] = impl_LeavesOf_P f0 g0 (fun r0 => some [⟨(.slice 3 (.int .i64)), r0⟩]) (fun v0_0 v0_1 v0_2 v0_3 => L_P_impl_LeavesOf_0 f0 g0 n n (S_impl_LeavesOf_0 v0_0 v0_1 v0_2 v0_3)) a0 := by kernel_rfl
theorem said_impl_LeavesOf (a0 : (List TEntry)) (g : G.impl_LeavesOf a0 = true) : Said Try.prog sigs_53 53 [.val (.slice 48 TyEntry) a0] [⟨(.slice 3 (.int .i64)), N.impl_LeavesOf a0⟩] := said_len (T := tab) (A := A_impl_LeavesOf) tabOk ok_impl_LeavesOf tabOk.follows Try.func53 (by kernel_rfl) (by kernel_rfl) (fun hl => let ⟨n, hn⟩ := impl_LeavesOf_ok (ρ := Ret) (fun r0 => some [⟨(.slice 3 (.int .i64)), r0⟩]) a0 hl.1 g; ⟨n, (aP_impl_LeavesOf N.impl_LeafOf G.impl_LeafOf n a0).trans (hn n (Nat.le_refl n) (fun  m v0_0 v0_1 v0_2 v0_3 => L_P_impl_LeavesOf_0 N.impl_LeafOf G.impl_LeafOf n  m (S_impl_LeavesOf_0 v0_0 v0_1 v0_2 v0_3)) (fun  m v0_0 v0_1 v0_2 v0_3 => bP_impl_LeavesOf_0 N.impl_LeafOf G.impl_LeafOf n  m v0_0 v0_1 v0_2 v0_3))⟩)
abbrev N.spec_Mod (n m : Int) : Int := modM n m
def spec_Mod {ρ : Type} (k : Int → Option ρ) (a0 : Int) (a1 : Int) : Option ρ := (cond (!(N.spec_l1In a1 (1 : Int) (1000000000000 : Int))) (k (0 : Int)) (cond (!(decide (a1 = 0))) (cond (!(decide (a1 = 0))) (k (Int.tmod (IntKind.wrap .i64 ((Int.tmod a0 a1) + a1)) a1)) none) none))
theorem spec_Mod_ok {ρ : Type} (k : Int → Option ρ) (a0 : Int) (a1 : Int) : spec_Mod k  a0 a1 = k (N.spec_Mod a0 a1) := by
  simp only [spec_Mod, N.spec_l1In, modM]
  cases h : inR a1 1 1000000000000
  · rfl
  · have h1 : 1 ≤ a1 := by
      unfold inR at h
      simp only [Bool.and_eq_true, decide_eq_true_eq] at h
      exact h.1
    have h2 : decide (a1 = 0) = false := by simp; omega
    simp [h2]
def OP_spec_Mod (f0 : Int → Int → Int → Bool) : Orac := (orcX 45 [.val (.int .i64), .val (.int .i64), .val (.int .i64)] (fun d => true) (fun d => [⟨.bool, f0 d.1 d.2.1 d.2.2.1⟩]) nilO)
def O_spec_Mod : Orac := OP_spec_Mod N.spec_l1In
def spec_Mod_P {ρ : Type} (f0 : Int → Int → Int → Bool) (k : Int → Option ρ) (a0 : Int) (a1 : Int) : Option ρ := (cond (!(f0 a1 (1 : Int) (1000000000000 : Int))) (k (0 : Int)) (cond (!(decide (a1 = 0))) (cond (!(decide (a1 = 0))) (k (Int.tmod (IntKind.wrap .i64 ((Int.tmod a0 a1) + a1)) a1)) none) none))
theorem ok_spec_Mod : OracOk Try.prog sigs O_spec_Mod := (orcX_ok rfl rfl (fun d g => said_spec_l1In d.1 d.2.1 d.2.2.1) nilO_ok)
def A_spec_Mod : Ann := fun b => ⟨[], []⟩
theorem aP_spec_Mod (f0 : Int → Int → Int → Bool) (n : Nat) (a0 : Int) (a1 : Int) : absF tab sigs (OP_spec_Mod f0) A_spec_Mod Try.f80 [((.int .i64), .no)] n [.val (.int .i64) a0, .val (.int .i64) a1] = spec_Mod_P f0 (fun r0 => some [⟨(.int .i64), r0⟩])  a0 a1 := by kernel_rfl
theorem said_spec_Mod (a0 : Int) (a1 : Int) : Said Try.prog sigs_80 80 [.val (.int .i64) a0, .val (.int .i64) a1] [⟨(.int .i64), N.spec_Mod a0 a1⟩] := said_len (T := tab) (A := A_spec_Mod) tabOk ok_spec_Mod tabOk.follows Try.func80 (by kernel_rfl) (by kernel_rfl) (fun hl => ⟨0, (aP_spec_Mod N.spec_l1In 0 a0 a1).trans (spec_Mod_ok (ρ := Ret) (fun r0 => some [⟨(.int .i64), r0⟩]) a0 a1)⟩)
abbrev N.spec_Hash (l : List Int) : Int := hash l
def spec_Hash_P_L0 {ρ : Type} (f0 : Int → Int → Int) (k : Int → Option ρ) (L0 : (List Int) → Int → Int → Option ρ) (v0_0 : (List Int)) (v0_1 : Int) (v0_2 : Int) : Option ρ := (cond (decide (v0_2 < (List.length v0_0 : Int))) (cond (inRange v0_2 (List.length v0_0)) (L0 v0_0 (Int.tmod (IntKind.wrap .i64 ((IntKind.wrap .i64 ((IntKind.wrap .i64 (v0_1 * (1000003 : Int))) + (f0 (List.getD v0_0 (Int.toNat v0_2) (0 : Int)) (2147483647 : Int)))) + (13 : Int))) (2147483647 : Int)) (IntKind.wrap .i64 (v0_2 + (1 : Int)))) none) (k v0_1))
def spec_Hash_P {ρ : Type} (f0 : Int → Int → Int) (k : Int → Option ρ) (L0 : (List Int) → Int → Int → Option ρ) (a0 : (List Int)) : Option ρ := (L0 a0 (11 : Int) (0 : Int))
def spec_Hash_L0 {ρ : Type} (k : Int → Option ρ) (L0 : (List Int) → Int → Int → Option ρ) (v0_0 : (List Int)) (v0_1 : Int) (v0_2 : Int) : Option ρ := spec_Hash_P_L0 N.spec_Mod k L0 v0_0 v0_1 v0_2
def spec_Hash {ρ : Type} (k : Int → Option ρ) (L0 : (List Int) → Int → Int → Option ρ) (a0 : (List Int)) : Option ρ := spec_Hash_P N.spec_Mod k L0 a0
theorem spec_Hash_ok {ρ : Type} (k : Int → Option ρ) (a0 : (List Int)) (l_a0 : lnL (fun _ => True) a0) : ∃ n0, ∀ n, n0 ≤ n → ∀ (L0 : Nat → (List Int) → Int → Int → Option ρ) (h0 : ∀ ( m : Nat) (v0_0 : (List Int)) (v0_1 : Int) (v0_2 : Int), L0 (m + 1) v0_0 v0_1 v0_2 = spec_Hash_L0 k (L0 m) v0_0 v0_1 v0_2), spec_Hash k (L0 n) a0 = k (N.spec_Hash a0) := by
  refine ⟨a0.length + 1, fun n hn L0 h0 => ?_⟩
  refine raw_foldl (a := a0) 0 hashStep (k := k) (L := fun m i s => L0 m a0 s i) (R := fun i s c => spec_Hash_L0 k (fun _ s i => c i s) a0 s i) (fun m i s => h0 m a0 s i) (fun _ _ => True) (fun j s c hj _ => ?_) (fun _ _ _ _ => trivial) (fun s c => ?_) hn trivial
  · have : j < big := by have := l_a0.1; omega
    simp [spec_Hash_L0, spec_Hash_P_L0, lt_nat, inRange_nat, hj, wrap_succ this, hashStep]
  · simp [spec_Hash_L0, spec_Hash_P_L0]
def OP_spec_Hash (f0 : Int → Int → Int) : Orac := (orcX 80 [.val (.int .i64), .val (.int .i64)] (fun d => true) (fun d => [⟨(.int .i64), f0 d.1 d.2.1⟩]) nilO)
def O_spec_Hash : Orac := OP_spec_Hash N.spec_Mod
theorem ok_spec_Hash : OracOk Try.prog sigs O_spec_Hash := (orcX_ok rfl rfl (fun d g => said_spec_Mod d.1 d.2.1) nilO_ok)
def A_spec_Hash : Ann := fun b => cond (Nat.beq b 0) ⟨[(0, false), (3, false), (4, false)], []⟩ (⟨[], []⟩)
def S_spec_Hash_0 (v0_0 : (List Int)) (v0_1 : Int) (v0_2 : Int) : St := [(kT 0, some (.tv (.v (.slice 3 (.int .i64)) v0_0 .no))), (kT 3, some (.tv (.v (.int .i64) v0_1 .no))), (kT 4, some (.tv (.v (.int .i64) v0_2 .no)))]
noncomputable def L_P_spec_Hash_0 (f0 : Int → Int → Int) (n m : Nat) : St → Option Ret := loopOf tab sigs (OP_spec_Hash f0) A_spec_Hash Try.f48 [((.int .i64), .no)] n (fun _ => 0) 0 m
theorem bP_spec_Hash_0 (f0 : Int → Int → Int) (n m : Nat) (v0_0 : (List Int)) (v0_1 : Int) (v0_2 : Int) : L_P_spec_Hash_0 f0 n (m + 1) (S_spec_Hash_0 v0_0 v0_1 v0_2) = spec_Hash_P_L0 f0 (fun r0 => some [⟨(.int .i64), r0⟩]) (fun v0_0 v0_1 v0_2 => L_P_spec_Hash_0 f0 n m (S_spec_Hash_0 v0_0 v0_1 v0_2)) v0_0 v0_1 v0_2 := by kernel_rfl
theorem aP_spec_Hash (f0 : Int → Int → Int) (n : Nat) (a0 : (List Int)) : absF tab sigs (OP_spec_Hash f0) A_spec_Hash Try.f48 [((.int .i64), .no)] n [.val (.slice 3 (.int .i64)) a0] = spec_Hash_P f0 (fun r0 => some [⟨(.int .i64), r0⟩]) (fun v0_0 v0_1 v0_2 => L_P_spec_Hash_0 f0 n n (S_spec_Hash_0 v0_0 v0_1 v0_2)) a0 := by kernel_rfl
theorem said_spec_Hash (a0 : (List Int)) : Said Try.prog sigs_48 48 [.val (.slice 3 (.int .i64)) a0] [⟨(.int .i64), N.spec_Hash a0⟩] := said_len (T := tab) (A := A_spec_Hash) tabOk ok_spec_Hash tabOk.follows Try.func48 (by kernel_rfl) (by kernel_rfl) (fun hl => let ⟨n, hn⟩ := spec_Hash_ok (ρ := Ret) (fun r0 => some [⟨(.int .i64), r0⟩]) a0 hl.1; ⟨n, (aP_spec_Hash N.spec_Mod n a0).trans (hn n (Nat.le_refl n) (fun  m v0_0 v0_1 v0_2 => L_P_spec_Hash_0 N.spec_Mod n  m (S_spec_Hash_0 v0_0 v0_1 v0_2)) (fun  m v0_0 v0_1 v0_2 => bP_spec_Hash_0 N.spec_Mod n  m v0_0 v0_1 v0_2))⟩)
abbrev N.spec_NodeOf (a b : Int) : Int := nodeOf a b
def spec_NodeOf {ρ : Type} (k : Int → Option ρ) (a0 : Int) (a1 : Int) : Option ρ := (k (N.spec_Hash [(229 : Int), a0, a1]))
theorem spec_NodeOf_ok {ρ : Type} (k : Int → Option ρ) (a0 : Int) (a1 : Int) : spec_NodeOf k  a0 a1 = k (N.spec_NodeOf a0 a1) := by
  rfl
def OP_spec_NodeOf (f0 : (List Int) → Int) : Orac := (orcX 48 [.val (.slice 3 (.int .i64))] (fun d => true) (fun d => [⟨(.int .i64), f0 d.1⟩]) nilO)
def O_spec_NodeOf : Orac := OP_spec_NodeOf N.spec_Hash
def spec_NodeOf_P {ρ : Type} (f0 : (List Int) → Int) (k : Int → Option ρ) (a0 : Int) (a1 : Int) : Option ρ := (k (f0 [(229 : Int), a0, a1]))
theorem ok_spec_NodeOf : OracOk Try.prog sigs O_spec_NodeOf := (orcX_ok rfl rfl (fun d g => said_spec_Hash d.1) nilO_ok)
def A_spec_NodeOf : Ann := fun b => ⟨[], []⟩
theorem aP_spec_NodeOf (f0 : (List Int) → Int) (n : Nat) (a0 : Int) (a1 : Int) : absF tab sigs (OP_spec_NodeOf f0) A_spec_NodeOf Try.f50 [((.int .i64), .no)] n [.val (.int .i64) a0, .val (.int .i64) a1] = spec_NodeOf_P f0 (fun r0 => some [⟨(.int .i64), r0⟩])  a0 a1 := by kernel_rfl
theorem said_spec_NodeOf (a0 : Int) (a1 : Int) : Said Try.prog sigs_50 50 [.val (.int .i64) a0, .val (.int .i64) a1] [⟨(.int .i64), N.spec_NodeOf a0 a1⟩] := said_len (T := tab) (A := A_spec_NodeOf) tabOk ok_spec_NodeOf tabOk.follows Try.func50 (by kernel_rfl) (by kernel_rfl) (fun hl => ⟨0, (aP_spec_NodeOf N.spec_Hash 0 a0 a1).trans (spec_NodeOf_ok (ρ := Ret) (fun r0 => some [⟨(.int .i64), r0⟩]) a0 a1)⟩)
abbrev G.spec_l10Up (l : List Int) : Bool := decide (l.length ≤ 1048576)
abbrev N.spec_l10Up (l : List Int) : List Int := up l
def spec_l10Up_P_L0 {ρ : Type} (f0 : Int → Int → Int) (k : (List Int) → Option ρ) (L0 : (List Int) → Int → (List Int) → Option ρ) (v0_0 : (List Int)) (v0_1 : Int) (v0_2 : (List Int)) : Option ρ := (cond (decide (v0_1 < (List.length v0_0 : Int))) (cond (decide ((IntKind.wrap .i64 (v0_1 + (1 : Int))) < (List.length v0_0 : Int))) (cond (inRange v0_1 (List.length v0_0)) (cond (inRange (IntKind.wrap .i64 (v0_1 + (1 : Int))) (List.length v0_0)) (cond (fit (List.length v0_2) (List.length [(f0 (List.getD v0_0 (Int.toNat v0_1) (0 : Int)) (List.getD v0_0 (Int.toNat (IntKind.wrap .i64 (v0_1 + (1 : Int)))) (0 : Int)))])) (L0 v0_0 (IntKind.wrap .i64 (v0_1 + (2 : Int))) (List.append v0_2 [(f0 (List.getD v0_0 (Int.toNat v0_1) (0 : Int)) (List.getD v0_0 (Int.toNat (IntKind.wrap .i64 (v0_1 + (1 : Int)))) (0 : Int)))])) none) none) none) (cond (inRange v0_1 (List.length v0_0)) (cond (fit (List.length v0_2) (List.length [(List.getD v0_0 (Int.toNat v0_1) (0 : Int))])) (L0 v0_0 (IntKind.wrap .i64 (v0_1 + (2 : Int))) (List.append v0_2 [(List.getD v0_0 (Int.toNat v0_1) (0 : Int))])) none) none)) (k v0_2))
def spec_l10Up_P {ρ : Type} (f0 : Int → Int → Int) (k : (List Int) → Option ρ) (L0 : (List Int) → Int → (List Int) → Option ρ) (a0 : (List Int)) : Option ρ := (L0 a0 (0 : Int) ([] : (List Int)))
def spec_l10Up_L0 {ρ : Type} (k : (List Int) → Option ρ) (L0 : (List Int) → Int → (List Int) → Option ρ) (v0_0 : (List Int)) (v0_1 : Int) (v0_2 : (List Int)) : Option ρ := spec_l10Up_P_L0 N.spec_NodeOf k L0 v0_0 v0_1 v0_2
def spec_l10Up {ρ : Type} (k : (List Int) → Option ρ) (L0 : (List Int) → Int → (List Int) → Option ρ) (a0 : (List Int)) : Option ρ := spec_l10Up_P N.spec_NodeOf k L0 a0
theorem spec_l10Up_ok {ρ : Type} (k : (List Int) → Option ρ) (a0 : (List Int)) (l_a0 : lnL (fun _ => True) a0) (g : G.spec_l10Up a0 = true) : ∃ n0, ∀ n, n0 ≤ n → ∀ (L0 : Nat → (List Int) → Int → (List Int) → Option ρ) (h0 : ∀ ( m : Nat) (v0_0 : (List Int)) (v0_1 : Int) (v0_2 : (List Int)), L0 (m + 1) v0_0 v0_1 v0_2 = spec_l10Up_L0 k (L0 m) v0_0 v0_1 v0_2), spec_l10Up k (L0 n) a0 = k (N.spec_l10Up a0) := by
  unfold G.spec_l10Up at g
  have hlen : a0.length ≤ 1048576 := of_decide_eq_true g
  refine ⟨a0.length + 1, fun n hn L0 h0 => ?_⟩
  refine (raw_meas (σ := Int × List Int) (L := fun m s => L0 m a0 s.1 s.2) (R := fun s c => spec_l10Up_L0 k (fun _ i out => c (i, out)) a0 s.1 s.2) (fun m s => h0 m a0 s.1 s.2) (fun s => 0 ≤ s.1 ∧ s.2.length + s.1 ≤ 2097160 ∧ s.1 ≤ a0.length + 1 ∧ s.2.length ≤ s.1) (fun s => a0.length - s.1.toNat) (fun s => k (s.2 ++ up (a0.drop s.1.toNat))) (fun s c hI hc => ?_) n (0, []) ⟨by simp, by simp, by simp; omega, by simp⟩ (by simp; omega)).trans (by simp)
  obtain ⟨j, out⟩ := s
  obtain ⟨hj0, hj1, hj2, hj3⟩ := hI
  dsimp only at hj0 hj1 hj2 hj3 hc ⊢
  obtain ⟨j, rfl⟩ := Int.eq_ofNat_of_zero_le hj0
  rw [Int.toNat_natCast]
  by_cases h : j < a0.length
  · have e1 : IntKind.wrap .i64 ((j : Int) + 2) = ((j + 2 : Nat) : Int) := by rw [wrap_id (by omega) (by omega)]; omega
    have e2 : IntKind.wrap .i64 ((j : Int) + 1) = ((j + 1 : Nat) : Int) := wrap_succ (by unfold big; omega)
    have e3 : fit out.length 1 = true := fit_of (by omega)
    by_cases h2 : j + 1 < a0.length
    · have hd : a0.drop j = a0.getD j 0 :: a0.getD (j + 1) 0 :: a0.drop (j + 2) := by rw [drop_cons 0 h, drop_cons 0 h2]
      have := hc (((j + 2 : Nat) : Int), out ++ [nodeOf (a0.getD j 0) (a0.getD (j + 1) 0)]) ⟨by simp; omega, by simp; omega, by simp; omega, by simp; omega⟩ (by simp; omega)
      dsimp only at this
      rw [Int.toNat_natCast] at this
      simp only [spec_l10Up_L0, spec_l10Up_P_L0, e1, e2, lt_nat, inRange_nat, decide_eq_true h, decide_eq_true h2, cond_true, Int.toNat_natCast, List.length_singleton, Int.natCast_one, e3, List.append_eq, this, hd]
      simp [up]
    · have hd : a0.drop j = [a0.getD j 0] := by rw [drop_cons 0 h, List.drop_of_length_le (by omega)]
      have := hc (((j + 2 : Nat) : Int), out ++ [a0.getD j 0]) ⟨by simp; omega, by simp; omega, by simp; omega, by simp; omega⟩ (by simp; omega)
      dsimp only at this
      rw [Int.toNat_natCast, List.drop_of_length_le (by omega)] at this
      simp only [spec_l10Up_L0, spec_l10Up_P_L0, e1, e2, lt_nat, inRange_nat, decide_eq_true h, decide_eq_false h2, cond_true, cond_false, Int.toNat_natCast, List.length_singleton, Int.natCast_one, e3, List.append_eq, this, hd]
      simp [up]
  · simp [spec_l10Up_L0, spec_l10Up_P_L0, lt_nat, h, List.drop_of_length_le (Nat.not_lt.1 h), up]
def OP_spec_l10Up (f0 : Int → Int → Int) : Orac := (orcX 50 [.val (.int .i64), .val (.int .i64)] (fun d => true) (fun d => [⟨(.int .i64), f0 d.1 d.2.1⟩]) nilO)
def O_spec_l10Up : Orac := OP_spec_l10Up N.spec_NodeOf
theorem ok_spec_l10Up : OracOk Try.prog sigs O_spec_l10Up := (orcX_ok rfl rfl (fun d g => said_spec_NodeOf d.1 d.2.1) nilO_ok)
def A_spec_l10Up : Ann := fun b => cond (Nat.beq b 0) ⟨[(0, false), (3, true), (4, false)], []⟩ (⟨[], []⟩)
def S_spec_l10Up_0 (v0_0 : (List Int)) (v0_1 : Int) (v0_2 : (List Int)) : St := [(kT 0, some (.tv (.v (.slice 3 (.int .i64)) v0_0 .no))), (kT 3, some (.tv (.v (.slice 3 (.int .i64)) [] (.own 24)))), (kT 4, some (.tv (.v (.int .i64) v0_1 .no))), (kR 24, some (.row 3 (.int .i64) v0_2))]
noncomputable def L_P_spec_l10Up_0 (f0 : Int → Int → Int) (n m : Nat) : St → Option Ret := loopOf tab sigs (OP_spec_l10Up f0) A_spec_l10Up Try.f46 [((.slice 3 (.int .i64)), (.own 0))] n (fun _ => 0) 0 m
theorem bP_spec_l10Up_0 (f0 : Int → Int → Int) (n m : Nat) (v0_0 : (List Int)) (v0_1 : Int) (v0_2 : (List Int)) : L_P_spec_l10Up_0 f0 n (m + 1) (S_spec_l10Up_0 v0_0 v0_1 v0_2) = spec_l10Up_P_L0 f0 (fun r0 => some [⟨(.slice 3 (.int .i64)), r0⟩]) (fun v0_0 v0_1 v0_2 => L_P_spec_l10Up_0 f0 n m (S_spec_l10Up_0 v0_0 v0_1 v0_2)) v0_0 v0_1 v0_2 := by kernel_rfl
theorem aP_spec_l10Up (f0 : Int → Int → Int) (n : Nat) (a0 : (List Int)) : absF tab sigs (OP_spec_l10Up f0) A_spec_l10Up Try.f46 [((.slice 3 (.int .i64)), (.own 0))] n [.val (.slice 3 (.int .i64)) a0] = spec_l10Up_P f0 (fun r0 => some [⟨(.slice 3 (.int .i64)), r0⟩]) (fun v0_0 v0_1 v0_2 => L_P_spec_l10Up_0 f0 n n (S_spec_l10Up_0 v0_0 v0_1 v0_2)) a0 := by kernel_rfl
theorem said_spec_l10Up (a0 : (List Int)) (g : G.spec_l10Up a0 = true) : Said Try.prog sigs_46 46 [.val (.slice 3 (.int .i64)) a0] [⟨(.slice 3 (.int .i64)), N.spec_l10Up a0⟩] := said_len (T := tab) (A := A_spec_l10Up) tabOk ok_spec_l10Up tabOk.follows Try.func46 (by kernel_rfl) (by kernel_rfl) (fun hl => let ⟨n, hn⟩ := spec_l10Up_ok (ρ := Ret) (fun r0 => some [⟨(.slice 3 (.int .i64)), r0⟩]) a0 hl.1 g; ⟨n, (aP_spec_l10Up N.spec_NodeOf n a0).trans (hn n (Nat.le_refl n) (fun  m v0_0 v0_1 v0_2 => L_P_spec_l10Up_0 N.spec_NodeOf n  m (S_spec_l10Up_0 v0_0 v0_1 v0_2)) (fun  m v0_0 v0_1 v0_2 => bP_spec_l10Up_0 N.spec_NodeOf n  m v0_0 v0_1 v0_2))⟩)
end Go.Proofs.Ythgbcbnmdioknaa.Ref
