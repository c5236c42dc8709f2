/- Functions of the program: what each computes, and that it does so.
   Conditions: as each theorem states. -/
import Derived.Test.YtcmjbplnjjdcdaaGreatSB0
import Derived.WalkKit
import Derived.Lib.Bytealg
set_option linter.unusedVariables false
set_option linter.unusedSimpArgs false
set_option maxRecDepth 100000
namespace Go.Proofs.YtcmjbplnjjdcdaaGreat.Ref
open Go.RowKit Go.Proofs.YtcmjbplnjjdcdaaGreatW.PrintWords Go.Proofs.YtcmjbplnjjdcdaaGreatW.PrintLast
abbrev G.spec_l1Int (c : TCur) (l : List Int) : Bool := okC c && decide (0 < l.length)
abbrev N.spec_l1Int (c : TCur) (l : List Int) : TCur × Int := intC c l
def spec_l1Int_P {ρ : Type} (f0 : TCur → Int → (TCur × Int)) (g0 : TCur → Int → Bool) (k : TCur → Int → Option ρ) (a0 : TCur) (a1 : (List Int)) : Option ρ := (cond (g0 a0 (List.length a1 : Int)) (cond (inRange (f0 a0 (List.length a1 : Int)).2 (List.length a1)) (k (f0 a0 (List.length a1 : Int)).1 (List.getD a1 (Int.toNat (f0 a0 (List.length a1 : Int)).2) (0 : Int))) none) none)
def spec_l1Int {ρ : Type} (k : TCur → Int → Option ρ) (a0 : TCur) (a1 : (List Int)) : Option ρ := spec_l1Int_P N.spec_l1Below G.spec_l1Below k a0 a1
theorem spec_l1Int_ok {ρ : Type} (k : TCur → Int → Option ρ) (a0 : TCur) (a1 : (List Int)) (l_a0 : (lnL (fun _ => True) a0.1 ∧ (True ∧ True))) (l_a1 : lnL (fun _ => True) a1) (g : G.spec_l1Int a0 a1 = true) : spec_l1Int k  a0 a1 = k (N.spec_l1Int a0 a1).1 (N.spec_l1Int a0 a1).2 := by
  unfold G.spec_l1Int at g
  obtain ⟨g1, g2⟩ := (Bool.and_eq_true _ _).mp g
  simp only [spec_l1Int, spec_l1Int_P, G.spec_l1Below, N.spec_l1Below, g1, pick_in a0 a1 (of_decide_eq_true g2), cond_true]
  rfl
def OP_spec_l1Int (f0 : TCur → Int → (TCur × Int)) (g0 : TCur → Int → Bool) : Orac := (orcX 46 [.lend (.pair (.slice 5 (.int .u8)) (.pair (.int .i64) (.int .i64))) .no, .val (.int .i64)] (fun d => g0 d.1 d.2.1) (fun d => [⟨(.pair (.slice 5 (.int .u8)) (.pair (.int .i64) (.int .i64))), (f0 d.1 d.2.1).1⟩, ⟨(.int .i64), (f0 d.1 d.2.1).2⟩]) nilO)
def O_spec_l1Int : Orac := OP_spec_l1Int N.spec_l1Below G.spec_l1Below
theorem ok_spec_l1Int : OracOk Tryz.prog sigs O_spec_l1Int := (orcB_ok rfl (fun d g => said_spec_l1Below d.1 d.2.1 g) nilO_ok)
def A_spec_l1Int : Ann := fun b => ⟨[], []⟩
theorem aP_spec_l1Int (f0 : TCur → Int → (TCur × Int)) (g0 : TCur → Int → Bool) (n : Nat) (a0 : TCur) (a1 : (List Int)) : absFB tab sigs (OP_spec_l1Int f0 g0) A_spec_l1Int Tryz.f49 [((.int .i64), .no)] n (.pair (.slice 5 (.int .u8)) (.pair (.int .i64) (.int .i64))) a0 [.val (.slice 3 (.int .i64)) a1] = spec_l1Int_P f0 g0 (fun r0 r1 => some [⟨(.pair (.slice 5 (.int .u8)) (.pair (.int .i64) (.int .i64))), r0⟩, ⟨(.int .i64), r1⟩])  a0 a1 := by kernel_rfl
theorem said_spec_l1Int (a0 : TCur) (a1 : (List Int)) (g : G.spec_l1Int a0 a1 = true) : SaidP Tryz.prog sigs_49 49 (.pair (.slice 5 (.int .u8)) (.pair (.int .i64) (.int .i64))) a0 [.val (.slice 3 (.int .i64)) a1] [⟨(.pair (.slice 5 (.int .u8)) (.pair (.int .i64) (.int .i64))), (N.spec_l1Int a0 a1).1⟩, ⟨(.int .i64), (N.spec_l1Int a0 a1).2⟩] := said_lenB (T := tab) (A := A_spec_l1Int) tabOk ok_spec_l1Int tabOk.follows Tryz.func49 (by kernel_rfl) (by kernel_rfl) (fun hl => ⟨0, (aP_spec_l1Int N.spec_l1Below G.spec_l1Below 0 a0 a1).trans (spec_l1Int_ok (ρ := Ret) (fun r0 r1 => some [⟨(.pair (.slice 5 (.int .u8)) (.pair (.int .i64) (.int .i64))), r0⟩, ⟨(.int .i64), r1⟩]) a0 a1 hl.1 hl.2.1 g)⟩)
abbrev G.spec_l1Once (c : TCur) (n : Int) : Bool := okC c
abbrev N.spec_l1Once (c : TCur) (n : Int) : TCur × Bool := onceC c n
def spec_l1Once {ρ : Type} (k : TCur → Bool → Option ρ) (a0 : TCur) (a1 : Int) : Option ρ := (cond (G.spec_l1Below a0 a1) (k (N.spec_l1Below a0 a1).1 ((N.spec_l1Below a0 a1).2 == (0 : Int))) none)
theorem spec_l1Once_ok {ρ : Type} (k : TCur → Bool → Option ρ) (a0 : TCur) (a1 : Int) (l_a0 : (lnL (fun _ => True) a0.1 ∧ (True ∧ True))) (g : G.spec_l1Once a0 a1 = true) : spec_l1Once k  a0 a1 = k (N.spec_l1Once a0 a1).1 (N.spec_l1Once a0 a1).2 := by
  unfold G.spec_l1Once at g
  simp only [spec_l1Once, G.spec_l1Below, N.spec_l1Below, g, cond_true]
  rfl
def OP_spec_l1Once (f0 : TCur → Int → (TCur × Int)) (g0 : TCur → Int → Bool) : Orac := (orcX 46 [.lend (.pair (.slice 5 (.int .u8)) (.pair (.int .i64) (.int .i64))) .no, .val (.int .i64)] (fun d => g0 d.1 d.2.1) (fun d => [⟨(.pair (.slice 5 (.int .u8)) (.pair (.int .i64) (.int .i64))), (f0 d.1 d.2.1).1⟩, ⟨(.int .i64), (f0 d.1 d.2.1).2⟩]) nilO)
def O_spec_l1Once : Orac := OP_spec_l1Once N.spec_l1Below G.spec_l1Below
def spec_l1Once_P {ρ : Type} (f0 : TCur → Int → (TCur × Int)) (g0 : TCur → Int → Bool) (k : TCur → Bool → Option ρ) (a0 : TCur) (a1 : Int) : Option ρ := (cond (g0 a0 a1) (k (f0 a0 a1).1 ((f0 a0 a1).2 == (0 : Int))) none)
theorem ok_spec_l1Once : OracOk Tryz.prog sigs O_spec_l1Once := (orcB_ok rfl (fun d g => said_spec_l1Below d.1 d.2.1 g) nilO_ok)
def A_spec_l1Once : Ann := fun b => ⟨[], []⟩
theorem aP_spec_l1Once (f0 : TCur → Int → (TCur × Int)) (g0 : TCur → Int → Bool) (n : Nat) (a0 : TCur) (a1 : Int) : absFB tab sigs (OP_spec_l1Once f0 g0) A_spec_l1Once Tryz.f71 [(.bool, .no)] n (.pair (.slice 5 (.int .u8)) (.pair (.int .i64) (.int .i64))) a0 [.val (.int .i64) a1] = spec_l1Once_P f0 g0 (fun r0 r1 => some [⟨(.pair (.slice 5 (.int .u8)) (.pair (.int .i64) (.int .i64))), r0⟩, ⟨.bool, r1⟩])  a0 a1 := by kernel_rfl
theorem said_spec_l1Once (a0 : TCur) (a1 : Int) (g : G.spec_l1Once a0 a1 = true) : SaidP Tryz.prog sigs_71 71 (.pair (.slice 5 (.int .u8)) (.pair (.int .i64) (.int .i64))) a0 [.val (.int .i64) a1] [⟨(.pair (.slice 5 (.int .u8)) (.pair (.int .i64) (.int .i64))), (N.spec_l1Once a0 a1).1⟩, ⟨.bool, (N.spec_l1Once a0 a1).2⟩] := said_lenB (T := tab) (A := A_spec_l1Once) tabOk ok_spec_l1Once tabOk.follows Tryz.func71 (by kernel_rfl) (by kernel_rfl) (fun hl => ⟨0, (aP_spec_l1Once N.spec_l1Below G.spec_l1Below 0 a0 a1).trans (spec_l1Once_ok (ρ := Ret) (fun r0 r1 => some [⟨(.pair (.slice 5 (.int .u8)) (.pair (.int .i64) (.int .i64))), r0⟩, ⟨.bool, r1⟩]) a0 a1 hl.1 g)⟩)
abbrev G.spec_l4Any (c : TCur) : Bool := okC c
abbrev N.spec_l4Any (c : TCur) : TCur × ByteArray := anyL c
def spec_l4Any_P {ρ : Type} (f0 : TCur → Int → (TCur × Bool)) (g0 : TCur → Int → Bool) (f1 : TCur → (List ByteArray) → (TCur × ByteArray)) (g1 : TCur → (List ByteArray) → Bool) (f2 : TCur → (TCur × ByteArray)) (g2 : TCur → Bool) (k : TCur → ByteArray → Option ρ) (a0 : TCur) : Option ρ := (cond (g0 a0 (4 : Int)) (cond (f0 a0 (4 : Int)).2 (cond (g1 (f0 a0 (4 : Int)).1 [(ByteArray.mk #[]), (ByteArray.mk #[45, 97]), (ByteArray.mk #[97, 45]), (ByteArray.mk #[65]), (ByteArray.mk #[97, 46, 98]), (ByteArray.mk #[97, 98, 99, 100, 101, 102, 103, 104]), (ByteArray.mk #[97, 98, 99, 100, 101, 102, 103, 104, 105]), (ByteArray.mk #[49, 108]), (ByteArray.mk #[108, 49]), (ByteArray.mk #[48])]) (k (f1 (f0 a0 (4 : Int)).1 [(ByteArray.mk #[]), (ByteArray.mk #[45, 97]), (ByteArray.mk #[97, 45]), (ByteArray.mk #[65]), (ByteArray.mk #[97, 46, 98]), (ByteArray.mk #[97, 98, 99, 100, 101, 102, 103, 104]), (ByteArray.mk #[97, 98, 99, 100, 101, 102, 103, 104, 105]), (ByteArray.mk #[49, 108]), (ByteArray.mk #[108, 49]), (ByteArray.mk #[48])]).1 (f1 (f0 a0 (4 : Int)).1 [(ByteArray.mk #[]), (ByteArray.mk #[45, 97]), (ByteArray.mk #[97, 45]), (ByteArray.mk #[65]), (ByteArray.mk #[97, 46, 98]), (ByteArray.mk #[97, 98, 99, 100, 101, 102, 103, 104]), (ByteArray.mk #[97, 98, 99, 100, 101, 102, 103, 104, 105]), (ByteArray.mk #[49, 108]), (ByteArray.mk #[108, 49]), (ByteArray.mk #[48])]).2) none) (cond (g2 (f0 a0 (4 : Int)).1) (k (f2 (f0 a0 (4 : Int)).1).1 (f2 (f0 a0 (4 : Int)).1).2) none)) none)
def spec_l4Any {ρ : Type} (k : TCur → ByteArray → Option ρ) (a0 : TCur) : Option ρ := spec_l4Any_P N.spec_l1Once G.spec_l1Once N.spec_l1Str G.spec_l1Str N.spec_l4Label G.spec_l4Label k a0
theorem spec_l4Any_ok {ρ : Type} (k : TCur → ByteArray → Option ρ) (a0 : TCur) (l_a0 : (lnL (fun _ => True) a0.1 ∧ (True ∧ True))) (g : G.spec_l4Any a0 = true) : spec_l4Any k  a0 = k (N.spec_l4Any a0).1 (N.spec_l4Any a0).2 := by
  unfold G.spec_l4Any at g
  show cond (okC a0) (cond (onceC a0 4).2 (cond (okC (onceC a0 4).1 && decide (0 < oddLabels.length)) (k (strC (onceC a0 4).1 oddLabels).1 (strC (onceC a0 4).1 oddLabels).2) none) (cond (okC (onceC a0 4).1) (k (labelC (onceC a0 4).1).1 (labelC (onceC a0 4).1).2) none)) none = k (anyL a0).1 (anyL a0).2
  rw [g, okC_once 4 g]
  unfold anyL
  cases (onceC a0 4).2 <;> rfl
def OP_spec_l4Any (f0 : TCur → Int → (TCur × Bool)) (g0 : TCur → Int → Bool) (f1 : TCur → (List ByteArray) → (TCur × ByteArray)) (g1 : TCur → (List ByteArray) → Bool) (f2 : TCur → (TCur × ByteArray)) (g2 : TCur → Bool) : Orac := (orcX 67 [.lend (.pair (.slice 5 (.int .u8)) (.pair (.int .i64) (.int .i64))) .no] (fun d => g2 d.1) (fun d => [⟨(.pair (.slice 5 (.int .u8)) (.pair (.int .i64) (.int .i64))), (f2 d.1).1⟩, ⟨.str, (f2 d.1).2⟩]) (orcX 72 [.lend (.pair (.slice 5 (.int .u8)) (.pair (.int .i64) (.int .i64))) .no, .val (.slice 9 .str)] (fun d => g1 d.1 d.2.1) (fun d => [⟨(.pair (.slice 5 (.int .u8)) (.pair (.int .i64) (.int .i64))), (f1 d.1 d.2.1).1⟩, ⟨.str, (f1 d.1 d.2.1).2⟩]) (orcX 71 [.lend (.pair (.slice 5 (.int .u8)) (.pair (.int .i64) (.int .i64))) .no, .val (.int .i64)] (fun d => g0 d.1 d.2.1) (fun d => [⟨(.pair (.slice 5 (.int .u8)) (.pair (.int .i64) (.int .i64))), (f0 d.1 d.2.1).1⟩, ⟨.bool, (f0 d.1 d.2.1).2⟩]) nilO)))
def O_spec_l4Any : Orac := OP_spec_l4Any N.spec_l1Once G.spec_l1Once N.spec_l1Str G.spec_l1Str N.spec_l4Label G.spec_l4Label
theorem ok_spec_l4Any : OracOk Tryz.prog sigs O_spec_l4Any := (orcB_ok rfl (fun d g => said_spec_l4Label d.1 g) (orcB_ok rfl (fun d g => said_spec_l1Str d.1 d.2.1 g) (orcB_ok rfl (fun d g => said_spec_l1Once d.1 d.2.1 g) nilO_ok)))
def A_spec_l4Any : Ann := fun b => ⟨[], []⟩
theorem aP_spec_l4Any (f0 : TCur → Int → (TCur × Bool)) (g0 : TCur → Int → Bool) (f1 : TCur → (List ByteArray) → (TCur × ByteArray)) (g1 : TCur → (List ByteArray) → Bool) (f2 : TCur → (TCur × ByteArray)) (g2 : TCur → Bool) (n : Nat) (a0 : TCur) : absFB tab sigs (OP_spec_l4Any f0 g0 f1 g1 f2 g2) A_spec_l4Any Tryz.f50 [(.str, .no)] n (.pair (.slice 5 (.int .u8)) (.pair (.int .i64) (.int .i64))) a0 [] = spec_l4Any_P f0 g0 f1 g1 f2 g2 (fun r0 r1 => some [⟨(.pair (.slice 5 (.int .u8)) (.pair (.int .i64) (.int .i64))), r0⟩, ⟨.str, r1⟩])  a0 := by kernel_rfl
theorem said_spec_l4Any (a0 : TCur) (g : G.spec_l4Any a0 = true) : SaidP Tryz.prog sigs_50 50 (.pair (.slice 5 (.int .u8)) (.pair (.int .i64) (.int .i64))) a0 [] [⟨(.pair (.slice 5 (.int .u8)) (.pair (.int .i64) (.int .i64))), (N.spec_l4Any a0).1⟩, ⟨.str, (N.spec_l4Any a0).2⟩] := said_lenB (T := tab) (A := A_spec_l4Any) tabOk ok_spec_l4Any tabOk.follows Tryz.func50 (by kernel_rfl) (by kernel_rfl) (fun hl => ⟨0, (aP_spec_l4Any N.spec_l1Once G.spec_l1Once N.spec_l1Str G.spec_l1Str N.spec_l4Label G.spec_l4Label 0 a0).trans (spec_l4Any_ok (ρ := Ret) (fun r0 r1 => some [⟨(.pair (.slice 5 (.int .u8)) (.pair (.int .i64) (.int .i64))), r0⟩, ⟨.str, r1⟩]) a0 hl.1 g)⟩)
abbrev G.spec_l5Any (c : TCur) : Bool := okC c
abbrev N.spec_l5Any (c : TCur) : TCur × List ByteArray := anyP c
def spec_l5Any_P {ρ : Type} (f0 : TCur → (TCur × (List ByteArray))) (g0 : TCur → Bool) (f1 : TCur → Int → (TCur × Int)) (g1 : TCur → Int → Bool) (f2 : TCur → (TCur × ByteArray)) (g2 : TCur → Bool) (k : TCur → (List ByteArray) → Option ρ) (a0 : TCur) : Option ρ := (cond (g0 a0) (cond (g1 (f0 a0).1 (8 : Int)) (cond ((f1 (f0 a0).1 (8 : Int)).2 == (0 : Int)) (cond (g2 (f1 (f0 a0).1 (8 : Int)).1) (cond (g2 (f2 (f1 (f0 a0).1 (8 : Int)).1).1) (cond (fit (List.length (f0 a0).2) (List.length [(f2 (f1 (f0 a0).1 (8 : Int)).1).2, (f2 (f2 (f1 (f0 a0).1 (8 : Int)).1).1).2])) (k (f2 (f2 (f1 (f0 a0).1 (8 : Int)).1).1).1 (List.append (f0 a0).2 [(f2 (f1 (f0 a0).1 (8 : Int)).1).2, (f2 (f2 (f1 (f0 a0).1 (8 : Int)).1).1).2])) none) none) none) (cond ((f1 (f0 a0).1 (8 : Int)).2 == (1 : Int)) (k (f1 (f0 a0).1 (8 : Int)).1 ([] : (List ByteArray))) (k (f1 (f0 a0).1 (8 : Int)).1 (f0 a0).2))) none) none)
def spec_l5Any {ρ : Type} (k : TCur → (List ByteArray) → Option ρ) (a0 : TCur) : Option ρ := spec_l5Any_P N.spec_l5Path G.spec_l5Path N.spec_l1Below G.spec_l1Below N.spec_l4Any G.spec_l4Any k a0
theorem spec_l5Any_ok {ρ : Type} (k : TCur → (List ByteArray) → Option ρ) (a0 : TCur) (l_a0 : (lnL (fun _ => True) a0.1 ∧ (True ∧ True))) (g : G.spec_l5Any a0 = true) : spec_l5Any k  a0 = k (N.spec_l5Any a0).1 (N.spec_l5Any a0).2 := by
  unfold G.spec_l5Any at g
  have h1 := okC_path g
  have h2 := okC_below 8 h1
  have hl : (pathC a0).2.length ≤ 30 := Nat.le_trans (wP_ge _) (path_le a0)
  have hf : ∀ x y : ByteArray, fit (List.length (pathC a0).2) (List.length [x, y]) = true := fun x y => fit_of (by simp; omega)
  simp only [spec_l5Any, spec_l5Any_P, G.spec_l5Path, N.spec_l5Path, G.spec_l1Below, N.spec_l1Below, G.spec_l4Any, N.spec_l4Any, g, h1, h2, okC_anyL h2, hf, cond_true]
  show _ = k (anyP a0).1 (anyP a0).2
  unfold anyP
  cases ((belowC (pathC a0).1 8).2 == 0) with
  | true => rfl
  | false => cases ((belowC (pathC a0).1 8).2 == 1) <;> rfl
def OP_spec_l5Any (f0 : TCur → (TCur × (List ByteArray))) (g0 : TCur → Bool) (f1 : TCur → Int → (TCur × Int)) (g1 : TCur → Int → Bool) (f2 : TCur → (TCur × ByteArray)) (g2 : TCur → Bool) : Orac := (orcX 50 [.lend (.pair (.slice 5 (.int .u8)) (.pair (.int .i64) (.int .i64))) .no] (fun d => g2 d.1) (fun d => [⟨(.pair (.slice 5 (.int .u8)) (.pair (.int .i64) (.int .i64))), (f2 d.1).1⟩, ⟨.str, (f2 d.1).2⟩]) (orcX 46 [.lend (.pair (.slice 5 (.int .u8)) (.pair (.int .i64) (.int .i64))) .no, .val (.int .i64)] (fun d => g1 d.1 d.2.1) (fun d => [⟨(.pair (.slice 5 (.int .u8)) (.pair (.int .i64) (.int .i64))), (f1 d.1 d.2.1).1⟩, ⟨(.int .i64), (f1 d.1 d.2.1).2⟩]) (orcX 70 [.lend (.pair (.slice 5 (.int .u8)) (.pair (.int .i64) (.int .i64))) .no] (fun d => g0 d.1) (fun d => [⟨(.pair (.slice 5 (.int .u8)) (.pair (.int .i64) (.int .i64))), (f0 d.1).1⟩, ⟨(.slice 9 .str), (f0 d.1).2⟩]) nilO)))
def O_spec_l5Any : Orac := OP_spec_l5Any N.spec_l5Path G.spec_l5Path N.spec_l1Below G.spec_l1Below N.spec_l4Any G.spec_l4Any
theorem ok_spec_l5Any : OracOk Tryz.prog sigs O_spec_l5Any := (orcB_ok rfl (fun d g => said_spec_l4Any d.1 g) (orcB_ok rfl (fun d g => said_spec_l1Below d.1 d.2.1 g) (orcB_ok rfl (fun d g => said_spec_l5Path d.1 g) nilO_ok)))
def A_spec_l5Any : Ann := fun b => ⟨[], []⟩
theorem aP_spec_l5Any (f0 : TCur → (TCur × (List ByteArray))) (g0 : TCur → Bool) (f1 : TCur → Int → (TCur × Int)) (g1 : TCur → Int → Bool) (f2 : TCur → (TCur × ByteArray)) (g2 : TCur → Bool) (n : Nat) (a0 : TCur) : absFB tab sigs (OP_spec_l5Any f0 g0 f1 g1 f2 g2) A_spec_l5Any Tryz.f51 [((.slice 9 .str), (.own 0))] n (.pair (.slice 5 (.int .u8)) (.pair (.int .i64) (.int .i64))) a0 [] = spec_l5Any_P f0 g0 f1 g1 f2 g2 (fun r0 r1 => some [⟨(.pair (.slice 5 (.int .u8)) (.pair (.int .i64) (.int .i64))), r0⟩, ⟨(.slice 9 .str), r1⟩])  a0 := by kernel_rfl
theorem said_spec_l5Any (a0 : TCur) (g : G.spec_l5Any a0 = true) : SaidP Tryz.prog sigs_51 51 (.pair (.slice 5 (.int .u8)) (.pair (.int .i64) (.int .i64))) a0 [] [⟨(.pair (.slice 5 (.int .u8)) (.pair (.int .i64) (.int .i64))), (N.spec_l5Any a0).1⟩, ⟨(.slice 9 .str), (N.spec_l5Any a0).2⟩] := said_lenB (T := tab) (A := A_spec_l5Any) tabOk ok_spec_l5Any tabOk.follows Tryz.func51 (by kernel_rfl) (by kernel_rfl) (fun hl => ⟨0, (aP_spec_l5Any N.spec_l5Path G.spec_l5Path N.spec_l1Below G.spec_l1Below N.spec_l4Any G.spec_l4Any 0 a0).trans (spec_l5Any_ok (ρ := Ret) (fun r0 r1 => some [⟨(.pair (.slice 5 (.int .u8)) (.pair (.int .i64) (.int .i64))), r0⟩, ⟨(.slice 9 .str), r1⟩]) a0 hl.1 g)⟩)
abbrev G.spec_l8Any (c : TCur) : Bool := okC c
abbrev N.spec_l8Any (c : TCur) : TCur × TEntry := anyE c
def spec_l8Any_P {ρ : Type} (f0 : TCur → (TCur × TEntry)) (g0 : TCur → Bool) (f1 : TCur → Int → (TCur × Int)) (g1 : TCur → Int → Bool) (f2 : TCur → (List Int) → (TCur × Int)) (g2 : TCur → (List Int) → Bool) (f3 : TCur → (TCur × ByteArray)) (g3 : TCur → Bool) (f4 : TCur → (TCur × (List ByteArray))) (g4 : TCur → Bool) (k : TCur → TEntry → Option ρ) (a0 : TCur) : Option ρ := (cond (g0 a0) (cond (g1 (f0 a0).1 (10 : Int)) (cond ((f1 (f0 a0).1 (10 : Int)).2 == (0 : Int)) (cond (g2 (f1 (f0 a0).1 (10 : Int)).1 [(0 : Int), (1 : Int), (2 : Int), (3 : Int), (4 : Int)]) (k (f2 (f1 (f0 a0).1 (10 : Int)).1 [(0 : Int), (1 : Int), (2 : Int), (3 : Int), (4 : Int)]).1 ((f0 a0).2.1, ((f2 (f1 (f0 a0).1 (10 : Int)).1 [(0 : Int), (1 : Int), (2 : Int), (3 : Int), (4 : Int)]).2, (f0 a0).2.2.2))) none) (cond ((f1 (f0 a0).1 (10 : Int)).2 == (1 : Int)) (cond (g2 (f1 (f0 a0).1 (10 : Int)).1 [(-1 : Int), (999999 : Int), (1000000 : Int), (2147483646 : Int), (2147483647 : Int)]) (k (f2 (f1 (f0 a0).1 (10 : Int)).1 [(-1 : Int), (999999 : Int), (1000000 : Int), (2147483646 : Int), (2147483647 : Int)]).1 ((f0 a0).2.1, ((f0 a0).2.2.1, ((f2 (f1 (f0 a0).1 (10 : Int)).1 [(-1 : Int), (999999 : Int), (1000000 : Int), (2147483646 : Int), (2147483647 : Int)]).2, (f0 a0).2.2.2.2)))) none) (cond ((f1 (f0 a0).1 (10 : Int)).2 == (2 : Int)) (cond (g3 (f1 (f0 a0).1 (10 : Int)).1) (k (f3 (f1 (f0 a0).1 (10 : Int)).1).1 ((f3 (f1 (f0 a0).1 (10 : Int)).1).2, (f0 a0).2.2)) none) (cond ((f1 (f0 a0).1 (10 : Int)).2 == (3 : Int)) (cond (g4 (f1 (f0 a0).1 (10 : Int)).1) (k (f4 (f1 (f0 a0).1 (10 : Int)).1).1 ((f0 a0).2.1, ((f0 a0).2.2.1, ((f0 a0).2.2.2.1, (f4 (f1 (f0 a0).1 (10 : Int)).1).2)))) none) (k (f1 (f0 a0).1 (10 : Int)).1 (f0 a0).2))))) none) none)
def spec_l8Any {ρ : Type} (k : TCur → TEntry → Option ρ) (a0 : TCur) : Option ρ := spec_l8Any_P N.spec_l8Entry G.spec_l8Entry N.spec_l1Below G.spec_l1Below N.spec_l1Int G.spec_l1Int N.spec_l4Any G.spec_l4Any N.spec_l5Any G.spec_l5Any k a0
theorem spec_l8Any_ok {ρ : Type} (k : TCur → TEntry → Option ρ) (a0 : TCur) (l_a0 : (lnL (fun _ => True) a0.1 ∧ (True ∧ True))) (g : G.spec_l8Any a0 = true) : spec_l8Any k  a0 = k (N.spec_l8Any a0).1 (N.spec_l8Any a0).2 := by
  unfold G.spec_l8Any at g
  have h1 := okC_entry g
  have h2 := okC_below 10 h1
  simp only [spec_l8Any, spec_l8Any_P, G.spec_l8Entry, N.spec_l8Entry, G.spec_l1Below, N.spec_l1Below, G.spec_l1Int, N.spec_l1Int, G.spec_l4Any, N.spec_l4Any, G.spec_l5Any, N.spec_l5Any, g, h1, h2, List.length_cons, List.length_nil, Nat.zero_add, Nat.reduceAdd, Nat.reduceLT, decide_true, Bool.and_true, cond_true]
  show _ = k (anyE a0).1 (anyE a0).2
  unfold anyE
  cases ((belowC (entryC a0).1 10).2 == 0) with
  | true => rfl
  | false =>
    cases ((belowC (entryC a0).1 10).2 == 1) with
    | true => rfl
    | false =>
      cases ((belowC (entryC a0).1 10).2 == 2) with
      | true => rfl
      | false => cases ((belowC (entryC a0).1 10).2 == 3) <;> rfl
def OP_spec_l8Any (f0 : TCur → (TCur × TEntry)) (g0 : TCur → Bool) (f1 : TCur → Int → (TCur × Int)) (g1 : TCur → Int → Bool) (f2 : TCur → (List Int) → (TCur × Int)) (g2 : TCur → (List Int) → Bool) (f3 : TCur → (TCur × ByteArray)) (g3 : TCur → Bool) (f4 : TCur → (TCur × (List ByteArray))) (g4 : TCur → Bool) : Orac := (orcX 51 [.lend (.pair (.slice 5 (.int .u8)) (.pair (.int .i64) (.int .i64))) .no] (fun d => g4 d.1) (fun d => [⟨(.pair (.slice 5 (.int .u8)) (.pair (.int .i64) (.int .i64))), (f4 d.1).1⟩, ⟨(.slice 9 .str), (f4 d.1).2⟩]) (orcX 50 [.lend (.pair (.slice 5 (.int .u8)) (.pair (.int .i64) (.int .i64))) .no] (fun d => g3 d.1) (fun d => [⟨(.pair (.slice 5 (.int .u8)) (.pair (.int .i64) (.int .i64))), (f3 d.1).1⟩, ⟨.str, (f3 d.1).2⟩]) (orcX 49 [.lend (.pair (.slice 5 (.int .u8)) (.pair (.int .i64) (.int .i64))) .no, .val (.slice 3 (.int .i64))] (fun d => g2 d.1 d.2.1) (fun d => [⟨(.pair (.slice 5 (.int .u8)) (.pair (.int .i64) (.int .i64))), (f2 d.1 d.2.1).1⟩, ⟨(.int .i64), (f2 d.1 d.2.1).2⟩]) (orcX 46 [.lend (.pair (.slice 5 (.int .u8)) (.pair (.int .i64) (.int .i64))) .no, .val (.int .i64)] (fun d => g1 d.1 d.2.1) (fun d => [⟨(.pair (.slice 5 (.int .u8)) (.pair (.int .i64) (.int .i64))), (f1 d.1 d.2.1).1⟩, ⟨(.int .i64), (f1 d.1 d.2.1).2⟩]) (orcX 48 [.lend (.pair (.slice 5 (.int .u8)) (.pair (.int .i64) (.int .i64))) .no] (fun d => g0 d.1) (fun d => [⟨(.pair (.slice 5 (.int .u8)) (.pair (.int .i64) (.int .i64))), (f0 d.1).1⟩, ⟨TyEntry, (f0 d.1).2⟩]) nilO)))))
def O_spec_l8Any : Orac := OP_spec_l8Any N.spec_l8Entry G.spec_l8Entry N.spec_l1Below G.spec_l1Below N.spec_l1Int G.spec_l1Int N.spec_l4Any G.spec_l4Any N.spec_l5Any G.spec_l5Any
theorem ok_spec_l8Any : OracOk Tryz.prog sigs O_spec_l8Any := (orcB_ok rfl (fun d g => said_spec_l5Any d.1 g) (orcB_ok rfl (fun d g => said_spec_l4Any d.1 g) (orcB_ok rfl (fun d g => said_spec_l1Int d.1 d.2.1 g) (orcB_ok rfl (fun d g => said_spec_l1Below d.1 d.2.1 g) (orcB_ok rfl (fun d g => said_spec_l8Entry d.1 g) nilO_ok)))))
def A_spec_l8Any : Ann := fun b => ⟨[], []⟩
theorem aP_spec_l8Any (f0 : TCur → (TCur × TEntry)) (g0 : TCur → Bool) (f1 : TCur → Int → (TCur × Int)) (g1 : TCur → Int → Bool) (f2 : TCur → (List Int) → (TCur × Int)) (g2 : TCur → (List Int) → Bool) (f3 : TCur → (TCur × ByteArray)) (g3 : TCur → Bool) (f4 : TCur → (TCur × (List ByteArray))) (g4 : TCur → Bool) (n : Nat) (a0 : TCur) : absFB tab sigs (OP_spec_l8Any f0 g0 f1 g1 f2 g2 f3 g3 f4 g4) A_spec_l8Any Tryz.f21 [(TyEntry, (.pair .no (.pair .no (.pair .no (.own 0)))))] n (.pair (.slice 5 (.int .u8)) (.pair (.int .i64) (.int .i64))) a0 [] = spec_l8Any_P f0 g0 f1 g1 f2 g2 f3 g3 f4 g4 (fun r0 r1 => some [⟨(.pair (.slice 5 (.int .u8)) (.pair (.int .i64) (.int .i64))), r0⟩, ⟨TyEntry, r1⟩])  a0 := by kernel_rfl
theorem said_spec_l8Any (a0 : TCur) (g : G.spec_l8Any a0 = true) : SaidP Tryz.prog sigs_21 21 (.pair (.slice 5 (.int .u8)) (.pair (.int .i64) (.int .i64))) a0 [] [⟨(.pair (.slice 5 (.int .u8)) (.pair (.int .i64) (.int .i64))), (N.spec_l8Any a0).1⟩, ⟨TyEntry, (N.spec_l8Any a0).2⟩] := said_lenB (T := tab) (A := A_spec_l8Any) tabOk ok_spec_l8Any tabOk.follows Tryz.func21 (by kernel_rfl) (by kernel_rfl) (fun hl => ⟨0, (aP_spec_l8Any N.spec_l8Entry G.spec_l8Entry N.spec_l1Below G.spec_l1Below N.spec_l1Int G.spec_l1Int N.spec_l4Any G.spec_l4Any N.spec_l5Any G.spec_l5Any 0 a0).trans (spec_l8Any_ok (ρ := Ret) (fun r0 r1 => some [⟨(.pair (.slice 5 (.int .u8)) (.pair (.int .i64) (.int .i64))), r0⟩, ⟨TyEntry, r1⟩]) a0 hl.1 g)⟩)
abbrev G.spec_l9Any (c : TCur) : Bool := okC c
abbrev N.spec_l9Any (c : TCur) : TCur × List TEntry := anyEs c
def spec_l9Any_P_L1 {ρ : Type} (f0 : TCur → (TCur × (List TEntry))) (g0 : TCur → Bool) (f1 : TCur → Int → (TCur × Int)) (g1 : TCur → Int → Bool) (f2 : TCur → (TCur × TEntry)) (g2 : TCur → Bool) (f3 : ByteArray → Int → TEntry) (f4 : (List TEntry) → TEntry → ((List TEntry) × Bool)) (g4 : (List TEntry) → TEntry → Bool) (k : TCur → (List TEntry) → Option ρ) (L1 : Int → Int → TCur → (List TEntry) → (List ByteArray) → Option ρ) (v1_0 : Int) (v1_1 : Int) (v1_2 : TCur) (v1_3 : (List TEntry)) (v1_4 : (List ByteArray)) : Option ρ := (cond (decide (v1_1 < v1_0)) (cond (inRange v1_1 (List.length v1_4)) (cond (inRange v1_1 (List.length v1_4)) (cond (g4 v1_3 (f3 (List.getD v1_4 (Int.toNat v1_1) ByteArray.empty) (1 : Int))) (L1 v1_0 (IntKind.wrap .i64 (v1_1 + (1 : Int))) v1_2 (f4 v1_3 (f3 (List.getD v1_4 (Int.toNat v1_1) ByteArray.empty) (1 : Int))).1 v1_4) none) none) none) (k v1_2 v1_3))
def spec_l9Any_P {ρ : Type} (f0 : TCur → (TCur × (List TEntry))) (g0 : TCur → Bool) (f1 : TCur → Int → (TCur × Int)) (g1 : TCur → Int → Bool) (f2 : TCur → (TCur × TEntry)) (g2 : TCur → Bool) (f3 : ByteArray → Int → TEntry) (f4 : (List TEntry) → TEntry → ((List TEntry) × Bool)) (g4 : (List TEntry) → TEntry → Bool) (k : TCur → (List TEntry) → Option ρ) (L1 : Int → Int → TCur → (List TEntry) → (List ByteArray) → Option ρ) (a0 : TCur) : Option ρ := (cond (g0 a0) (cond (g1 (f0 a0).1 (10 : Int)) (cond ((f1 (f0 a0).1 (10 : Int)).2 == (0 : Int)) (cond (g2 (f1 (f0 a0).1 (10 : Int)).1) (cond (fit (List.length (f0 a0).2) (List.length [(f2 (f1 (f0 a0).1 (10 : Int)).1).2])) (k (f2 (f1 (f0 a0).1 (10 : Int)).1).1 (List.append (f0 a0).2 [(f2 (f1 (f0 a0).1 (10 : Int)).1).2])) none) none) (cond ((f1 (f0 a0).1 (10 : Int)).2 == (1 : Int)) (L1 (List.length [(ByteArray.mk #[99]), (ByteArray.mk #[100]), (ByteArray.mk #[101]), (ByteArray.mk #[102]), (ByteArray.mk #[103]), (ByteArray.mk #[104]), (ByteArray.mk #[105]), (ByteArray.mk #[106]), (ByteArray.mk #[107]), (ByteArray.mk #[108]), (ByteArray.mk #[109]), (ByteArray.mk #[110])] : Int) (0 : Int) (f1 (f0 a0).1 (10 : Int)).1 (f0 a0).2 [(ByteArray.mk #[99]), (ByteArray.mk #[100]), (ByteArray.mk #[101]), (ByteArray.mk #[102]), (ByteArray.mk #[103]), (ByteArray.mk #[104]), (ByteArray.mk #[105]), (ByteArray.mk #[106]), (ByteArray.mk #[107]), (ByteArray.mk #[108]), (ByteArray.mk #[109]), (ByteArray.mk #[110])]) (k (f1 (f0 a0).1 (10 : Int)).1 (f0 a0).2))) none) none)
def spec_l9Any_L1 {ρ : Type} (k : TCur → (List TEntry) → Option ρ) (L1 : Int → Int → TCur → (List TEntry) → (List ByteArray) → Option ρ) (v1_0 : Int) (v1_1 : Int) (v1_2 : TCur) (v1_3 : (List TEntry)) (v1_4 : (List ByteArray)) : Option ρ := spec_l9Any_P_L1 N.spec_l9List G.spec_l9List N.spec_l1Below G.spec_l1Below N.spec_l8Any G.spec_l8Any N.spec_ValueEntry N.spec_PutEntry G.spec_PutEntry k L1 v1_0 v1_1 v1_2 v1_3 v1_4
def spec_l9Any {ρ : Type} (k : TCur → (List TEntry) → Option ρ) (L1 : Int → Int → TCur → (List TEntry) → (List ByteArray) → Option ρ) (a0 : TCur) : Option ρ := spec_l9Any_P N.spec_l9List G.spec_l9List N.spec_l1Below G.spec_l1Below N.spec_l8Any G.spec_l8Any N.spec_ValueEntry N.spec_PutEntry G.spec_PutEntry k L1 a0
theorem spec_l9Any_ok {ρ : Type} (k : TCur → (List TEntry) → Option ρ) (a0 : TCur) (l_a0 : (lnL (fun _ => True) a0.1 ∧ (True ∧ True))) (g : G.spec_l9Any a0 = true) : ∃ n0, ∀ n, n0 ≤ n → ∀ (L1 : Nat → Int → Int → TCur → (List TEntry) → (List ByteArray) → Option ρ) (h1 : ∀ ( m : Nat) (v1_0 : Int) (v1_1 : Int) (v1_2 : TCur) (v1_3 : (List TEntry)) (v1_4 : (List ByteArray)), L1 (m + 1) v1_0 v1_1 v1_2 v1_3 v1_4 = spec_l9Any_L1 k (L1 m) v1_0 v1_1 v1_2 v1_3 v1_4), spec_l9Any k (L1 n) a0 = k (N.spec_l9Any a0).1 (N.spec_l9Any a0).2 := by
  unfold G.spec_l9Any at g
  have h1 := okC_list g
  have h2 := okC_below 10 h1
  have hw := listC_w a0
  have hl := wEs_ge (listC a0).2
  refine ⟨20, fun n hn L1 h0 => ?_⟩
  have go : ∀ (T : Int) (ls : List ByteArray), T = 12 → ls = oneLabels → ∀ (r : List ByteArray) (n j : Nat) (c : TCur) (o : List TEntry), oneLabels.drop j = r → r.length < n → wEs o + 10 * r.length ≤ 1000 →
      L1 n T (j : Int) c o ls = k c (manyGo r o) := by
    intro T ls hT hls r
    subst hT
    subst hls
    induction r with
    | nil =>
      intro n j c o hr hn _
      obtain ⟨m, rfl⟩ : ∃ m, n = m + 1 := ⟨n - 1, by omega⟩
      have hj : 12 ≤ j := by
        have := congrArg List.length hr
        rw [List.length_drop] at this
        have h12 : oneLabels.length = 12 := rfl
        simp at this
        omega
      have e1 : decide ((j : Int) < 12) = false := decide_eq_false (by omega)
      rw [h0]
      simp only [spec_l9Any_L1, spec_l9Any_P_L1, e1, cond_false]
      rfl
    | cons s r ih =>
      intro n j c o hr hn ho
      obtain ⟨m, rfl⟩ : ∃ m, n = m + 1 := ⟨n - 1, by omega⟩
      have h12 : oneLabels.length = 12 := rfl
      have hj : j < oneLabels.length := by
        have := congrArg List.length hr
        rw [List.length_drop] at this
        simp at this
        omega
      have e1 : decide ((j : Int) < 12) = true := decide_eq_true (by omega)
      rw [drop_cons ByteArray.empty hj] at hr
      injection hr with hs hr
      have hsz := oneLabels_le _ (getD_mem (d := ByteArray.empty) hj)
      rw [hs] at hsz
      have hw := putE_w o (s, (1, (1, [])))
      have h3 : wE (s, ((1 : Int), ((1 : Int), ([] : List ByteArray)))) = s.size + 0 := rfl
      simp only [List.length_cons] at hn ho
      have g2 : decide (wEs o + wE (s, ((1 : Int), ((1 : Int), ([] : List ByteArray)))) ≤ 1048576) = true := decide_eq_true (by omega)
      rw [h0]
      simp only [spec_l9Any_L1, spec_l9Any_P_L1, e1, inRange_nat, decide_eq_true hj, Int.toNat_natCast, hs, N.spec_ValueEntry, G.spec_PutEntry, N.spec_PutEntry, g2, wrap_succ (j := j) (by unfold big; omega), cond_true]
      exact ih m (j + 1) c (putE o (s, (1, (1, [])))).1 hr (by omega) (by omega)
  have f1 : fit (List.length (listC a0).2) 1 = true := fit_of (by omega)
  simp only [spec_l9Any, spec_l9Any_P, G.spec_l9List, N.spec_l9List, G.spec_l1Below, N.spec_l1Below, G.spec_l8Any, N.spec_l8Any, g, h1, h2, f1, List.length_cons, List.length_nil, Nat.zero_add, Nat.reduceAdd, cond_true]
  show _ = k (anyEsP (listC a0)).1 (anyEsP (listC a0)).2
  unfold anyEsP
  cases ((belowC (listC a0).1 10).2 == 0) with
  | true =>
    simp only [cond_true]
    rfl
  | false =>
    cases ((belowC (listC a0).1 10).2 == 1) with
    | true =>
      simp only [cond_true, cond_false]
      exact go _ _ rfl rfl oneLabels n 0 _ _ rfl (by have h12 : oneLabels.length = 12 := rfl; omega) (by have h12 : oneLabels.length = 12 := rfl; omega)
    | false => simp only [cond_false]
def OP_spec_l9Any (f0 : TCur → (TCur × (List TEntry))) (g0 : TCur → Bool) (f1 : TCur → Int → (TCur × Int)) (g1 : TCur → Int → Bool) (f2 : TCur → (TCur × TEntry)) (g2 : TCur → Bool) (f3 : ByteArray → Int → TEntry) (f4 : (List TEntry) → TEntry → ((List TEntry) × Bool)) (g4 : (List TEntry) → TEntry → Bool) : Orac := (orcX 7 [.val (.slice 27 TyEntry), .val TyEntry] (fun d => g4 d.1 d.2.1) (fun d => [⟨(.slice 27 TyEntry), (f4 d.1 d.2.1).1⟩, ⟨.bool, (f4 d.1 d.2.1).2⟩]) (orcX 47 [.val .str, .val (.int .i64)] (fun d => true) (fun d => [⟨TyEntry, f3 d.1 d.2.1⟩]) (orcX 21 [.lend (.pair (.slice 5 (.int .u8)) (.pair (.int .i64) (.int .i64))) .no] (fun d => g2 d.1) (fun d => [⟨(.pair (.slice 5 (.int .u8)) (.pair (.int .i64) (.int .i64))), (f2 d.1).1⟩, ⟨TyEntry, (f2 d.1).2⟩]) (orcX 46 [.lend (.pair (.slice 5 (.int .u8)) (.pair (.int .i64) (.int .i64))) .no, .val (.int .i64)] (fun d => g1 d.1 d.2.1) (fun d => [⟨(.pair (.slice 5 (.int .u8)) (.pair (.int .i64) (.int .i64))), (f1 d.1 d.2.1).1⟩, ⟨(.int .i64), (f1 d.1 d.2.1).2⟩]) (orcX 45 [.lend (.pair (.slice 5 (.int .u8)) (.pair (.int .i64) (.int .i64))) .no] (fun d => g0 d.1) (fun d => [⟨(.pair (.slice 5 (.int .u8)) (.pair (.int .i64) (.int .i64))), (f0 d.1).1⟩, ⟨(.slice 27 TyEntry), (f0 d.1).2⟩]) nilO)))))
def O_spec_l9Any : Orac := OP_spec_l9Any N.spec_l9List G.spec_l9List N.spec_l1Below G.spec_l1Below N.spec_l8Any G.spec_l8Any N.spec_ValueEntry N.spec_PutEntry G.spec_PutEntry
theorem ok_spec_l9Any : OracOk Tryz.prog sigs O_spec_l9Any := (orcX_ok rfl rfl (fun d g => said_spec_PutEntry d.1 d.2.1 g) (orcX_ok rfl rfl (fun d g => said_spec_ValueEntry d.1 d.2.1) (orcB_ok rfl (fun d g => said_spec_l8Any d.1 g) (orcB_ok rfl (fun d g => said_spec_l1Below d.1 d.2.1 g) (orcB_ok rfl (fun d g => said_spec_l9List d.1 g) nilO_ok)))))
def A_spec_l9Any : Ann := fun b => cond (Nat.beq b 1) ⟨[(0, false), (3, true), (19, true), (20, false), (21, false)], [(0, false)]⟩ (⟨[], []⟩)
def S_spec_l9Any_1 (v1_0 : Int) (v1_1 : Int) (v1_2 : TCur) (v1_3 : (List TEntry)) (v1_4 : (List ByteArray)) : St := [(kT 0, some (.tv (.box 0 []))), (kT 3, some (.tv (.v (.slice 27 TyEntry) [] (.own 24)))), (kT 19, some (.tv (.v (.slice 9 .str) [] (.own 152)))), (kT 20, some (.tv (.v (.int .i64) v1_0 .no))), (kT 21, some (.tv (.v (.int .i64) v1_1 .no))), (kB 0, some (.box (.pair (.slice 5 (.int .u8)) (.pair (.int .i64) (.int .i64))) v1_2 .no)), (kR 24, some (.row 27 TyEntry v1_3)), (kR 152, some (.row 9 .str v1_4))]
noncomputable def L_P_spec_l9Any_1 (f0 : TCur → (TCur × (List TEntry))) (g0 : TCur → Bool) (f1 : TCur → Int → (TCur × Int)) (g1 : TCur → Int → Bool) (f2 : TCur → (TCur × TEntry)) (g2 : TCur → Bool) (f3 : ByteArray → Int → TEntry) (f4 : (List TEntry) → TEntry → ((List TEntry) × Bool)) (g4 : (List TEntry) → TEntry → Bool) (n m : Nat) : St → Option Ret := loopOfB tab sigs (OP_spec_l9Any f0 g0 f1 g1 f2 g2 f3 f4 g4) A_spec_l9Any Tryz.f20 [((.slice 27 TyEntry), (.own 0))] (.pair (.slice 5 (.int .u8)) (.pair (.int .i64) (.int .i64))) n (fun _ => 0) 1 m
theorem bP_spec_l9Any_1 (f0 : TCur → (TCur × (List TEntry))) (g0 : TCur → Bool) (f1 : TCur → Int → (TCur × Int)) (g1 : TCur → Int → Bool) (f2 : TCur → (TCur × TEntry)) (g2 : TCur → Bool) (f3 : ByteArray → Int → TEntry) (f4 : (List TEntry) → TEntry → ((List TEntry) × Bool)) (g4 : (List TEntry) → TEntry → Bool) (n m : Nat) (v1_0 : Int) (v1_1 : Int) (v1_2 : TCur) (v1_3 : (List TEntry)) (v1_4 : (List ByteArray)) : L_P_spec_l9Any_1 f0 g0 f1 g1 f2 g2 f3 f4 g4 n (m + 1) (S_spec_l9Any_1 v1_0 v1_1 v1_2 v1_3 v1_4) = spec_l9Any_P_L1 f0 g0 f1 g1 f2 g2 f3 f4 g4 (fun r0 r1 => some [⟨(.pair (.slice 5 (.int .u8)) (.pair (.int .i64) (.int .i64))), r0⟩, ⟨(.slice 27 TyEntry), r1⟩]) (fun v1_0 v1_1 v1_2 v1_3 v1_4 => L_P_spec_l9Any_1 f0 g0 f1 g1 f2 g2 f3 f4 g4 n m (S_spec_l9Any_1 v1_0 v1_1 v1_2 v1_3 v1_4)) v1_0 v1_1 v1_2 v1_3 v1_4 := by kernel_rfl
theorem aP_spec_l9Any (f0 : TCur → (TCur × (List TEntry))) (g0 : TCur → Bool) (f1 : TCur → Int → (TCur × Int)) (g1 : TCur → Int → Bool) (f2 : TCur → (TCur × TEntry)) (g2 : TCur → Bool) (f3 : ByteArray → Int → TEntry) (f4 : (List TEntry) → TEntry → ((List TEntry) × Bool)) (g4 : (List TEntry) → TEntry → Bool) (n : Nat) (a0 : TCur) : absFB tab sigs (OP_spec_l9Any f0 g0 f1 g1 f2 g2 f3 f4 g4) A_spec_l9Any Tryz.f20 [((.slice 27 TyEntry), (.own 0))] n (.pair (.slice 5 (.int .u8)) (.pair (.int .i64) (.int .i64))) a0 [] = spec_l9Any_P f0 g0 f1 g1 f2 g2 f3 f4 g4 (fun r0 r1 => some [⟨(.pair (.slice 5 (.int .u8)) (.pair (.int .i64) (.int .i64))), r0⟩, ⟨(.slice 27 TyEntry), r1⟩]) (fun v1_0 v1_1 v1_2 v1_3 v1_4 => L_P_spec_l9Any_1 f0 g0 f1 g1 f2 g2 f3 f4 g4 n n (S_spec_l9Any_1 v1_0 v1_1 v1_2 v1_3 v1_4)) a0 := by kernel_rfl
theorem said_spec_l9Any (a0 : TCur) (g : G.spec_l9Any a0 = true) : SaidP Tryz.prog sigs_20 20 (.pair (.slice 5 (.int .u8)) (.pair (.int .i64) (.int .i64))) a0 [] [⟨(.pair (.slice 5 (.int .u8)) (.pair (.int .i64) (.int .i64))), (N.spec_l9Any a0).1⟩, ⟨(.slice 27 TyEntry), (N.spec_l9Any a0).2⟩] := said_lenB (T := tab) (A := A_spec_l9Any) tabOk ok_spec_l9Any tabOk.follows Tryz.func20 (by kernel_rfl) (by kernel_rfl) (fun hl => let ⟨n, hn⟩ := spec_l9Any_ok (ρ := Ret) (fun r0 r1 => some [⟨(.pair (.slice 5 (.int .u8)) (.pair (.int .i64) (.int .i64))), r0⟩, ⟨(.slice 27 TyEntry), r1⟩]) a0 hl.1 g; ⟨n, (aP_spec_l9Any N.spec_l9List G.spec_l9List N.spec_l1Below G.spec_l1Below N.spec_l8Any G.spec_l8Any N.spec_ValueEntry N.spec_PutEntry G.spec_PutEntry n a0).trans (hn n (Nat.le_refl n) (fun  m v1_0 v1_1 v1_2 v1_3 v1_4 => L_P_spec_l9Any_1 N.spec_l9List G.spec_l9List N.spec_l1Below G.spec_l1Below N.spec_l8Any G.spec_l8Any N.spec_ValueEntry N.spec_PutEntry G.spec_PutEntry n  m (S_spec_l9Any_1 v1_0 v1_1 v1_2 v1_3 v1_4)) (fun  m v1_0 v1_1 v1_2 v1_3 v1_4 => bP_spec_l9Any_1 N.spec_l9List G.spec_l9List N.spec_l1Below G.spec_l1Below N.spec_l8Any G.spec_l8Any N.spec_ValueEntry N.spec_PutEntry G.spec_PutEntry n  m v1_0 v1_1 v1_2 v1_3 v1_4))⟩)
abbrev G.spec_DrawPutEntry (l : List Int) : Bool := decide (l.length ≤ 1048576)
abbrev N.spec_DrawPutEntry (l : List Int) : List TEntry × TEntry := putD l
def spec_DrawPutEntry {ρ : Type} (k : (List TEntry) → TEntry → Option ρ) (a0 : (List Int)) : Option ρ := (cond (G.spec_l1New a0) (cond (G.spec_l9Any (N.spec_l1New a0)) (cond (G.spec_l8Any (N.spec_l9Any (N.spec_l1New a0)).1) (k (N.spec_l9Any (N.spec_l1New a0)).2 (N.spec_l8Any (N.spec_l9Any (N.spec_l1New a0)).1).2) none) none) none)
theorem spec_DrawPutEntry_ok {ρ : Type} (k : (List TEntry) → TEntry → Option ρ) (a0 : (List Int)) (l_a0 : lnL (fun _ => True) a0) (g : G.spec_DrawPutEntry a0 = true) : spec_DrawPutEntry k  a0 = k (N.spec_DrawPutEntry a0).1 (N.spec_DrawPutEntry a0).2 := by
  unfold G.spec_DrawPutEntry at g
  have h0 := okC_new (of_decide_eq_true g)
  have h1 := okC_anyEs h0
  simp only [spec_DrawPutEntry, G.spec_l1New, N.spec_l1New, G.spec_l9Any, N.spec_l9Any, G.spec_l8Any, N.spec_l8Any, g, h0, h1, cond_true]
  rfl
def OP_spec_DrawPutEntry (f0 : (List Int) → TCur) (g0 : (List Int) → Bool) (f1 : TCur → (TCur × (List TEntry))) (g1 : TCur → Bool) (f2 : TCur → (TCur × TEntry)) (g2 : TCur → Bool) : Orac := (orcX 21 [.lend (.pair (.slice 5 (.int .u8)) (.pair (.int .i64) (.int .i64))) .no] (fun d => g2 d.1) (fun d => [⟨(.pair (.slice 5 (.int .u8)) (.pair (.int .i64) (.int .i64))), (f2 d.1).1⟩, ⟨TyEntry, (f2 d.1).2⟩]) (orcX 20 [.lend (.pair (.slice 5 (.int .u8)) (.pair (.int .i64) (.int .i64))) .no] (fun d => g1 d.1) (fun d => [⟨(.pair (.slice 5 (.int .u8)) (.pair (.int .i64) (.int .i64))), (f1 d.1).1⟩, ⟨(.slice 27 TyEntry), (f1 d.1).2⟩]) (orcX 19 [.lend .bool .nil, .val (.slice 5 (.int .u8))] (fun d => g0 d.2.1) (fun d => [⟨(.pair (.slice 5 (.int .u8)) (.pair (.int .i64) (.int .i64))), f0 d.2.1⟩]) nilO)))
def O_spec_DrawPutEntry : Orac := OP_spec_DrawPutEntry N.spec_l1New G.spec_l1New N.spec_l9Any G.spec_l9Any N.spec_l8Any G.spec_l8Any
def spec_DrawPutEntry_P {ρ : Type} (f0 : (List Int) → TCur) (g0 : (List Int) → Bool) (f1 : TCur → (TCur × (List TEntry))) (g1 : TCur → Bool) (f2 : TCur → (TCur × TEntry)) (g2 : TCur → Bool) (k : (List TEntry) → TEntry → Option ρ) (a0 : (List Int)) : Option ρ := (cond (g0 a0) (cond (g1 (f0 a0)) (cond (g2 (f1 (f0 a0)).1) (k (f1 (f0 a0)).2 (f2 (f1 (f0 a0)).1).2) none) none) none)
theorem ok_spec_DrawPutEntry : OracOk Tryz.prog sigs O_spec_DrawPutEntry := (orcB_ok rfl (fun d g => said_spec_l8Any d.1 g) (orcB_ok rfl (fun d g => said_spec_l9Any d.1 g) (orcN_ok rfl (fun d g => said_spec_l1New d.2.1 g) nilO_ok)))
def A_spec_DrawPutEntry : Ann := fun b => ⟨[], []⟩
theorem aP_spec_DrawPutEntry (f0 : (List Int) → TCur) (g0 : (List Int) → Bool) (f1 : TCur → (TCur × (List TEntry))) (g1 : TCur → Bool) (f2 : TCur → (TCur × TEntry)) (g2 : TCur → Bool) (n : Nat) (a0 : (List Int)) : absF tab sigs (OP_spec_DrawPutEntry f0 g0 f1 g1 f2 g2) A_spec_DrawPutEntry Tryz.f5 [((.slice 27 TyEntry), .no), (TyEntry, .no)] n [.val (.slice 5 (.int .u8)) a0] = spec_DrawPutEntry_P f0 g0 f1 g1 f2 g2 (fun r0 r1 => some [⟨(.slice 27 TyEntry), r0⟩, ⟨TyEntry, r1⟩])  a0 := by kernel_rfl
theorem said_spec_DrawPutEntry (a0 : (List Int)) (g : G.spec_DrawPutEntry a0 = true) : Said Tryz.prog sigs_5 5 [.val (.slice 5 (.int .u8)) a0] [⟨(.slice 27 TyEntry), (N.spec_DrawPutEntry a0).1⟩, ⟨TyEntry, (N.spec_DrawPutEntry a0).2⟩] := said_len (T := tab) (A := A_spec_DrawPutEntry) tabOk ok_spec_DrawPutEntry tabOk.follows Tryz.func5 (by kernel_rfl) (by kernel_rfl) (fun hl => ⟨0, (aP_spec_DrawPutEntry N.spec_l1New G.spec_l1New N.spec_l9Any G.spec_l9Any N.spec_l8Any G.spec_l8Any 0 a0).trans (spec_DrawPutEntry_ok (ρ := Ret) (fun r0 r1 => some [⟨(.slice 27 TyEntry), r0⟩, ⟨TyEntry, r1⟩]) a0 hl.1 g)⟩)
abbrev G.slices_Clone_string (a : List ByteArray) : Bool := decide (a.length ≤ 1048576)
abbrev N.slices_Clone_string (a : List ByteArray) : List ByteArray := a
noncomputable def slices_Clone_string {ρ : Type} (k : (List ByteArray) → Option ρ) (a0 : (List ByteArray)) : Option ρ := (cond (List.isEmpty a0) (both (k []) (cond (fit (List.length ([] : (List ByteArray))) (List.length a0)) (k (List.append ([] : (List ByteArray)) a0)) none)) (cond (fit (List.length ([] : (List ByteArray))) (List.length a0)) (k (List.append ([] : (List ByteArray)) a0)) none))
theorem slices_Clone_string_ok {ρ : Type} (k : (List ByteArray) → Option ρ) (a0 : (List ByteArray)) (l_a0 : lnL (fun _ => True) a0) (g : G.slices_Clone_string a0 = true) : slices_Clone_string k  a0 = k (N.slices_Clone_string a0) := by
  unfold G.slices_Clone_string at g
  have h1 : fit (List.length ([] : List ByteArray)) (List.length a0) = true := fit_of (by have := of_decide_eq_true g; simp; omega)
  unfold slices_Clone_string
  rw [h1]
  cases a0 with
  | nil => exact both_self _
  | cons x l => rfl
def O_slices_Clone_string : Orac := nilO
theorem ok_slices_Clone_string : OracOk Tryz.prog sigs O_slices_Clone_string := nilO_ok
def A_slices_Clone_string : Ann := fun b => ⟨[], []⟩
theorem a_slices_Clone_string (n : Nat) (a0 : (List ByteArray)) : absF tab sigs O_slices_Clone_string A_slices_Clone_string Tryz.f53 [((.slice 9 .str), (.own 0))] n [.val (.slice 9 .str) a0] = slices_Clone_string (fun r0 => some [⟨(.slice 9 .str), r0⟩])  a0 := by kernel_rfl
theorem said_slices_Clone_string (a0 : (List ByteArray)) (g : G.slices_Clone_string a0 = true) : Said Tryz.prog sigs_53 53 [.val (.slice 9 .str) a0] [⟨(.slice 9 .str), N.slices_Clone_string a0⟩] := said_len (T := tab) (A := A_slices_Clone_string) tabOk ok_slices_Clone_string tabOk.follows Tryz.func53 (by kernel_rfl) (by kernel_rfl) (fun hl => ⟨0, (a_slices_Clone_string 0 a0).trans (slices_Clone_string_ok (ρ := Ret) (fun r0 => some [⟨(.slice 9 .str), r0⟩]) a0 hl.1 g)⟩)
abbrev G.impl_copyEntry (e : TEntry) : Bool := decide (e.2.2.2.length ≤ 1048576)
abbrev N.impl_copyEntry (e : TEntry) : TEntry := e
def impl_copyEntry {ρ : Type} (k : TEntry → Option ρ) (a0 : TEntry) : Option ρ := (cond (G.slices_Clone_string a0.2.2.2) (k (a0.1, (a0.2.1, (a0.2.2.1, (N.slices_Clone_string a0.2.2.2))))) none)
theorem impl_copyEntry_ok {ρ : Type} (k : TEntry → Option ρ) (a0 : TEntry) (l_a0 : (True ∧ (True ∧ (True ∧ lnL (fun _ => True) a0.2.2.2)))) (g : G.impl_copyEntry a0 = true) : impl_copyEntry k  a0 = k (N.impl_copyEntry a0) := by
  unfold G.impl_copyEntry at g
  simp only [impl_copyEntry, G.slices_Clone_string, N.slices_Clone_string, g, cond_true]
def OP_impl_copyEntry (f0 : (List ByteArray) → (List ByteArray)) (g0 : (List ByteArray) → Bool) : Orac := (orcX 53 [.val (.slice 9 .str)] (fun d => g0 d.1) (fun d => [⟨(.slice 9 .str), f0 d.1⟩]) nilO)
def O_impl_copyEntry : Orac := OP_impl_copyEntry N.slices_Clone_string G.slices_Clone_string
def impl_copyEntry_P {ρ : Type} (f0 : (List ByteArray) → (List ByteArray)) (g0 : (List ByteArray) → Bool) (k : TEntry → Option ρ) (a0 : TEntry) : Option ρ := (cond (g0 a0.2.2.2) (k (a0.1, (a0.2.1, (a0.2.2.1, (f0 a0.2.2.2))))) none)
theorem ok_impl_copyEntry : OracOk Tryz.prog sigs O_impl_copyEntry := (orcX_ok rfl rfl (fun d g => said_slices_Clone_string d.1 g) nilO_ok)
def A_impl_copyEntry : Ann := fun b => ⟨[], []⟩
theorem aP_impl_copyEntry (f0 : (List ByteArray) → (List ByteArray)) (g0 : (List ByteArray) → Bool) (n : Nat) (a0 : TEntry) : absF tab sigs (OP_impl_copyEntry f0 g0) A_impl_copyEntry Tryz.f26 [(TyEntry, (.pair .no (.pair .no (.pair .no (.own 0)))))] n [.val TyEntry a0] = impl_copyEntry_P f0 g0 (fun r0 => some [⟨TyEntry, r0⟩])  a0 := by kernel_rfl
theorem said_impl_copyEntry (a0 : TEntry) (g : G.impl_copyEntry a0 = true) : Said Tryz.prog sigs_26 26 [.val TyEntry a0] [⟨TyEntry, N.impl_copyEntry a0⟩] := said_len (T := tab) (A := A_impl_copyEntry) tabOk ok_impl_copyEntry tabOk.follows Tryz.func26 (by kernel_rfl) (by kernel_rfl) (fun hl => ⟨0, (aP_impl_copyEntry N.slices_Clone_string G.slices_Clone_string 0 a0).trans (impl_copyEntry_ok (ρ := Ret) (fun r0 => some [⟨TyEntry, r0⟩]) a0 hl.1 g)⟩)
abbrev G.impl_copyEntries (l : List TEntry) : Bool := decide (wEs l ≤ 1048576)
abbrev N.impl_copyEntries (l : List TEntry) : List TEntry := l
def impl_copyEntries_P_L0 {ρ : Type} (f0 : TEntry → TEntry) (g0 : TEntry → Bool) (k : (List TEntry) → Option ρ) (L0 : (List TEntry) → Int → Int → (List TEntry) → Option ρ) (v0_0 : (List TEntry)) (v0_1 : Int) (v0_2 : Int) (v0_3 : (List TEntry)) : Option ρ := (cond (decide (v0_2 < v0_1)) (cond (inRange v0_2 (List.length v0_0)) (cond (g0 (List.getD v0_0 (Int.toNat v0_2) (ByteArray.empty, ((0 : Int), ((0 : Int), []))))) (cond (fit (List.length v0_3) (List.length [(f0 (List.getD v0_0 (Int.toNat v0_2) (ByteArray.empty, ((0 : Int), ((0 : Int), [])))))])) (L0 v0_0 v0_1 (IntKind.wrap .i64 (v0_2 + (1 : Int))) (List.append v0_3 [(f0 (List.getD v0_0 (Int.toNat v0_2) (ByteArray.empty, ((0 : Int), ((0 : Int), [])))))])) none) none) none) (k v0_3))
def impl_copyEntries_P {ρ : Type} (f0 : TEntry → TEntry) (g0 : TEntry → Bool) (k : (List TEntry) → Option ρ) (L0 : (List TEntry) → Int → Int → (List TEntry) → Option ρ) (a0 : (List TEntry)) : Option ρ := (L0 a0 (List.length a0 : Int) (0 : Int) ([] : (List (ByteArray × (Int × (Int × (List ByteArray)))))))
def impl_copyEntries_L0 {ρ : Type} (k : (List TEntry) → Option ρ) (L0 : (List TEntry) → Int → Int → (List TEntry) → Option ρ) (v0_0 : (List TEntry)) (v0_1 : Int) (v0_2 : Int) (v0_3 : (List TEntry)) : Option ρ := impl_copyEntries_P_L0 N.impl_copyEntry G.impl_copyEntry k L0 v0_0 v0_1 v0_2 v0_3
def impl_copyEntries {ρ : Type} (k : (List TEntry) → Option ρ) (L0 : (List TEntry) → Int → Int → (List TEntry) → Option ρ) (a0 : (List TEntry)) : Option ρ := impl_copyEntries_P N.impl_copyEntry G.impl_copyEntry k L0 a0
theorem impl_copyEntries_ok {ρ : Type} (k : (List TEntry) → Option ρ) (a0 : (List TEntry)) (l_a0 : lnL (fun y => (True ∧ (True ∧ (True ∧ lnL (fun _ => True) y.2.2.2)))) a0) (g : G.impl_copyEntries a0 = true) : ∃ n0, ∀ n, n0 ≤ n → ∀ (L0 : Nat → (List TEntry) → Int → Int → (List TEntry) → Option ρ) (h0 : ∀ ( m : Nat) (v0_0 : (List TEntry)) (v0_1 : Int) (v0_2 : Int) (v0_3 : (List TEntry)), L0 (m + 1) v0_0 v0_1 v0_2 v0_3 = impl_copyEntries_L0 k (L0 m) v0_0 v0_1 v0_2 v0_3), impl_copyEntries k (L0 n) a0 = k (N.impl_copyEntries a0) := by
  unfold G.impl_copyEntries at g
  have hw : wEs a0 ≤ 1048576 := of_decide_eq_true g
  have hl := wEs_ge a0
  refine ⟨a0.length + 1, fun n hn L0 h0 => ?_⟩
  have go : ∀ (d n j : Nat), d + j = a0.length → d < n → L0 n a0 (a0.length : Int) (j : Int) (a0.take j) = k a0 := by
    intro d
    induction d with
    | zero =>
      intro n j hd hn
      obtain ⟨m, rfl⟩ : ∃ m, n = m + 1 := ⟨n - 1, by omega⟩
      have e1 : decide ((j : Int) < (a0.length : Int)) = false := decide_eq_false (by omega)
      rw [h0]
      simp only [impl_copyEntries_L0, impl_copyEntries_P_L0, e1, cond_false]
      rw [List.take_of_length_le (by omega)]
    | succ d ih =>
      intro n j hd hn
      obtain ⟨m, rfl⟩ : ∃ m, n = m + 1 := ⟨n - 1, by omega⟩
      have hj : j < a0.length := by omega
      have hm := wEs_mem (getD_mem (d := (ByteArray.empty, (0, (0, [])))) hj)
      have g2 : decide ((a0.getD j (ByteArray.empty, (0, (0, [])))).2.2.2.length ≤ 1048576) = true := decide_eq_true (by
        have h1 := wP_ge (a0.getD j (ByteArray.empty, (0, (0, [])))).2.2.2
        unfold wE at hm
        omega)
      have hf : ∀ x : TEntry, fit (List.length (a0.take j)) (List.length [x]) = true := fun x => fit_of (by simp; omega)
      have ht : (a0.take j).append [a0.getD j (ByteArray.empty, (0, (0, [])))] = a0.take (j + 1) := by
        show a0.take j ++ [_] = _
        rw [List.getD_eq_getElem?_getD, List.getElem?_eq_getElem hj, List.take_succ_eq_append_getElem hj]
        rfl
      rw [h0]
      simp only [impl_copyEntries_L0, impl_copyEntries_P_L0, lt_nat, inRange_nat, decide_eq_true hj, cond_true, Int.toNat_natCast, G.impl_copyEntry, N.impl_copyEntry, g2, hf, wrap_succ (j := j) (by unfold big; omega), ht]
      exact ih m (j + 1) (by omega) (by omega)
  exact go a0.length n 0 (by omega) (by omega)
def OP_impl_copyEntries (f0 : TEntry → TEntry) (g0 : TEntry → Bool) : Orac := (orcX 26 [.val TyEntry] (fun d => g0 d.1) (fun d => [⟨TyEntry, f0 d.1⟩]) nilO)
def O_impl_copyEntries : Orac := OP_impl_copyEntries N.impl_copyEntry G.impl_copyEntry
theorem ok_impl_copyEntries : OracOk Tryz.prog sigs O_impl_copyEntries := (orcX_ok rfl rfl (fun d g => said_impl_copyEntry d.1 g) nilO_ok)
def A_impl_copyEntries : Ann := fun b => cond (Nat.beq b 0) ⟨[(3, true), (7, false), (8, false), (9, false)], []⟩ (⟨[], []⟩)
def S_impl_copyEntries_0 (v0_0 : (List TEntry)) (v0_1 : Int) (v0_2 : Int) (v0_3 : (List TEntry)) : St := [(kT 3, some (.tv (.v (.slice 27 TyEntry) [] (.own 24)))), (kT 7, some (.tv (.v (.slice 27 TyEntry) v0_0 .no))), (kT 8, some (.tv (.v (.int .i64) v0_1 .no))), (kT 9, some (.tv (.v (.int .i64) v0_2 .no))), (kR 24, some (.row 27 TyEntry v0_3))]
noncomputable def L_P_impl_copyEntries_0 (f0 : TEntry → TEntry) (g0 : TEntry → Bool) (n m : Nat) : St → Option Ret := loopOf tab sigs (OP_impl_copyEntries f0 g0) A_impl_copyEntries Tryz.f22 [((.slice 27 TyEntry), (.own 0))] n (fun _ => 0) 0 m
theorem bP_impl_copyEntries_0 (f0 : TEntry → TEntry) (g0 : TEntry → Bool) (n m : Nat) (v0_0 : (List TEntry)) (v0_1 : Int) (v0_2 : Int) (v0_3 : (List TEntry)) : L_P_impl_copyEntries_0 f0 g0 n (m + 1) (S_impl_copyEntries_0 v0_0 v0_1 v0_2 v0_3) = impl_copyEntries_P_L0 f0 g0 (fun r0 => some [⟨(.slice 27 TyEntry), r0⟩]) (fun v0_0 v0_1 v0_2 v0_3 => L_P_impl_copyEntries_0 f0 g0 n m (S_impl_copyEntries_0 v0_0 v0_1 v0_2 v0_3)) v0_0 v0_1 v0_2 v0_3 := by kernel_rfl
theorem aP_impl_copyEntries (f0 : TEntry → TEntry) (g0 : TEntry → Bool) (n : Nat) (a0 : (List TEntry)) : absF tab sigs (OP_impl_copyEntries f0 g0) A_impl_copyEntries Tryz.f22 [((.slice 27 TyEntry), (.own 0))] n [.val (.slice 27 TyEntry) a0] = impl_copyEntries_P f0 g0 (fun r0 => some [⟨(.slice 27 TyEntry), r0⟩]) (fun v0_0 v0_1 v0_2 v0_3 => L_P_impl_copyEntries_0 f0 g0 n n (S_impl_copyEntries_0 v0_0 v0_1 v0_2 v0_3)) a0 := by kernel_rfl
theorem said_impl_copyEntries (a0 : (List TEntry)) (g : G.impl_copyEntries a0 = true) : Said Tryz.prog sigs_22 22 [.val (.slice 27 TyEntry) a0] [⟨(.slice 27 TyEntry), N.impl_copyEntries a0⟩] := said_len (T := tab) (A := A_impl_copyEntries) tabOk ok_impl_copyEntries tabOk.follows Tryz.func22 (by kernel_rfl) (by kernel_rfl) (fun hl => let ⟨n, hn⟩ := impl_copyEntries_ok (ρ := Ret) (fun r0 => some [⟨(.slice 27 TyEntry), r0⟩]) a0 hl.1 g; ⟨n, (aP_impl_copyEntries N.impl_copyEntry G.impl_copyEntry n a0).trans (hn n (Nat.le_refl n) (fun  m v0_0 v0_1 v0_2 v0_3 => L_P_impl_copyEntries_0 N.impl_copyEntry G.impl_copyEntry n  m (S_impl_copyEntries_0 v0_0 v0_1 v0_2 v0_3)) (fun  m v0_0 v0_1 v0_2 v0_3 => bP_impl_copyEntries_0 N.impl_copyEntry G.impl_copyEntry n  m v0_0 v0_1 v0_2 v0_3))⟩)
abbrev N.impl_InRange (n lo hi : Int) : Bool := inR n lo hi
def impl_InRange {ρ : Type} (k : Bool → Option ρ) (a0 : Int) (a1 : Int) (a2 : Int) : Option ρ := (cond (decide (a1 ≤ a0)) (k (decide (a0 ≤ a2))) (k false))
theorem impl_InRange_ok {ρ : Type} (k : Bool → Option ρ) (a0 : Int) (a1 : Int) (a2 : Int) : impl_InRange k  a0 a1 a2 = k (N.impl_InRange a0 a1 a2) := by
  simp only [impl_InRange, inR]
  cases decide (a1 ≤ a0) <;> rfl
def O_impl_InRange : Orac := nilO
theorem ok_impl_InRange : OracOk Tryz.prog sigs O_impl_InRange := nilO_ok
def A_impl_InRange : Ann := fun b => ⟨[], []⟩
theorem a_impl_InRange (n : Nat) (a0 : Int) (a1 : Int) (a2 : Int) : absF tab sigs O_impl_InRange A_impl_InRange Tryz.f57 [(.bool, .no)] n [.val (.int .i64) a0, .val (.int .i64) a1, .val (.int .i64) a2] = impl_InRange (fun r0 => some [⟨.bool, r0⟩])  a0 a1 a2 := by kernel_rfl
theorem said_impl_InRange (a0 : Int) (a1 : Int) (a2 : Int) : Said Tryz.prog sigs_57 57 [.val (.int .i64) a0, .val (.int .i64) a1, .val (.int .i64) a2] [⟨.bool, N.impl_InRange a0 a1 a2⟩] := said_len (T := tab) (A := A_impl_InRange) tabOk ok_impl_InRange tabOk.follows Tryz.func57 (by kernel_rfl) (by kernel_rfl) (fun hl => ⟨0, (a_impl_InRange 0 a0 a1 a2).trans (impl_InRange_ok (ρ := Ret) (fun r0 => some [⟨.bool, r0⟩]) a0 a1 a2)⟩)
abbrev G.impl_IsLabel (s : ByteArray) : Bool := decide (s.size ≤ 1048576)
abbrev N.impl_IsLabel (s : ByteArray) : Bool := isLabel s
def impl_IsLabel_P_L0 {ρ : Type} (f0 : Int → Int → Int → Bool) (k : Bool → Option ρ) (L0 : ByteArray → Int → Int → Option ρ) (v0_0 : ByteArray) (v0_1 : Int) (v0_2 : Int) : Option ρ := (cond (decide (v0_2 < v0_1)) (cond (inRange v0_2 (ByteArray.size v0_0)) (cond (decide ((bt v0_0 v0_2) ≥ (97 : Int))) (cond (decide ((bt v0_0 v0_2) ≤ (122 : Int))) (L0 v0_0 v0_1 (IntKind.wrap .i64 (v0_2 + (1 : Int)))) (cond (decide ((bt v0_0 v0_2) ≥ (48 : Int))) (cond (decide ((bt v0_0 v0_2) ≤ (57 : Int))) (L0 v0_0 v0_1 (IntKind.wrap .i64 (v0_2 + (1 : Int)))) (cond ((bt v0_0 v0_2) == (45 : Int)) (cond (decide (v0_2 > (0 : Int))) (cond (!(decide (v0_2 < (IntKind.wrap .i64 ((ByteArray.size v0_0 : Int) - (1 : Int)))))) (k false) (L0 v0_0 v0_1 (IntKind.wrap .i64 (v0_2 + (1 : Int))))) (k false)) (k false))) (cond ((bt v0_0 v0_2) == (45 : Int)) (cond (decide (v0_2 > (0 : Int))) (cond (!(decide (v0_2 < (IntKind.wrap .i64 ((ByteArray.size v0_0 : Int) - (1 : Int)))))) (k false) (L0 v0_0 v0_1 (IntKind.wrap .i64 (v0_2 + (1 : Int))))) (k false)) (k false)))) (cond (decide ((bt v0_0 v0_2) ≥ (48 : Int))) (cond (decide ((bt v0_0 v0_2) ≤ (57 : Int))) (L0 v0_0 v0_1 (IntKind.wrap .i64 (v0_2 + (1 : Int)))) (cond ((bt v0_0 v0_2) == (45 : Int)) (cond (decide (v0_2 > (0 : Int))) (cond (!(decide (v0_2 < (IntKind.wrap .i64 ((ByteArray.size v0_0 : Int) - (1 : Int)))))) (k false) (L0 v0_0 v0_1 (IntKind.wrap .i64 (v0_2 + (1 : Int))))) (k false)) (k false))) (cond ((bt v0_0 v0_2) == (45 : Int)) (cond (decide (v0_2 > (0 : Int))) (cond (!(decide (v0_2 < (IntKind.wrap .i64 ((ByteArray.size v0_0 : Int) - (1 : Int)))))) (k false) (L0 v0_0 v0_1 (IntKind.wrap .i64 (v0_2 + (1 : Int))))) (k false)) (k false)))) none) (k (f0 (ByteArray.size v0_0 : Int) (1 : Int) (8 : Int))))
def impl_IsLabel_P {ρ : Type} (f0 : Int → Int → Int → Bool) (k : Bool → Option ρ) (L0 : ByteArray → Int → Int → Option ρ) (a0 : ByteArray) : Option ρ := (L0 a0 (ByteArray.size a0 : Int) (0 : Int))
def impl_IsLabel_L0 {ρ : Type} (k : Bool → Option ρ) (L0 : ByteArray → Int → Int → Option ρ) (v0_0 : ByteArray) (v0_1 : Int) (v0_2 : Int) : Option ρ := impl_IsLabel_P_L0 N.impl_InRange k L0 v0_0 v0_1 v0_2
def impl_IsLabel {ρ : Type} (k : Bool → Option ρ) (L0 : ByteArray → Int → Int → Option ρ) (a0 : ByteArray) : Option ρ := impl_IsLabel_P N.impl_InRange k L0 a0
theorem impl_IsLabel_ok {ρ : Type} (k : Bool → Option ρ) (a0 : ByteArray) (g : G.impl_IsLabel a0 = true) : ∃ n0, ∀ n, n0 ≤ n → ∀ (L0 : Nat → ByteArray → Int → Int → Option ρ) (h0 : ∀ ( m : Nat) (v0_0 : ByteArray) (v0_1 : Int) (v0_2 : Int), L0 (m + 1) v0_0 v0_1 v0_2 = impl_IsLabel_L0 k (L0 m) v0_0 v0_1 v0_2), impl_IsLabel k (L0 n) a0 = k (N.impl_IsLabel a0) := by
  unfold G.impl_IsLabel at g
  have hlen : a0.size ≤ 1048576 := of_decide_eq_true g
  refine ⟨a0.size + 1, fun n hn L0 h0 => ?_⟩
  show L0 n a0 (a0.size : Int) 0 = k (isLabel a0)
  have hrun := raw_run0 (σ := Unit) (s := ()) (L := fun m i _ => L0 m a0 (a0.size : Int) i) (R := fun i _ c => impl_IsLabel_L0 k (fun _ _ i => c i ()) a0 (a0.size : Int) i) (fun m i s => h0 m a0 (a0.size : Int) i) a0.size (fun _ _ => True) (fun j _ => cond (labelBytes a0 (a0.size - j) j) (k (inR (a0.size : Int) 1 8)) (k false)) (fun j s c hj _ hc => ?_) (fun s c _ => ?_) hn trivial
  · refine hrun.trans ?_
    unfold isLabel
    rw [Nat.sub_zero]
    cases labelBytes a0 a0.size 0 <;> cases inR (a0.size : Int) 1 8 <;> rfl
  · obtain ⟨m, hm⟩ : ∃ m, a0.size - j = m + 1 := ⟨a0.size - j - 1, by omega⟩
    have hm2 : a0.size - (j + 1) = m := by omega
    have hc' := hc () trivial
    rw [hm2] at hc'
    have e1 : decide ((j : Int) < IntKind.wrap .i64 ((a0.size : Int) - 1)) = decide (j + 1 < a0.size) := by rw [wrap_id (by omega) (by omega)]; simp only [decide_eq_decide]; omega
    have e2 : decide ((j : Int) > 0) = decide (0 < j) := by simp only [decide_eq_decide]; omega
    rw [hm]
    unfold labelBytes okByte isLetter
    simp only [impl_IsLabel_L0, impl_IsLabel_P_L0, lt_nat, inRange_nat, decide_eq_true hj, cond_true, wrap_succ (j := j) (by unfold big; omega), hc', e1, e2, ge_iff_le, N.impl_InRange]
    generalize bt a0 (j : Int) = b
    cases decide (97 ≤ b) <;> cases decide (b ≤ 122) <;> cases decide (48 ≤ b) <;> cases decide (b ≤ 57) <;> cases b == 45 <;> cases decide (0 < j) <;> cases decide (j + 1 < a0.size) <;> rfl
  · rw [Nat.sub_self]
    simp [impl_IsLabel_L0, impl_IsLabel_P_L0, labelBytes]
def OP_impl_IsLabel (f0 : Int → Int → Int → Bool) : Orac := (orcX 57 [.val (.int .i64), .val (.int .i64), .val (.int .i64)] (fun d => true) (fun d => [⟨.bool, f0 d.1 d.2.1 d.2.2.1⟩]) nilO)
def O_impl_IsLabel : Orac := OP_impl_IsLabel N.impl_InRange
theorem ok_impl_IsLabel : OracOk Tryz.prog sigs O_impl_IsLabel := (orcX_ok rfl rfl (fun d g => said_impl_InRange d.1 d.2.1 d.2.2.1) nilO_ok)
def A_impl_IsLabel : Ann := fun b => cond (Nat.beq b 0) ⟨[(0, false), (6, false), (7, false)], []⟩ (⟨[], []⟩)
def S_impl_IsLabel_0 (v0_0 : ByteArray) (v0_1 : Int) (v0_2 : Int) : St := [(kT 0, some (.tv (.v .str v0_0 .no))), (kT 6, some (.tv (.v (.int .i64) v0_1 .no))), (kT 7, some (.tv (.v (.int .i64) v0_2 .no)))]
noncomputable def L_P_impl_IsLabel_0 (f0 : Int → Int → Int → Bool) (n m : Nat) : St → Option Ret := loopOf tab sigs (OP_impl_IsLabel f0) A_impl_IsLabel Tryz.f40 [(.bool, .no)] n (fun _ => 0) 0 m
theorem bP_impl_IsLabel_0 (f0 : Int → Int → Int → Bool) (n m : Nat) (v0_0 : ByteArray) (v0_1 : Int) (v0_2 : Int) : L_P_impl_IsLabel_0 f0 n (m + 1) (S_impl_IsLabel_0 v0_0 v0_1 v0_2) = impl_IsLabel_P_L0 f0 (fun r0 => some [⟨.bool, r0⟩]) (fun v0_0 v0_1 v0_2 => L_P_impl_IsLabel_0 f0 n m (S_impl_IsLabel_0 v0_0 v0_1 v0_2)) v0_0 v0_1 v0_2 := by kernel_rfl
theorem aP_impl_IsLabel (f0 : Int → Int → Int → Bool) (n : Nat) (a0 : ByteArray) : absF tab sigs (OP_impl_IsLabel f0) A_impl_IsLabel Tryz.f40 [(.bool, .no)] n [.val .str a0] = impl_IsLabel_P f0 (fun r0 => some [⟨.bool, r0⟩]) (fun v0_0 v0_1 v0_2 => L_P_impl_IsLabel_0 f0 n n (S_impl_IsLabel_0 v0_0 v0_1 v0_2)) a0 := by kernel_rfl
theorem said_impl_IsLabel (a0 : ByteArray) (g : G.impl_IsLabel a0 = true) : Said Tryz.prog sigs_40 40 [.val .str a0] [⟨.bool, N.impl_IsLabel a0⟩] := said_len (T := tab) (A := A_impl_IsLabel) tabOk ok_impl_IsLabel tabOk.follows Tryz.func40 (by kernel_rfl) (by kernel_rfl) (fun hl => let ⟨n, hn⟩ := impl_IsLabel_ok (ρ := Ret) (fun r0 => some [⟨.bool, r0⟩]) a0 g; ⟨n, (aP_impl_IsLabel N.impl_InRange n a0).trans (hn n (Nat.le_refl n) (fun  m v0_0 v0_1 v0_2 => L_P_impl_IsLabel_0 N.impl_InRange n  m (S_impl_IsLabel_0 v0_0 v0_1 v0_2)) (fun  m v0_0 v0_1 v0_2 => bP_impl_IsLabel_0 N.impl_InRange n  m v0_0 v0_1 v0_2))⟩)
abbrev N.impl_isDigest (n : Int) : Bool := isDigest n
def impl_isDigest {ρ : Type} (k : Bool → Option ρ) (a0 : Int) : Option ρ := (k (N.impl_InRange a0 (0 : Int) (2147483646 : Int)))
theorem impl_isDigest_ok {ρ : Type} (k : Bool → Option ρ) (a0 : Int) : impl_isDigest k  a0 = k (N.impl_isDigest a0) := by
  rfl
def OP_impl_isDigest (f0 : Int → Int → Int → Bool) : Orac := (orcX 57 [.val (.int .i64), .val (.int .i64), .val (.int .i64)] (fun d => true) (fun d => [⟨.bool, f0 d.1 d.2.1 d.2.2.1⟩]) nilO)
def O_impl_isDigest : Orac := OP_impl_isDigest N.impl_InRange
def impl_isDigest_P {ρ : Type} (f0 : Int → Int → Int → Bool) (k : Bool → Option ρ) (a0 : Int) : Option ρ := (k (f0 a0 (0 : Int) (2147483646 : Int)))
theorem ok_impl_isDigest : OracOk Tryz.prog sigs O_impl_isDigest := (orcX_ok rfl rfl (fun d g => said_impl_InRange d.1 d.2.1 d.2.2.1) nilO_ok)
def A_impl_isDigest : Ann := fun b => ⟨[], []⟩
theorem aP_impl_isDigest (f0 : Int → Int → Int → Bool) (n : Nat) (a0 : Int) : absF tab sigs (OP_impl_isDigest f0) A_impl_isDigest Tryz.f58 [(.bool, .no)] n [.val (.int .i64) a0] = impl_isDigest_P f0 (fun r0 => some [⟨.bool, r0⟩])  a0 := by kernel_rfl
theorem said_impl_isDigest (a0 : Int) : Said Tryz.prog sigs_58 58 [.val (.int .i64) a0] [⟨.bool, N.impl_isDigest a0⟩] := said_len (T := tab) (A := A_impl_isDigest) tabOk ok_impl_isDigest tabOk.follows Tryz.func58 (by kernel_rfl) (by kernel_rfl) (fun hl => ⟨0, (aP_impl_isDigest N.impl_InRange 0 a0).trans (impl_isDigest_ok (ρ := Ret) (fun r0 => some [⟨.bool, r0⟩]) a0)⟩)
abbrev G.impl_IsPath_s1 (s : ByteArray) : Bool := decide (s.size ≤ 1048576)
abbrev N.impl_IsPath_s1 (s : ByteArray) : Bool := !(isLabel s)
def impl_IsPath_s1 {ρ : Type} (k : Bool → Option ρ) (a0 : ByteArray) : Option ρ := (cond (G.impl_IsLabel a0) (k (!(N.impl_IsLabel a0))) none)
theorem impl_IsPath_s1_ok {ρ : Type} (k : Bool → Option ρ) (a0 : ByteArray) (g : G.impl_IsPath_s1 a0 = true) : impl_IsPath_s1 k  a0 = k (N.impl_IsPath_s1 a0) := by
  unfold G.impl_IsPath_s1 at g
  show cond (decide (a0.size ≤ 1048576)) _ none = _
  rw [g]
  rfl
def OP_impl_IsPath_s1 (f0 : ByteArray → Bool) (g0 : ByteArray → Bool) : Orac := (orcX 40 [.val .str] (fun d => g0 d.1) (fun d => [⟨.bool, f0 d.1⟩]) nilO)
def O_impl_IsPath_s1 : Orac := OP_impl_IsPath_s1 N.impl_IsLabel G.impl_IsLabel
def impl_IsPath_s1_P {ρ : Type} (f0 : ByteArray → Bool) (g0 : ByteArray → Bool) (k : Bool → Option ρ) (a0 : ByteArray) : Option ρ := (cond (g0 a0) (k (!(f0 a0))) none)
theorem ok_impl_IsPath_s1 : OracOk Tryz.prog sigs O_impl_IsPath_s1 := (orcX_ok rfl rfl (fun d g => said_impl_IsLabel d.1 g) nilO_ok)
def A_impl_IsPath_s1 : Ann := fun b => ⟨[], []⟩
theorem aP_impl_IsPath_s1 (f0 : ByteArray → Bool) (g0 : ByteArray → Bool) (n : Nat) (a0 : ByteArray) : absF tab sigs (OP_impl_IsPath_s1 f0 g0) A_impl_IsPath_s1 Tryz.f76 [(.bool, .no)] n [.val .str a0] = impl_IsPath_s1_P f0 g0 (fun r0 => some [⟨.bool, r0⟩])  a0 := by kernel_rfl
theorem said_impl_IsPath_s1 (a0 : ByteArray) (g : G.impl_IsPath_s1 a0 = true) : Said Tryz.prog sigs_76 76 [.val .str a0] [⟨.bool, N.impl_IsPath_s1 a0⟩] := said_len (T := tab) (A := A_impl_IsPath_s1) tabOk ok_impl_IsPath_s1 tabOk.follows Tryz.func76 (by kernel_rfl) (by kernel_rfl) (fun hl => ⟨0, (aP_impl_IsPath_s1 N.impl_IsLabel G.impl_IsLabel 0 a0).trans (impl_IsPath_s1_ok (ρ := Ret) (fun r0 => some [⟨.bool, r0⟩]) a0 g)⟩)
abbrev G.slices_IndexFunc_string__impl_IsPath_s1 (p : List ByteArray) : Bool := decide (wP p ≤ 1048576)
abbrev N.slices_IndexFunc_string__impl_IsPath_s1 (p : List ByteArray) : Int := idxFrom (fun s => !(isLabel s)) 0 p
def slices_IndexFunc_string__impl_IsPath_s1_P_L0 {ρ : Type} (f0 : ByteArray → Bool) (g0 : ByteArray → Bool) (k : Int → Option ρ) (L0 : (List ByteArray) → Int → Int → Option ρ) (v0_0 : (List ByteArray)) (v0_1 : Int) (v0_2 : Int) : Option ρ := (cond (decide (v0_2 < v0_1)) (cond (inRange v0_2 (List.length v0_0)) (cond (g0 (List.getD v0_0 (Int.toNat v0_2) ByteArray.empty)) (cond (f0 (List.getD v0_0 (Int.toNat v0_2) ByteArray.empty)) (k v0_2) (L0 v0_0 v0_1 (IntKind.wrap .i64 (v0_2 + (1 : Int))))) none) none) (k (-1 : Int)))
def slices_IndexFunc_string__impl_IsPath_s1_P {ρ : Type} (f0 : ByteArray → Bool) (g0 : ByteArray → Bool) (k : Int → Option ρ) (L0 : (List ByteArray) → Int → Int → Option ρ) (a0 : (List ByteArray)) : Option ρ := (L0 a0 (List.length a0 : Int) (0 : Int))
def slices_IndexFunc_string__impl_IsPath_s1_L0 {ρ : Type} (k : Int → Option ρ) (L0 : (List ByteArray) → Int → Int → Option ρ) (v0_0 : (List ByteArray)) (v0_1 : Int) (v0_2 : Int) : Option ρ := slices_IndexFunc_string__impl_IsPath_s1_P_L0 N.impl_IsPath_s1 G.impl_IsPath_s1 k L0 v0_0 v0_1 v0_2
def slices_IndexFunc_string__impl_IsPath_s1 {ρ : Type} (k : Int → Option ρ) (L0 : (List ByteArray) → Int → Int → Option ρ) (a0 : (List ByteArray)) : Option ρ := slices_IndexFunc_string__impl_IsPath_s1_P N.impl_IsPath_s1 G.impl_IsPath_s1 k L0 a0
theorem slices_IndexFunc_string__impl_IsPath_s1_ok {ρ : Type} (k : Int → Option ρ) (a0 : (List ByteArray)) (l_a0 : lnL (fun _ => True) a0) (g : G.slices_IndexFunc_string__impl_IsPath_s1 a0 = true) : ∃ n0, ∀ n, n0 ≤ n → ∀ (L0 : Nat → (List ByteArray) → Int → Int → Option ρ) (h0 : ∀ ( m : Nat) (v0_0 : (List ByteArray)) (v0_1 : Int) (v0_2 : Int), L0 (m + 1) v0_0 v0_1 v0_2 = slices_IndexFunc_string__impl_IsPath_s1_L0 k (L0 m) v0_0 v0_1 v0_2), slices_IndexFunc_string__impl_IsPath_s1 k (L0 n) a0 = k (N.slices_IndexFunc_string__impl_IsPath_s1 a0) := by
  unfold G.slices_IndexFunc_string__impl_IsPath_s1 at g
  have hw : wP a0 ≤ 1048576 := of_decide_eq_true g
  have hl : a0.length ≤ 1048576 := by unfold wP at hw; omega
  refine ⟨a0.length + 1, fun n hn L0 h0 => ?_⟩
  refine raw_idx (a := a0) ByteArray.empty (fun s => !(isLabel s)) (k := k) (σ := Unit) (s := ()) (L := fun m i _ => L0 m a0 (a0.length : Int) i) (R := fun i s c => slices_IndexFunc_string__impl_IsPath_s1_L0 k (fun _ _ i => c i ()) a0 (a0.length : Int) i) (fun m i s => h0 m a0 (a0.length : Int) i) (fun j s c hj => ?_) (fun s c => ?_) hn
  · have hm := wP_mem (getD_mem (d := ByteArray.empty) hj)
    have g2 : decide ((a0.getD j ByteArray.empty).size ≤ 1048576) = true := by simp only [decide_eq_true_eq]; omega
    simp only [slices_IndexFunc_string__impl_IsPath_s1_L0, slices_IndexFunc_string__impl_IsPath_s1_P_L0, lt_nat, inRange_nat, decide_eq_true hj, cond_true, Int.toNat_natCast, G.impl_IsPath_s1, N.impl_IsPath_s1, g2, wrap_succ (j := j) (by unfold big; omega)]
  · simp [slices_IndexFunc_string__impl_IsPath_s1_L0, slices_IndexFunc_string__impl_IsPath_s1_P_L0]
def OP_slices_IndexFunc_string__impl_IsPath_s1 (f0 : ByteArray → Bool) (g0 : ByteArray → Bool) : Orac := (orcX 76 [.val .str] (fun d => g0 d.1) (fun d => [⟨.bool, f0 d.1⟩]) nilO)
def O_slices_IndexFunc_string__impl_IsPath_s1 : Orac := OP_slices_IndexFunc_string__impl_IsPath_s1 N.impl_IsPath_s1 G.impl_IsPath_s1
theorem ok_slices_IndexFunc_string__impl_IsPath_s1 : OracOk Tryz.prog sigs O_slices_IndexFunc_string__impl_IsPath_s1 := (orcX_ok rfl rfl (fun d g => said_impl_IsPath_s1 d.1 g) nilO_ok)
def A_slices_IndexFunc_string__impl_IsPath_s1 : Ann := fun b => cond (Nat.beq b 0) ⟨[(0, false), (1, false), (7, false), (8, false)], []⟩ (⟨[], []⟩)
def S_slices_IndexFunc_string__impl_IsPath_s1_0 (v0_0 : (List ByteArray)) (v0_1 : Int) (v0_2 : Int) : St := [(kT 0, some (.tv (.v (.slice 9 .str) v0_0 .no))), (kT 1, some (.tv (.clo 76 []))), (kT 7, some (.tv (.v (.int .i64) v0_1 .no))), (kT 8, some (.tv (.v (.int .i64) v0_2 .no)))]
noncomputable def L_P_slices_IndexFunc_string__impl_IsPath_s1_0 (f0 : ByteArray → Bool) (g0 : ByteArray → Bool) (n m : Nat) : St → Option Ret := loopOf tab sigs (OP_slices_IndexFunc_string__impl_IsPath_s1 f0 g0) A_slices_IndexFunc_string__impl_IsPath_s1 Tryz.f81 [((.int .i64), .no)] n (fun _ => 0) 0 m
theorem bP_slices_IndexFunc_string__impl_IsPath_s1_0 (f0 : ByteArray → Bool) (g0 : ByteArray → Bool) (n m : Nat) (v0_0 : (List ByteArray)) (v0_1 : Int) (v0_2 : Int) : L_P_slices_IndexFunc_string__impl_IsPath_s1_0 f0 g0 n (m + 1) (S_slices_IndexFunc_string__impl_IsPath_s1_0 v0_0 v0_1 v0_2) = slices_IndexFunc_string__impl_IsPath_s1_P_L0 f0 g0 (fun r0 => some [⟨(.int .i64), r0⟩]) (fun v0_0 v0_1 v0_2 => L_P_slices_IndexFunc_string__impl_IsPath_s1_0 f0 g0 n m (S_slices_IndexFunc_string__impl_IsPath_s1_0 v0_0 v0_1 v0_2)) v0_0 v0_1 v0_2 := by kernel_rfl
theorem aP_slices_IndexFunc_string__impl_IsPath_s1 (f0 : ByteArray → Bool) (g0 : ByteArray → Bool) (n : Nat) (a0 : (List ByteArray)) : absF tab sigs (OP_slices_IndexFunc_string__impl_IsPath_s1 f0 g0) A_slices_IndexFunc_string__impl_IsPath_s1 Tryz.f81 [((.int .i64), .no)] n [.val (.slice 9 .str) a0, .clo 76 []] = slices_IndexFunc_string__impl_IsPath_s1_P f0 g0 (fun r0 => some [⟨(.int .i64), r0⟩]) (fun v0_0 v0_1 v0_2 => L_P_slices_IndexFunc_string__impl_IsPath_s1_0 f0 g0 n n (S_slices_IndexFunc_string__impl_IsPath_s1_0 v0_0 v0_1 v0_2)) a0 := by kernel_rfl
theorem said_slices_IndexFunc_string__impl_IsPath_s1 (a0 : (List ByteArray)) (g : G.slices_IndexFunc_string__impl_IsPath_s1 a0 = true) : Said Tryz.prog sigs_81 81 [.val (.slice 9 .str) a0, .clo 76 []] [⟨(.int .i64), N.slices_IndexFunc_string__impl_IsPath_s1 a0⟩] := said_len (T := tab) (A := A_slices_IndexFunc_string__impl_IsPath_s1) tabOk ok_slices_IndexFunc_string__impl_IsPath_s1 tabOk.follows Tryz.func81 (by kernel_rfl) (by kernel_rfl) (fun hl => let ⟨n, hn⟩ := slices_IndexFunc_string__impl_IsPath_s1_ok (ρ := Ret) (fun r0 => some [⟨(.int .i64), r0⟩]) a0 hl.1 g; ⟨n, (aP_slices_IndexFunc_string__impl_IsPath_s1 N.impl_IsPath_s1 G.impl_IsPath_s1 n a0).trans (hn n (Nat.le_refl n) (fun  m v0_0 v0_1 v0_2 => L_P_slices_IndexFunc_string__impl_IsPath_s1_0 N.impl_IsPath_s1 G.impl_IsPath_s1 n  m (S_slices_IndexFunc_string__impl_IsPath_s1_0 v0_0 v0_1 v0_2)) (fun  m v0_0 v0_1 v0_2 => bP_slices_IndexFunc_string__impl_IsPath_s1_0 N.impl_IsPath_s1 G.impl_IsPath_s1 n  m v0_0 v0_1 v0_2))⟩)
abbrev G.slices_ContainsFunc_string__impl_IsPath_s1 (p : List ByteArray) : Bool := decide (wP p ≤ 1048576)
abbrev N.slices_ContainsFunc_string__impl_IsPath_s1 (p : List ByteArray) : Bool := p.any (fun s => !(isLabel s))
def slices_ContainsFunc_string__impl_IsPath_s1 {ρ : Type} (k : Bool → Option ρ) (a0 : (List ByteArray)) : Option ρ := (cond (G.slices_IndexFunc_string__impl_IsPath_s1 a0) (k (decide ((N.slices_IndexFunc_string__impl_IsPath_s1 a0) ≥ (0 : Int)))) none)
theorem slices_ContainsFunc_string__impl_IsPath_s1_ok {ρ : Type} (k : Bool → Option ρ) (a0 : (List ByteArray)) (l_a0 : lnL (fun _ => True) a0) (g : G.slices_ContainsFunc_string__impl_IsPath_s1 a0 = true) : slices_ContainsFunc_string__impl_IsPath_s1 k  a0 = k (N.slices_ContainsFunc_string__impl_IsPath_s1 a0) := by
  unfold G.slices_ContainsFunc_string__impl_IsPath_s1 at g
  show cond (decide (wP a0 ≤ 1048576)) _ none = _
  rw [g]
  show k (decide (idxFrom (fun s => !(isLabel s)) 0 a0 ≥ 0)) = _
  rw [idxFrom_any]
def OP_slices_ContainsFunc_string__impl_IsPath_s1 (f0 : (List ByteArray) → Int) (g0 : (List ByteArray) → Bool) : Orac := (orcX 81 [.val (.slice 9 .str), .clo 76 []] (fun d => g0 d.1) (fun d => [⟨(.int .i64), f0 d.1⟩]) nilO)
def O_slices_ContainsFunc_string__impl_IsPath_s1 : Orac := OP_slices_ContainsFunc_string__impl_IsPath_s1 N.slices_IndexFunc_string__impl_IsPath_s1 G.slices_IndexFunc_string__impl_IsPath_s1
def slices_ContainsFunc_string__impl_IsPath_s1_P {ρ : Type} (f0 : (List ByteArray) → Int) (g0 : (List ByteArray) → Bool) (k : Bool → Option ρ) (a0 : (List ByteArray)) : Option ρ := (cond (g0 a0) (k (decide ((f0 a0) ≥ (0 : Int)))) none)
theorem ok_slices_ContainsFunc_string__impl_IsPath_s1 : OracOk Tryz.prog sigs O_slices_ContainsFunc_string__impl_IsPath_s1 := (orcX_ok rfl rfl (fun d g => said_slices_IndexFunc_string__impl_IsPath_s1 d.1 g) nilO_ok)
def A_slices_ContainsFunc_string__impl_IsPath_s1 : Ann := fun b => ⟨[], []⟩
theorem aP_slices_ContainsFunc_string__impl_IsPath_s1 (f0 : (List ByteArray) → Int) (g0 : (List ByteArray) → Bool) (n : Nat) (a0 : (List ByteArray)) : absF tab sigs (OP_slices_ContainsFunc_string__impl_IsPath_s1 f0 g0) A_slices_ContainsFunc_string__impl_IsPath_s1 Tryz.f75 [(.bool, .no)] n [.val (.slice 9 .str) a0, .clo 76 []] = slices_ContainsFunc_string__impl_IsPath_s1_P f0 g0 (fun r0 => some [⟨.bool, r0⟩])  a0 := by kernel_rfl
theorem said_slices_ContainsFunc_string__impl_IsPath_s1 (a0 : (List ByteArray)) (g : G.slices_ContainsFunc_string__impl_IsPath_s1 a0 = true) : Said Tryz.prog sigs_75 75 [.val (.slice 9 .str) a0, .clo 76 []] [⟨.bool, N.slices_ContainsFunc_string__impl_IsPath_s1 a0⟩] := said_len (T := tab) (A := A_slices_ContainsFunc_string__impl_IsPath_s1) tabOk ok_slices_ContainsFunc_string__impl_IsPath_s1 tabOk.follows Tryz.func75 (by kernel_rfl) (by kernel_rfl) (fun hl => ⟨0, (aP_slices_ContainsFunc_string__impl_IsPath_s1 N.slices_IndexFunc_string__impl_IsPath_s1 G.slices_IndexFunc_string__impl_IsPath_s1 0 a0).trans (slices_ContainsFunc_string__impl_IsPath_s1_ok (ρ := Ret) (fun r0 => some [⟨.bool, r0⟩]) a0 hl.1 g)⟩)
abbrev G.impl_IsPath (p : List ByteArray) : Bool := decide (wP p ≤ 1048576)
abbrev N.impl_IsPath (p : List ByteArray) : Bool := isPath p
def impl_IsPath {ρ : Type} (k : Bool → Option ρ) (a0 : (List ByteArray)) : Option ρ := (cond (N.impl_InRange (List.length a0 : Int) (1 : Int) (4 : Int)) (cond (G.slices_ContainsFunc_string__impl_IsPath_s1 a0) (k (!(N.slices_ContainsFunc_string__impl_IsPath_s1 a0))) none) (k false))
theorem impl_IsPath_ok {ρ : Type} (k : Bool → Option ρ) (a0 : (List ByteArray)) (l_a0 : lnL (fun _ => True) a0) (g : G.impl_IsPath a0 = true) : impl_IsPath k  a0 = k (N.impl_IsPath a0) := by
  unfold G.impl_IsPath at g
  show cond (inR (a0.length : Int) 1 4) (cond (decide (wP a0 ≤ 1048576)) (k (!(a0.any (fun s => !(isLabel s))))) none) (k false) = k (inR (a0.length : Int) 1 4 && a0.all isLabel)
  rw [g, any_not]
  cases inR (a0.length : Int) 1 4 <;> rfl
def OP_impl_IsPath (f0 : Int → Int → Int → Bool) (f1 : (List ByteArray) → Bool) (g1 : (List ByteArray) → Bool) : Orac := (orcX 75 [.val (.slice 9 .str), .clo 76 []] (fun d => g1 d.1) (fun d => [⟨.bool, f1 d.1⟩]) (orcX 57 [.val (.int .i64), .val (.int .i64), .val (.int .i64)] (fun d => true) (fun d => [⟨.bool, f0 d.1 d.2.1 d.2.2.1⟩]) nilO))
def O_impl_IsPath : Orac := OP_impl_IsPath N.impl_InRange N.slices_ContainsFunc_string__impl_IsPath_s1 G.slices_ContainsFunc_string__impl_IsPath_s1
def impl_IsPath_P {ρ : Type} (f0 : Int → Int → Int → Bool) (f1 : (List ByteArray) → Bool) (g1 : (List ByteArray) → Bool) (k : Bool → Option ρ) (a0 : (List ByteArray)) : Option ρ := (cond (f0 (List.length a0 : Int) (1 : Int) (4 : Int)) (cond (g1 a0) (k (!(f1 a0))) none) (k false))
theorem ok_impl_IsPath : OracOk Tryz.prog sigs O_impl_IsPath := (orcX_ok rfl rfl (fun d g => said_slices_ContainsFunc_string__impl_IsPath_s1 d.1 g) (orcX_ok rfl rfl (fun d g => said_impl_InRange d.1 d.2.1 d.2.2.1) nilO_ok))
def A_impl_IsPath : Ann := fun b => ⟨[], []⟩
theorem aP_impl_IsPath (f0 : Int → Int → Int → Bool) (f1 : (List ByteArray) → Bool) (g1 : (List ByteArray) → Bool) (n : Nat) (a0 : (List ByteArray)) : absF tab sigs (OP_impl_IsPath f0 f1 g1) A_impl_IsPath Tryz.f59 [(.bool, .no)] n [.val (.slice 9 .str) a0] = impl_IsPath_P f0 f1 g1 (fun r0 => some [⟨.bool, r0⟩])  a0 := by kernel_rfl
theorem said_impl_IsPath (a0 : (List ByteArray)) (g : G.impl_IsPath a0 = true) : Said Tryz.prog sigs_59 59 [.val (.slice 9 .str) a0] [⟨.bool, N.impl_IsPath a0⟩] := said_len (T := tab) (A := A_impl_IsPath) tabOk ok_impl_IsPath tabOk.follows Tryz.func59 (by kernel_rfl) (by kernel_rfl) (fun hl => ⟨0, (aP_impl_IsPath N.impl_InRange N.slices_ContainsFunc_string__impl_IsPath_s1 G.slices_ContainsFunc_string__impl_IsPath_s1 0 a0).trans (impl_IsPath_ok (ρ := Ret) (fun r0 => some [⟨.bool, r0⟩]) a0 hl.1 g)⟩)
abbrev G.impl_IsEntry (e : TEntry) : Bool := decide (wE e ≤ 1048576)
abbrev N.impl_IsEntry (e : TEntry) : Bool := isEntry e
def impl_IsEntry_P {ρ : Type} (f0 : ByteArray → Bool) (g0 : ByteArray → Bool) (f1 : Int → Int → Int → Bool) (f2 : Int → Bool) (f3 : (List ByteArray) → Bool) (g3 : (List ByteArray) → Bool) (k : Bool → Option ρ) (a0 : TEntry) : Option ρ := (cond (g0 a0.1) (cond (!(f0 a0.1)) (k false) (cond (a0.2.1 == (1 : Int)) (cond (f1 a0.2.2.1 (0 : Int) (999999 : Int)) (k ((List.length a0.2.2.2 : Int) == (0 : Int))) (k false)) (cond (a0.2.1 == (2 : Int)) (cond (f2 a0.2.2.1) (k ((List.length a0.2.2.2 : Int) == (0 : Int))) (k false)) (cond (a0.2.1 == (3 : Int)) (cond (f2 a0.2.2.1) (cond (g3 a0.2.2.2) (k (f3 a0.2.2.2)) none) (k false)) (k false))))) none)
def impl_IsEntry {ρ : Type} (k : Bool → Option ρ) (a0 : TEntry) : Option ρ := impl_IsEntry_P N.impl_IsLabel G.impl_IsLabel N.impl_InRange N.impl_isDigest N.impl_IsPath G.impl_IsPath k a0
theorem impl_IsEntry_ok {ρ : Type} (k : Bool → Option ρ) (a0 : TEntry) (l_a0 : (True ∧ (True ∧ (True ∧ lnL (fun _ => True) a0.2.2.2)))) (g : G.impl_IsEntry a0 = true) : impl_IsEntry k  a0 = k (N.impl_IsEntry a0) := by
  unfold G.impl_IsEntry at g
  have hw : wE a0 ≤ 1048576 := of_decide_eq_true g
  have g1 : decide (a0.1.size ≤ 1048576) = true := by unfold wE at hw; simp; omega
  have g2 : decide (wP a0.2.2.2 ≤ 1048576) = true := by unfold wE at hw; simp; omega
  simp only [impl_IsEntry, impl_IsEntry_P, G.impl_IsLabel, N.impl_IsLabel, G.impl_IsPath, N.impl_IsPath, N.impl_InRange, N.impl_isDigest, g1, g2, cond_true, isEntry]
  by_cases h1 : a0.2.1 = 1
  · have e1 : (a0.2.1 == 1) = true := by simp [h1]
    have e2 : (a0.2.1 == 2) = false := by simp [h1]
    have e3 : (a0.2.1 == 3) = false := by simp [h1]
    simp only [e1, e2, e3]
    cases isLabel a0.1 <;> cases inR a0.2.2.1 0 999999 <;> simp
  by_cases h2 : a0.2.1 = 2
  · have e1 : (a0.2.1 == 1) = false := by simp [h2]
    have e2 : (a0.2.1 == 2) = true := by simp [h2]
    have e3 : (a0.2.1 == 3) = false := by simp [h2]
    simp only [e1, e2, e3]
    cases isLabel a0.1 <;> cases isDigest a0.2.2.1 <;> simp
  have e1 : (a0.2.1 == 1) = false := by simp [h1]
  have e2 : (a0.2.1 == 2) = false := by simp [h2]
  simp only [e1, e2]
  cases a0.2.1 == 3 <;> cases isLabel a0.1 <;> cases isDigest a0.2.2.1 <;> simp
def OP_impl_IsEntry (f0 : ByteArray → Bool) (g0 : ByteArray → Bool) (f1 : Int → Int → Int → Bool) (f2 : Int → Bool) (f3 : (List ByteArray) → Bool) (g3 : (List ByteArray) → Bool) : Orac := (orcX 59 [.val (.slice 9 .str)] (fun d => g3 d.1) (fun d => [⟨.bool, f3 d.1⟩]) (orcX 58 [.val (.int .i64)] (fun d => true) (fun d => [⟨.bool, f2 d.1⟩]) (orcX 57 [.val (.int .i64), .val (.int .i64), .val (.int .i64)] (fun d => true) (fun d => [⟨.bool, f1 d.1 d.2.1 d.2.2.1⟩]) (orcX 40 [.val .str] (fun d => g0 d.1) (fun d => [⟨.bool, f0 d.1⟩]) nilO))))
def O_impl_IsEntry : Orac := OP_impl_IsEntry N.impl_IsLabel G.impl_IsLabel N.impl_InRange N.impl_isDigest N.impl_IsPath G.impl_IsPath
theorem ok_impl_IsEntry : OracOk Tryz.prog sigs O_impl_IsEntry := (orcX_ok rfl rfl (fun d g => said_impl_IsPath d.1 g) (orcX_ok rfl rfl (fun d g => said_impl_isDigest d.1) (orcX_ok rfl rfl (fun d g => said_impl_InRange d.1 d.2.1 d.2.2.1) (orcX_ok rfl rfl (fun d g => said_impl_IsLabel d.1 g) nilO_ok))))
def A_impl_IsEntry : Ann := fun b => ⟨[], []⟩
theorem aP_impl_IsEntry (f0 : ByteArray → Bool) (g0 : ByteArray → Bool) (f1 : Int → Int → Int → Bool) (f2 : Int → Bool) (f3 : (List ByteArray) → Bool) (g3 : (List ByteArray) → Bool) (n : Nat) (a0 : TEntry) : absF tab sigs (OP_impl_IsEntry f0 g0 f1 f2 f3 g3) A_impl_IsEntry Tryz.f35 [(.bool, .no)] n [.val TyEntry a0] = impl_IsEntry_P f0 g0 f1 f2 f3 g3 (fun r0 => some [⟨.bool, r0⟩])  a0 := by kernel_rfl
theorem said_impl_IsEntry (a0 : TEntry) (g : G.impl_IsEntry a0 = true) : Said Tryz.prog sigs_35 35 [.val TyEntry a0] [⟨.bool, N.impl_IsEntry a0⟩] := said_len (T := tab) (A := A_impl_IsEntry) tabOk ok_impl_IsEntry tabOk.follows Tryz.func35 (by kernel_rfl) (by kernel_rfl) (fun hl => ⟨0, (aP_impl_IsEntry N.impl_IsLabel G.impl_IsLabel N.impl_InRange N.impl_isDigest N.impl_IsPath G.impl_IsPath 0 a0).trans (impl_IsEntry_ok (ρ := Ret) (fun r0 => some [⟨.bool, r0⟩]) a0 hl.1 g)⟩)
abbrev N.internal_bytealg_CompareString (a b : ByteArray) : Int := cmpStr a b
-- HAND
open Go.Proofs.YtcmjbplnjjdcdaaGreat in
theorem calls_cmp (a b : ByteArray) (w : World) : Calls Tryz.prog 73 #[.string a, .string b] w fun e w' => e = .returned (.int .i64 (Lib.compareBytes a.data.toList b.data.toList)) ∧ w' = w := by
  go_enter Tryz.func73, Tryz.ntmps73
  go_wp2
  rw [run_callFunc_extern Tryz.func79 (by kernel_rfl) (by kernel_rfl) (by kernel_rfl) (e := Extern.BytealgCompare.compare) (by kernel_rfl), Lib.run_compareString]
  simp only [Result.andThen]
  rw [Oper.upon_value]
  go_wp2
  go_ret
  exact ⟨rfl, rfl⟩
theorem said_internal_bytealg_CompareString (a0 a1 : ByteArray) : Said Tryz.prog sigs_73 73 [.val .str a0, .val .str a1] [⟨.int .i64, N.internal_bytealg_CompareString a0 a1⟩] :=
  said_int Tryz.func73 (by kernel_rfl) (by kernel_rfl) (fun w ok vs h => by
    obtain ⟨v0, vs0, rfl, h0, v1, vs1, rfl, h1, rfl⟩ := h
    rw [avr_str h0, avr_str h1, show N.internal_bytealg_CompareString a0 a1 = _ from (cmp_data a0 a1).symm]
    exact calls_cmp a0 a1 w)

abbrev N.strings_Compare (a b : ByteArray) : Int := cmpStr a b
def strings_Compare {ρ : Type} (k : Int → Option ρ) (a0 : ByteArray) (a1 : ByteArray) : Option ρ := (k (N.internal_bytealg_CompareString a0 a1))
theorem strings_Compare_ok {ρ : Type} (k : Int → Option ρ) (a0 : ByteArray) (a1 : ByteArray) : strings_Compare k  a0 a1 = k (N.strings_Compare a0 a1) := by
  rfl
def OP_strings_Compare (f0 : ByteArray → ByteArray → Int) : Orac := (orcX 73 [.val .str, .val .str] (fun d => true) (fun d => [⟨(.int .i64), f0 d.1 d.2.1⟩]) nilO)
def O_strings_Compare : Orac := OP_strings_Compare N.internal_bytealg_CompareString
def strings_Compare_P {ρ : Type} (f0 : ByteArray → ByteArray → Int) (k : Int → Option ρ) (a0 : ByteArray) (a1 : ByteArray) : Option ρ := (k (f0 a0 a1))
theorem ok_strings_Compare : OracOk Tryz.prog sigs O_strings_Compare := (orcX_ok rfl rfl (fun d g => said_internal_bytealg_CompareString d.1 d.2.1) nilO_ok)
def A_strings_Compare : Ann := fun b => ⟨[], []⟩
theorem aP_strings_Compare (f0 : ByteArray → ByteArray → Int) (n : Nat) (a0 : ByteArray) (a1 : ByteArray) : absF tab sigs (OP_strings_Compare f0) A_strings_Compare Tryz.f52 [((.int .i64), .no)] n [.val .str a0, .val .str a1] = strings_Compare_P f0 (fun r0 => some [⟨(.int .i64), r0⟩])  a0 a1 := by kernel_rfl
theorem said_strings_Compare (a0 : ByteArray) (a1 : ByteArray) : Said Tryz.prog sigs_52 52 [.val .str a0, .val .str a1] [⟨(.int .i64), N.strings_Compare a0 a1⟩] := said_len (T := tab) (A := A_strings_Compare) tabOk ok_strings_Compare tabOk.follows Tryz.func52 (by kernel_rfl) (by kernel_rfl) (fun hl => ⟨0, (aP_strings_Compare N.internal_bytealg_CompareString 0 a0 a1).trans (strings_Compare_ok (ρ := Ret) (fun r0 => some [⟨(.int .i64), r0⟩]) a0 a1)⟩)
abbrev N.impl_CompareLabels (a b : ByteArray) : Int := cmpStr a b
def impl_CompareLabels {ρ : Type} (k : Int → Option ρ) (a0 : ByteArray) (a1 : ByteArray) : Option ρ := (k (N.strings_Compare a0 a1))
theorem impl_CompareLabels_ok {ρ : Type} (k : Int → Option ρ) (a0 : ByteArray) (a1 : ByteArray) : impl_CompareLabels k  a0 a1 = k (N.impl_CompareLabels a0 a1) := by
  rfl
def OP_impl_CompareLabels (f0 : ByteArray → ByteArray → Int) : Orac := (orcX 52 [.val .str, .val .str] (fun d => true) (fun d => [⟨(.int .i64), f0 d.1 d.2.1⟩]) nilO)
def O_impl_CompareLabels : Orac := OP_impl_CompareLabels N.strings_Compare
def impl_CompareLabels_P {ρ : Type} (f0 : ByteArray → ByteArray → Int) (k : Int → Option ρ) (a0 : ByteArray) (a1 : ByteArray) : Option ρ := (k (f0 a0 a1))
theorem ok_impl_CompareLabels : OracOk Tryz.prog sigs O_impl_CompareLabels := (orcX_ok rfl rfl (fun d g => said_strings_Compare d.1 d.2.1) nilO_ok)
def A_impl_CompareLabels : Ann := fun b => ⟨[], []⟩
theorem aP_impl_CompareLabels (f0 : ByteArray → ByteArray → Int) (n : Nat) (a0 : ByteArray) (a1 : ByteArray) : absF tab sigs (OP_impl_CompareLabels f0) A_impl_CompareLabels Tryz.f25 [((.int .i64), .no)] n [.val .str a0, .val .str a1] = impl_CompareLabels_P f0 (fun r0 => some [⟨(.int .i64), r0⟩])  a0 a1 := by kernel_rfl
theorem said_impl_CompareLabels (a0 : ByteArray) (a1 : ByteArray) : Said Tryz.prog sigs_25 25 [.val .str a0, .val .str a1] [⟨(.int .i64), N.impl_CompareLabels a0 a1⟩] := said_len (T := tab) (A := A_impl_CompareLabels) tabOk ok_impl_CompareLabels tabOk.follows Tryz.func25 (by kernel_rfl) (by kernel_rfl) (fun hl => ⟨0, (aP_impl_CompareLabels N.strings_Compare 0 a0 a1).trans (impl_CompareLabels_ok (ρ := Ret) (fun r0 => some [⟨(.int .i64), r0⟩]) a0 a1)⟩)
abbrev G.impl_AreEntries (l : List TEntry) : Bool := decide (wEs l ≤ 1048577)
abbrev N.impl_AreEntries (l : List TEntry) : Bool := areEntries l
def impl_AreEntries_P_L0 {ρ : Type} (f0 : TEntry → Bool) (g0 : TEntry → Bool) (f1 : ByteArray → ByteArray → Int) (k : Bool → Option ρ) (L0 : (List TEntry) → (List TEntry) → Int → Int → Option ρ) (v0_0 : (List TEntry)) (v0_1 : (List TEntry)) (v0_2 : Int) (v0_3 : Int) : Option ρ := (cond (decide (v0_3 < v0_2)) (cond (inRange v0_3 (List.length v0_1)) (cond (g0 (List.getD v0_1 (Int.toNat v0_3) (ByteArray.empty, ((0 : Int), ((0 : Int), []))))) (cond (!(f0 (List.getD v0_1 (Int.toNat v0_3) (ByteArray.empty, ((0 : Int), ((0 : Int), [])))))) (k false) (cond (decide (v0_3 > (0 : Int))) (cond (inRange (IntKind.wrap .i64 (v0_3 - (1 : Int))) (List.length v0_0)) (cond (decide ((f1 (List.getD v0_1 (Int.toNat v0_3) (ByteArray.empty, ((0 : Int), ((0 : Int), [])))).1 (List.getD v0_0 (Int.toNat (IntKind.wrap .i64 (v0_3 - (1 : Int)))) (ByteArray.empty, ((0 : Int), ((0 : Int), [])))).1) ≤ (0 : Int))) (k false) (L0 v0_0 v0_1 v0_2 (IntKind.wrap .i64 (v0_3 + (1 : Int))))) none) (L0 v0_0 v0_1 v0_2 (IntKind.wrap .i64 (v0_3 + (1 : Int)))))) none) none) (k (decide ((List.length v0_0 : Int) ≤ (12 : Int)))))
def impl_AreEntries_P {ρ : Type} (f0 : TEntry → Bool) (g0 : TEntry → Bool) (f1 : ByteArray → ByteArray → Int) (k : Bool → Option ρ) (L0 : (List TEntry) → (List TEntry) → Int → Int → Option ρ) (a0 : (List TEntry)) : Option ρ := (L0 a0 a0 (List.length a0 : Int) (0 : Int))
def impl_AreEntries_L0 {ρ : Type} (k : Bool → Option ρ) (L0 : (List TEntry) → (List TEntry) → Int → Int → Option ρ) (v0_0 : (List TEntry)) (v0_1 : (List TEntry)) (v0_2 : Int) (v0_3 : Int) : Option ρ := impl_AreEntries_P_L0 N.impl_IsEntry G.impl_IsEntry N.impl_CompareLabels k L0 v0_0 v0_1 v0_2 v0_3
def impl_AreEntries {ρ : Type} (k : Bool → Option ρ) (L0 : (List TEntry) → (List TEntry) → Int → Int → Option ρ) (a0 : (List TEntry)) : Option ρ := impl_AreEntries_P N.impl_IsEntry G.impl_IsEntry N.impl_CompareLabels k L0 a0
theorem impl_AreEntries_ok {ρ : Type} (k : Bool → Option ρ) (a0 : (List TEntry)) (l_a0 : lnL (fun y => (True ∧ (True ∧ (True ∧ lnL (fun _ => True) y.2.2.2)))) a0) (g : G.impl_AreEntries a0 = true) : ∃ n0, ∀ n, n0 ≤ n → ∀ (L0 : Nat → (List TEntry) → (List TEntry) → Int → Int → Option ρ) (h0 : ∀ ( m : Nat) (v0_0 : (List TEntry)) (v0_1 : (List TEntry)) (v0_2 : Int) (v0_3 : Int), L0 (m + 1) v0_0 v0_1 v0_2 v0_3 = impl_AreEntries_L0 k (L0 m) v0_0 v0_1 v0_2 v0_3), impl_AreEntries k (L0 n) a0 = k (N.impl_AreEntries a0) := by
  unfold G.impl_AreEntries at g
  have hw : wEs a0 ≤ 1048577 := of_decide_eq_true g
  have hl : a0.length ≤ 1048577 := by unfold wEs at hw; omega
  refine ⟨a0.length + 1, fun n hn L0 h0 => ?_⟩
  have hrun := raw_run0 (σ := Unit) (s := ()) (L := fun m i _ => L0 m a0 a0 (a0.length : Int) i) (R := fun i _ c => impl_AreEntries_L0 k (fun _ _ _ i => c i ()) a0 a0 (a0.length : Int) i) (fun m i s => h0 m a0 a0 (a0.length : Int) i) a0.length (fun _ _ => True) (fun j _ => cond (areFrom a0 (a0.length - j) j) (k (decide (a0.length ≤ 12))) (k false)) (fun j s c hj _ hc => ?_) (fun s c _ => ?_) hn trivial
  · refine hrun.trans ?_
    show _ = k (areFrom a0 a0.length 0 && decide (a0.length ≤ 12))
    rw [Nat.sub_zero]
    cases areFrom a0 a0.length 0 <;> rfl
  · obtain ⟨m, hm⟩ : ∃ m, a0.length - j = m + 1 := ⟨a0.length - j - 1, by omega⟩
    have hm2 : a0.length - (j + 1) = m := by omega
    have hc' := hc () trivial
    rw [hm2] at hc'
    have hmem := wEs_mem1 (getD_mem (d := (ByteArray.empty, (0, (0, [])))) hj)
    have g2 : decide (wE (a0.getD j (ByteArray.empty, (0, (0, [])))) ≤ 1048576) = true := by simp only [decide_eq_true_eq]; omega
    rw [hm]
    unfold areFrom
    by_cases h0j : j = 0
    · subst h0j
      simp only [impl_AreEntries_L0, impl_AreEntries_P_L0, lt_nat, inRange_nat, decide_eq_true hj, cond_true, Int.toNat_natCast, G.impl_IsEntry, N.impl_IsEntry, g2, wrap_succ (j := 0) (by unfold big; omega), hc']
      cases isEntry (a0.getD 0 (ByteArray.empty, (0, (0, [])))) <;> simp
    · have e1 : decide ((j : Int) > 0) = true := by simp; omega
      have e2 : IntKind.wrap .i64 ((j : Int) - 1) = ((j - 1 : Nat) : Int) := by rw [wrap_id (by omega) (by omega)]; omega
      have e3 : j - 1 < a0.length := by omega
      simp only [impl_AreEntries_L0, impl_AreEntries_P_L0, lt_nat, inRange_nat, decide_eq_true hj, cond_true, Int.toNat_natCast, G.impl_IsEntry, N.impl_IsEntry, N.impl_CompareLabels, g2, e1, e2, decide_eq_true e3, wrap_succ (j := j) (by unfold big; omega), hc', decide_eq_false h0j, cmpStr_swap]
      cases isEntry (a0.getD j (ByteArray.empty, (0, (0, [])))) <;> cases cmpStr (a0.getD (j - 1) (ByteArray.empty, (0, (0, [])))).1 (a0.getD j (ByteArray.empty, (0, (0, [])))).1 == -1 <;> simp
  · have e1 : decide ((a0.length : Int) ≤ 12) = decide (a0.length ≤ 12) := by simp only [decide_eq_decide]; omega
    rw [Nat.sub_self]
    simp [impl_AreEntries_L0, impl_AreEntries_P_L0, areFrom, e1]
def OP_impl_AreEntries (f0 : TEntry → Bool) (g0 : TEntry → Bool) (f1 : ByteArray → ByteArray → Int) : Orac := (orcX 25 [.val .str, .val .str] (fun d => true) (fun d => [⟨(.int .i64), f1 d.1 d.2.1⟩]) (orcX 35 [.val TyEntry] (fun d => g0 d.1) (fun d => [⟨.bool, f0 d.1⟩]) nilO))
def O_impl_AreEntries : Orac := OP_impl_AreEntries N.impl_IsEntry G.impl_IsEntry N.impl_CompareLabels
theorem ok_impl_AreEntries : OracOk Tryz.prog sigs O_impl_AreEntries := (orcX_ok rfl rfl (fun d g => said_impl_CompareLabels d.1 d.2.1) (orcX_ok rfl rfl (fun d g => said_impl_IsEntry d.1 g) nilO_ok))
def A_impl_AreEntries : Ann := fun b => cond (Nat.beq b 0) ⟨[(0, false), (5, false), (6, false), (7, false)], []⟩ (⟨[], []⟩)
def S_impl_AreEntries_0 (v0_0 : (List TEntry)) (v0_1 : (List TEntry)) (v0_2 : Int) (v0_3 : Int) : St := [(kT 0, some (.tv (.v (.slice 27 TyEntry) v0_0 .no))), (kT 5, some (.tv (.v (.slice 27 TyEntry) v0_1 .no))), (kT 6, some (.tv (.v (.int .i64) v0_2 .no))), (kT 7, some (.tv (.v (.int .i64) v0_3 .no)))]
noncomputable def L_P_impl_AreEntries_0 (f0 : TEntry → Bool) (g0 : TEntry → Bool) (f1 : ByteArray → ByteArray → Int) (n m : Nat) : St → Option Ret := loopOf tab sigs (OP_impl_AreEntries f0 g0 f1) A_impl_AreEntries Tryz.f11 [(.bool, .no)] n (fun _ => 0) 0 m
theorem bP_impl_AreEntries_0 (f0 : TEntry → Bool) (g0 : TEntry → Bool) (f1 : ByteArray → ByteArray → Int) (n m : Nat) (v0_0 : (List TEntry)) (v0_1 : (List TEntry)) (v0_2 : Int) (v0_3 : Int) : L_P_impl_AreEntries_0 f0 g0 f1 n (m + 1) (S_impl_AreEntries_0 v0_0 v0_1 v0_2 v0_3) = impl_AreEntries_P_L0 f0 g0 f1 (fun r0 => some [⟨.bool, r0⟩]) (fun v0_0 v0_1 v0_2 v0_3 => L_P_impl_AreEntries_0 f0 g0 f1 n m (S_impl_AreEntries_0 v0_0 v0_1 v0_2 v0_3)) v0_0 v0_1 v0_2 v0_3 := by kernel_rfl
theorem aP_impl_AreEntries (f0 : TEntry → Bool) (g0 : TEntry → Bool) (f1 : ByteArray → ByteArray → Int) (n : Nat) (a0 : (List TEntry)) : absF tab sigs (OP_impl_AreEntries f0 g0 f1) A_impl_AreEntries Tryz.f11 [(.bool, .no)] n [.val (.slice 27 TyEntry) a0] = impl_AreEntries_P f0 g0 f1 (fun r0 => some [⟨.bool, r0⟩]) (fun v0_0 v0_1 v0_2 v0_3 => L_P_impl_AreEntries_0 f0 g0 f1 n n (S_impl_AreEntries_0 v0_0 v0_1 v0_2 v0_3)) a0 := by kernel_rfl
theorem said_impl_AreEntries (a0 : (List TEntry)) (g : G.impl_AreEntries a0 = true) : Said Tryz.prog sigs_11 11 [.val (.slice 27 TyEntry) a0] [⟨.bool, N.impl_AreEntries a0⟩] := said_len (T := tab) (A := A_impl_AreEntries) tabOk ok_impl_AreEntries tabOk.follows Tryz.func11 (by kernel_rfl) (by kernel_rfl) (fun hl => let ⟨n, hn⟩ := impl_AreEntries_ok (ρ := Ret) (fun r0 => some [⟨.bool, r0⟩]) a0 hl.1 g; ⟨n, (aP_impl_AreEntries N.impl_IsEntry G.impl_IsEntry N.impl_CompareLabels n a0).trans (hn n (Nat.le_refl n) (fun  m v0_0 v0_1 v0_2 v0_3 => L_P_impl_AreEntries_0 N.impl_IsEntry G.impl_IsEntry N.impl_CompareLabels n  m (S_impl_AreEntries_0 v0_0 v0_1 v0_2 v0_3)) (fun  m v0_0 v0_1 v0_2 v0_3 => bP_impl_AreEntries_0 N.impl_IsEntry G.impl_IsEntry N.impl_CompareLabels n  m v0_0 v0_1 v0_2 v0_3))⟩)
abbrev N.impl_PutEntry_s1 (e : TEntry) (s : ByteArray) : Int := cmpStr e.1 s
def impl_PutEntry_s1 {ρ : Type} (k : Int → Option ρ) (a0 : TEntry) (a1 : ByteArray) : Option ρ := (k (N.impl_CompareLabels a0.1 a1))
theorem impl_PutEntry_s1_ok {ρ : Type} (k : Int → Option ρ) (a0 : TEntry) (a1 : ByteArray) (l_a0 : (True ∧ (True ∧ (True ∧ lnL (fun _ => True) a0.2.2.2)))) : impl_PutEntry_s1 k  a0 a1 = k (N.impl_PutEntry_s1 a0 a1) := by
  rfl
def OP_impl_PutEntry_s1 (f0 : ByteArray → ByteArray → Int) : Orac := (orcX 25 [.val .str, .val .str] (fun d => true) (fun d => [⟨(.int .i64), f0 d.1 d.2.1⟩]) nilO)
def O_impl_PutEntry_s1 : Orac := OP_impl_PutEntry_s1 N.impl_CompareLabels
def impl_PutEntry_s1_P {ρ : Type} (f0 : ByteArray → ByteArray → Int) (k : Int → Option ρ) (a0 : TEntry) (a1 : ByteArray) : Option ρ := (k (f0 a0.1 a1))
theorem ok_impl_PutEntry_s1 : OracOk Tryz.prog sigs O_impl_PutEntry_s1 := (orcX_ok rfl rfl (fun d g => said_impl_CompareLabels d.1 d.2.1) nilO_ok)
def A_impl_PutEntry_s1 : Ann := fun b => ⟨[], []⟩
theorem aP_impl_PutEntry_s1 (f0 : ByteArray → ByteArray → Int) (n : Nat) (a0 : TEntry) (a1 : ByteArray) : absF tab sigs (OP_impl_PutEntry_s1 f0) A_impl_PutEntry_s1 Tryz.f24 [((.int .i64), .no)] n [.val TyEntry a0, .val .str a1] = impl_PutEntry_s1_P f0 (fun r0 => some [⟨(.int .i64), r0⟩])  a0 a1 := by kernel_rfl
theorem said_impl_PutEntry_s1 (a0 : TEntry) (a1 : ByteArray) : Said Tryz.prog sigs_24 24 [.val TyEntry a0, .val .str a1] [⟨(.int .i64), N.impl_PutEntry_s1 a0 a1⟩] := said_len (T := tab) (A := A_impl_PutEntry_s1) tabOk ok_impl_PutEntry_s1 tabOk.follows Tryz.func24 (by kernel_rfl) (by kernel_rfl) (fun hl => ⟨0, (aP_impl_PutEntry_s1 N.impl_CompareLabels 0 a0 a1).trans (impl_PutEntry_s1_ok (ρ := Ret) (fun r0 => some [⟨(.int .i64), r0⟩]) a0 a1 hl.1)⟩)
end Go.Proofs.YtcmjbplnjjdcdaaGreat.Ref
