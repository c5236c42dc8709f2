/- Functions of the program: what each computes, and that it does so.
   Conditions: as each theorem states. -/
import Derived.Test.YtcmjbplnjjdcdaaGreatSA
set_option linter.unusedVariables false
set_option linter.unusedSimpArgs false
set_option maxRecDepth 100000
namespace Go.Proofs.YtcmjbplnjjdcdaaGreat.Ref
open Go.RowKit Go.Proofs.YtcmjbplnjjdcdaaGreatW.PrintWords Go.Proofs.YtcmjbplnjjdcdaaGreatW.PrintLast
abbrev N.laws_big (l : List Int) : Bool := decide ((l.length : Int) > 1048576)
def laws_big {ρ : Type} (k : Bool → Option ρ) (a0 : (List Int)) : Option ρ := (k (decide ((List.length a0 : Int) > (1048576 : Int))))
theorem laws_big_ok {ρ : Type} (k : Bool → Option ρ) (a0 : (List Int)) (l_a0 : lnL (fun _ => True) a0) : laws_big k  a0 = k (N.laws_big a0) := by
  rfl
def O_laws_big : Orac := nilO
theorem ok_laws_big : OracOk Tryz.prog sigs O_laws_big := nilO_ok
def A_laws_big : Ann := fun b => ⟨[], []⟩
theorem a_laws_big (n : Nat) (a0 : (List Int)) : absF tab sigs O_laws_big A_laws_big Tryz.f4 [(.bool, .no)] n [.val (.slice 5 (.int .u8)) a0] = laws_big (fun r0 => some [⟨.bool, r0⟩])  a0 := by kernel_rfl
theorem said_laws_big (a0 : (List Int)) : Said Tryz.prog sigs_4 4 [.val (.slice 5 (.int .u8)) a0] [⟨.bool, N.laws_big a0⟩] := said_len (T := tab) (A := A_laws_big) tabOk ok_laws_big tabOk.follows Tryz.func4 (by kernel_rfl) (by kernel_rfl) (fun hl => ⟨0, (a_laws_big 0 a0).trans (laws_big_ok (ρ := Ret) (fun r0 => some [⟨.bool, r0⟩]) a0 hl.1)⟩)
abbrev G.spec_l1New (l : List Int) : Bool := decide (l.length ≤ 1048576)
abbrev N.spec_l1New (l : List Int) : TCur := newC l
def spec_l1New_L0 {ρ : Type} (k : TCur → Option ρ) (L0 : (List Int) → Int → Int → Option ρ) (v0_0 : (List Int)) (v0_1 : Int) (v0_2 : Int) : Option ρ := (cond (decide (v0_2 < (List.length v0_0 : Int))) (cond (decide (v0_2 < (4000 : Int))) (cond (inRange v0_2 (List.length v0_0)) (L0 v0_0 (andI .i64 (IntKind.wrap .i64 ((IntKind.wrap .i64 ((IntKind.wrap .i64 (v0_1 * (137 : Int))) + (IntKind.wrap .i64 (List.getD v0_0 (Int.toNat v0_2) (0 : Int))))) + (11 : Int))) (1073741823 : Int)) (IntKind.wrap .i64 (v0_2 + (1 : Int)))) none) (k (v0_0, ((0 : Int), v0_1)))) (k (v0_0, ((0 : Int), v0_1))))
def spec_l1New {ρ : Type} (k : TCur → Option ρ) (L0 : (List Int) → Int → Int → Option ρ) (a0 : (List Int)) : Option ρ := (L0 a0 (IntKind.wrap .i64 ((193017 : Int) + (List.length a0 : Int))) (0 : Int))
theorem spec_l1New_ok {ρ : Type} (k : TCur → Option ρ) (a0 : (List Int)) (l_a0 : lnL (fun _ => True) a0) (g : G.spec_l1New a0 = true) : ∃ n0, ∀ n, n0 ≤ n → ∀ (L0 : Nat → (List Int) → Int → Int → Option ρ) (h0 : ∀ ( m : Nat) (v0_0 : (List Int)) (v0_1 : Int) (v0_2 : Int), L0 (m + 1) v0_0 v0_1 v0_2 = spec_l1New_L0 k (L0 m) v0_0 v0_1 v0_2), spec_l1New k (L0 n) a0 = k (N.spec_l1New a0) := by
  unfold G.spec_l1New at g
  refine ⟨a0.length + 1, fun n hn L0 h0 => ?_⟩
  have := raw_new (l := a0) (k := fun h => k (a0, (0, h))) (L := fun m h i => L0 m a0 h i) l_a0.1 (fun m h i => by
    show L0 (m + 1) a0 h i = _
    rw [h0]
    rfl) a0.length n 0 (IntKind.wrap .i64 (193017 + (a0.length : Int))) (by omega) hn
  exact this
def O_spec_l1New : Orac := nilO
theorem ok_spec_l1New : OracOk Tryz.prog sigs O_spec_l1New := nilO_ok
def A_spec_l1New : Ann := fun b => cond (Nat.beq b 0) ⟨[(0, false), (3, false), (4, false)], []⟩ (⟨[], []⟩)
def S_spec_l1New_0 (v0_0 : (List Int)) (v0_1 : Int) (v0_2 : Int) : St := [(kT 0, some (.tv (.v (.slice 5 (.int .u8)) v0_0 .no))), (kT 3, some (.tv (.v (.int .i64) v0_1 .no))), (kT 4, some (.tv (.v (.int .i64) v0_2 .no)))]
noncomputable def L_spec_l1New_0 (n m : Nat) : St → Option Ret := loopOfN tab sigs O_spec_l1New A_spec_l1New Tryz.f19 (.pair (.slice 5 (.int .u8)) (.pair (.int .i64) (.int .i64))) n (fun _ => 0) 0 m
theorem b_spec_l1New_0 (n m : Nat) (v0_0 : (List Int)) (v0_1 : Int) (v0_2 : Int) : L_spec_l1New_0 n (m + 1) (S_spec_l1New_0 v0_0 v0_1 v0_2) = spec_l1New_L0 (fun r0 => some [⟨(.pair (.slice 5 (.int .u8)) (.pair (.int .i64) (.int .i64))), r0⟩]) (fun v0_0 v0_1 v0_2 => L_spec_l1New_0 n m (S_spec_l1New_0 v0_0 v0_1 v0_2)) v0_0 v0_1 v0_2 := by kernel_rfl
theorem a_spec_l1New (n : Nat) (a0 : (List Int)) : absFN tab sigs O_spec_l1New A_spec_l1New Tryz.f19 n (.pair (.slice 5 (.int .u8)) (.pair (.int .i64) (.int .i64))) [.val (.slice 5 (.int .u8)) a0] = spec_l1New (fun r0 => some [⟨(.pair (.slice 5 (.int .u8)) (.pair (.int .i64) (.int .i64))), r0⟩]) (fun v0_0 v0_1 v0_2 => L_spec_l1New_0 n n (S_spec_l1New_0 v0_0 v0_1 v0_2)) a0 := by kernel_rfl
theorem said_spec_l1New (a0 : (List Int)) (g : G.spec_l1New a0 = true) : SaidV Tryz.prog 19 [.val (.slice 5 (.int .u8)) a0] [⟨(.pair (.slice 5 (.int .u8)) (.pair (.int .i64) (.int .i64))), N.spec_l1New a0⟩] := said_lenN (T := tab) (A := A_spec_l1New) tabOk ok_spec_l1New tabOk.follows Tryz.func19 (by kernel_rfl) (by kernel_rfl) (fun hl => let ⟨n, hn⟩ := spec_l1New_ok (ρ := Ret) (fun r0 => some [⟨(.pair (.slice 5 (.int .u8)) (.pair (.int .i64) (.int .i64))), r0⟩]) a0 hl.1 g; ⟨n, (a_spec_l1New n a0).trans (hn n (Nat.le_refl n) (fun  m v0_0 v0_1 v0_2 => L_spec_l1New_0 n  m (S_spec_l1New_0 v0_0 v0_1 v0_2)) (fun  m v0_0 v0_1 v0_2 => b_spec_l1New_0 n  m v0_0 v0_1 v0_2))⟩)
abbrev G.spec_l1Byte (c : TCur) : Bool := okC c
abbrev N.spec_l1Byte (c : TCur) : TCur × Int := byteC c
def spec_l1Byte {ρ : Type} (k : TCur → Int → Option ρ) (a0 : TCur) : Option ρ := (cond (decide (a0.2.1 < (List.length a0.1 : Int))) (cond (inRange a0.2.1 (List.length a0.1)) (k (a0.1, ((IntKind.wrap .i64 (a0.2.1 + (1 : Int))), (IntKind.wrap .i64 ((IntKind.wrap .i64 (a0.2.2 * (6364136223846793005 : Int))) + (1442695040888963407 : Int))))) (andI .i64 (IntKind.wrap .i64 ((andI .i64 (xorI .i64 ((IntKind.wrap .i64 ((IntKind.wrap .i64 (a0.2.2 * (6364136223846793005 : Int))) + (1442695040888963407 : Int))) / (2 : Int) ^ 33) ((IntKind.wrap .i64 ((IntKind.wrap .i64 (a0.2.2 * (6364136223846793005 : Int))) + (1442695040888963407 : Int))) / (2 : Int) ^ 47)) (255 : Int)) + (IntKind.wrap .i64 (List.getD a0.1 (Int.toNat a0.2.1) (0 : Int))))) (255 : Int))) none) (k (a0.1, (a0.2.1, (IntKind.wrap .i64 ((IntKind.wrap .i64 (a0.2.2 * (6364136223846793005 : Int))) + (1442695040888963407 : Int))))) (andI .i64 (xorI .i64 ((IntKind.wrap .i64 ((IntKind.wrap .i64 (a0.2.2 * (6364136223846793005 : Int))) + (1442695040888963407 : Int))) / (2 : Int) ^ 33) ((IntKind.wrap .i64 ((IntKind.wrap .i64 (a0.2.2 * (6364136223846793005 : Int))) + (1442695040888963407 : Int))) / (2 : Int) ^ 47)) (255 : Int))))
theorem spec_l1Byte_ok {ρ : Type} (k : TCur → Int → Option ρ) (a0 : TCur) (l_a0 : (lnL (fun _ => True) a0.1 ∧ (True ∧ True))) (g : G.spec_l1Byte a0 = true) : spec_l1Byte k  a0 = k (N.spec_l1Byte a0).1 (N.spec_l1Byte a0).2 := by
  unfold G.spec_l1Byte at g
  show spec_l1Byte k a0 = k (byteC a0).1 (byteC a0).2
  have g' : 0 ≤ a0.2.1 := of_decide_eq_true ((Bool.and_eq_true _ _).mp g).1
  unfold spec_l1Byte byteC
  cases hc : decide (a0.2.1 < (a0.1.length : Int)) with
  | false => rfl
  | true =>
    have h1 : inRange a0.2.1 a0.1.length = true := by
      unfold inRange
      rw [hc, decide_eq_true g']
      rfl
    rw [h1]
    rfl
def O_spec_l1Byte : Orac := nilO
theorem ok_spec_l1Byte : OracOk Tryz.prog sigs O_spec_l1Byte := nilO_ok
def A_spec_l1Byte : Ann := fun b => ⟨[], []⟩
theorem a_spec_l1Byte (n : Nat) (a0 : TCur) : absFB tab sigs O_spec_l1Byte A_spec_l1Byte Tryz.f66 [((.int .i64), .no)] n (.pair (.slice 5 (.int .u8)) (.pair (.int .i64) (.int .i64))) a0 [] = spec_l1Byte (fun r0 r1 => some [⟨(.pair (.slice 5 (.int .u8)) (.pair (.int .i64) (.int .i64))), r0⟩, ⟨(.int .i64), r1⟩])  a0 := by kernel_rfl
theorem said_spec_l1Byte (a0 : TCur) (g : G.spec_l1Byte a0 = true) : SaidP Tryz.prog sigs_66 66 (.pair (.slice 5 (.int .u8)) (.pair (.int .i64) (.int .i64))) a0 [] [⟨(.pair (.slice 5 (.int .u8)) (.pair (.int .i64) (.int .i64))), (N.spec_l1Byte a0).1⟩, ⟨(.int .i64), (N.spec_l1Byte a0).2⟩] := said_lenB (T := tab) (A := A_spec_l1Byte) tabOk ok_spec_l1Byte tabOk.follows Tryz.func66 (by kernel_rfl) (by kernel_rfl) (fun hl => ⟨0, (a_spec_l1Byte 0 a0).trans (spec_l1Byte_ok (ρ := Ret) (fun r0 r1 => some [⟨(.pair (.slice 5 (.int .u8)) (.pair (.int .i64) (.int .i64))), r0⟩, ⟨(.int .i64), r1⟩]) a0 hl.1 g)⟩)
abbrev G.spec_l1Below (c : TCur) (n : Int) : Bool := okC c
abbrev N.spec_l1Below (c : TCur) (n : Int) : TCur × Int := belowC c n
def spec_l1Below_P {ρ : Type} (f0 : TCur → (TCur × Int)) (g0 : TCur → Bool) (k : TCur → Int → Option ρ) (a0 : TCur) (a1 : Int) : Option ρ := (cond (decide (a1 ≤ (0 : Int))) (k a0 (0 : Int)) (cond (decide (a1 ≤ (256 : Int))) (cond (g0 a0) (cond (!(decide (a1 = 0))) (k (f0 a0).1 (Int.tmod (f0 a0).2 a1)) none) none) (cond (g0 a0) (cond (g0 (f0 a0).1) (cond (g0 (f0 (f0 a0).1).1) (cond (!(decide (a1 = 0))) (k (f0 (f0 (f0 a0).1).1).1 (Int.tmod (IntKind.wrap .i64 ((IntKind.wrap .i64 ((IntKind.wrap .i64 ((f0 a0).2 * (65536 : Int))) + (IntKind.wrap .i64 ((f0 (f0 a0).1).2 * (256 : Int))))) + (f0 (f0 (f0 a0).1).1).2)) a1)) none) none) none) none)))
def spec_l1Below {ρ : Type} (k : TCur → Int → Option ρ) (a0 : TCur) (a1 : Int) : Option ρ := spec_l1Below_P N.spec_l1Byte G.spec_l1Byte k a0 a1
theorem spec_l1Below_ok {ρ : Type} (k : TCur → Int → Option ρ) (a0 : TCur) (a1 : Int) (l_a0 : (lnL (fun _ => True) a0.1 ∧ (True ∧ True))) (g : G.spec_l1Below a0 a1 = true) : spec_l1Below k  a0 a1 = k (N.spec_l1Below a0 a1).1 (N.spec_l1Below a0 a1).2 := by
  unfold G.spec_l1Below at g
  show spec_l1Below k a0 a1 = k (belowC a0 a1).1 (belowC a0 a1).2
  unfold belowC
  cases h1 : decide (a1 ≤ 0) with
  | true => simp only [spec_l1Below, spec_l1Below_P, h1, cond_true]
  | false =>
    have h0 : decide (a1 = 0) = false := decide_eq_false (by have := of_decide_eq_false h1; omega)
    cases h2 : decide (a1 ≤ 256) with
    | true => simp only [spec_l1Below, spec_l1Below_P, G.spec_l1Byte, N.spec_l1Byte, h1, h2, h0, g, cond_true, cond_false, Bool.not_false]
    | false => simp only [spec_l1Below, spec_l1Below_P, G.spec_l1Byte, N.spec_l1Byte, h1, h2, h0, g, okC_byte g, okC_byte (okC_byte g), cond_true, cond_false, Bool.not_false]
def OP_spec_l1Below (f0 : TCur → (TCur × Int)) (g0 : TCur → Bool) : Orac := (orcX 66 [.lend (.pair (.slice 5 (.int .u8)) (.pair (.int .i64) (.int .i64))) .no] (fun d => g0 d.1) (fun d => [⟨(.pair (.slice 5 (.int .u8)) (.pair (.int .i64) (.int .i64))), (f0 d.1).1⟩, ⟨(.int .i64), (f0 d.1).2⟩]) nilO)
def O_spec_l1Below : Orac := OP_spec_l1Below N.spec_l1Byte G.spec_l1Byte
theorem ok_spec_l1Below : OracOk Tryz.prog sigs O_spec_l1Below := (orcB_ok rfl (fun d g => said_spec_l1Byte d.1 g) nilO_ok)
def A_spec_l1Below : Ann := fun b => ⟨[], []⟩
theorem aP_spec_l1Below (f0 : TCur → (TCur × Int)) (g0 : TCur → Bool) (n : Nat) (a0 : TCur) (a1 : Int) : absFB tab sigs (OP_spec_l1Below f0 g0) A_spec_l1Below Tryz.f46 [((.int .i64), .no)] n (.pair (.slice 5 (.int .u8)) (.pair (.int .i64) (.int .i64))) a0 [.val (.int .i64) a1] = spec_l1Below_P f0 g0 (fun r0 r1 => some [⟨(.pair (.slice 5 (.int .u8)) (.pair (.int .i64) (.int .i64))), r0⟩, ⟨(.int .i64), r1⟩])  a0 a1 := by kernel_rfl
theorem said_spec_l1Below (a0 : TCur) (a1 : Int) (g : G.spec_l1Below a0 a1 = true) : SaidP Tryz.prog sigs_46 46 (.pair (.slice 5 (.int .u8)) (.pair (.int .i64) (.int .i64))) a0 [.val (.int .i64) a1] [⟨(.pair (.slice 5 (.int .u8)) (.pair (.int .i64) (.int .i64))), (N.spec_l1Below a0 a1).1⟩, ⟨(.int .i64), (N.spec_l1Below a0 a1).2⟩] := said_lenB (T := tab) (A := A_spec_l1Below) tabOk ok_spec_l1Below tabOk.follows Tryz.func46 (by kernel_rfl) (by kernel_rfl) (fun hl => ⟨0, (aP_spec_l1Below N.spec_l1Byte G.spec_l1Byte 0 a0 a1).trans (spec_l1Below_ok (ρ := Ret) (fun r0 r1 => some [⟨(.pair (.slice 5 (.int .u8)) (.pair (.int .i64) (.int .i64))), r0⟩, ⟨(.int .i64), r1⟩]) a0 a1 hl.1 g)⟩)
abbrev G.spec_l1Str (c : TCur) (l : List ByteArray) : Bool := okC c && decide (0 < l.length)
abbrev N.spec_l1Str (c : TCur) (l : List ByteArray) : TCur × ByteArray := strC c l
def spec_l1Str_P {ρ : Type} (f0 : TCur → Int → (TCur × Int)) (g0 : TCur → Int → Bool) (k : TCur → ByteArray → Option ρ) (a0 : TCur) (a1 : (List ByteArray)) : Option ρ := (cond (g0 a0 (List.length a1 : Int)) (cond (inRange (f0 a0 (List.length a1 : Int)).2 (List.length a1)) (k (f0 a0 (List.length a1 : Int)).1 (List.getD a1 (Int.toNat (f0 a0 (List.length a1 : Int)).2) ByteArray.empty)) none) none)
def spec_l1Str {ρ : Type} (k : TCur → ByteArray → Option ρ) (a0 : TCur) (a1 : (List ByteArray)) : Option ρ := spec_l1Str_P N.spec_l1Below G.spec_l1Below k a0 a1
theorem spec_l1Str_ok {ρ : Type} (k : TCur → ByteArray → Option ρ) (a0 : TCur) (a1 : (List ByteArray)) (l_a0 : (lnL (fun _ => True) a0.1 ∧ (True ∧ True))) (l_a1 : lnL (fun _ => True) a1) (g : G.spec_l1Str a0 a1 = true) : spec_l1Str k  a0 a1 = k (N.spec_l1Str a0 a1).1 (N.spec_l1Str a0 a1).2 := by
  unfold G.spec_l1Str at g
  obtain ⟨g1, g2⟩ := (Bool.and_eq_true _ _).mp g
  simp only [spec_l1Str, spec_l1Str_P, G.spec_l1Below, N.spec_l1Below, g1, pick_in a0 a1 (of_decide_eq_true g2), cond_true]
  rfl
def OP_spec_l1Str (f0 : TCur → Int → (TCur × Int)) (g0 : TCur → Int → Bool) : Orac := (orcX 46 [.lend (.pair (.slice 5 (.int .u8)) (.pair (.int .i64) (.int .i64))) .no, .val (.int .i64)] (fun d => g0 d.1 d.2.1) (fun d => [⟨(.pair (.slice 5 (.int .u8)) (.pair (.int .i64) (.int .i64))), (f0 d.1 d.2.1).1⟩, ⟨(.int .i64), (f0 d.1 d.2.1).2⟩]) nilO)
def O_spec_l1Str : Orac := OP_spec_l1Str N.spec_l1Below G.spec_l1Below
theorem ok_spec_l1Str : OracOk Tryz.prog sigs O_spec_l1Str := (orcB_ok rfl (fun d g => said_spec_l1Below d.1 d.2.1 g) nilO_ok)
def A_spec_l1Str : Ann := fun b => ⟨[], []⟩
theorem aP_spec_l1Str (f0 : TCur → Int → (TCur × Int)) (g0 : TCur → Int → Bool) (n : Nat) (a0 : TCur) (a1 : (List ByteArray)) : absFB tab sigs (OP_spec_l1Str f0 g0) A_spec_l1Str Tryz.f72 [(.str, .no)] n (.pair (.slice 5 (.int .u8)) (.pair (.int .i64) (.int .i64))) a0 [.val (.slice 9 .str) a1] = spec_l1Str_P f0 g0 (fun r0 r1 => some [⟨(.pair (.slice 5 (.int .u8)) (.pair (.int .i64) (.int .i64))), r0⟩, ⟨.str, r1⟩])  a0 a1 := by kernel_rfl
theorem said_spec_l1Str (a0 : TCur) (a1 : (List ByteArray)) (g : G.spec_l1Str a0 a1 = true) : SaidP Tryz.prog sigs_72 72 (.pair (.slice 5 (.int .u8)) (.pair (.int .i64) (.int .i64))) a0 [.val (.slice 9 .str) a1] [⟨(.pair (.slice 5 (.int .u8)) (.pair (.int .i64) (.int .i64))), (N.spec_l1Str a0 a1).1⟩, ⟨.str, (N.spec_l1Str a0 a1).2⟩] := said_lenB (T := tab) (A := A_spec_l1Str) tabOk ok_spec_l1Str tabOk.follows Tryz.func72 (by kernel_rfl) (by kernel_rfl) (fun hl => ⟨0, (aP_spec_l1Str N.spec_l1Below G.spec_l1Below 0 a0 a1).trans (spec_l1Str_ok (ρ := Ret) (fun r0 r1 => some [⟨(.pair (.slice 5 (.int .u8)) (.pair (.int .i64) (.int .i64))), r0⟩, ⟨.str, r1⟩]) a0 a1 hl.1 hl.2.1 g)⟩)
abbrev G.spec_l4Label (c : TCur) : Bool := okC c
abbrev N.spec_l4Label (c : TCur) : TCur × ByteArray := labelC c
def spec_l4Label_P {ρ : Type} (f0 : TCur → (List ByteArray) → (TCur × ByteArray)) (g0 : TCur → (List ByteArray) → Bool) (k : TCur → ByteArray → Option ρ) (a0 : TCur) : Option ρ := (cond (g0 a0 [(ByteArray.mk #[97, 110, 110]), (ByteArray.mk #[98, 111, 98]), (ByteArray.mk #[98, 97, 110, 107]), (ByteArray.mk #[115, 104, 111, 112]), (ByteArray.mk #[115, 104, 48, 112]), (ByteArray.mk #[53, 104, 111, 112]), (ByteArray.mk #[109, 97, 105, 108]), (ByteArray.mk #[109, 97, 45, 105, 108]), (ByteArray.mk #[97])]) (k (f0 a0 [(ByteArray.mk #[97, 110, 110]), (ByteArray.mk #[98, 111, 98]), (ByteArray.mk #[98, 97, 110, 107]), (ByteArray.mk #[115, 104, 111, 112]), (ByteArray.mk #[115, 104, 48, 112]), (ByteArray.mk #[53, 104, 111, 112]), (ByteArray.mk #[109, 97, 105, 108]), (ByteArray.mk #[109, 97, 45, 105, 108]), (ByteArray.mk #[97])]).1 (f0 a0 [(ByteArray.mk #[97, 110, 110]), (ByteArray.mk #[98, 111, 98]), (ByteArray.mk #[98, 97, 110, 107]), (ByteArray.mk #[115, 104, 111, 112]), (ByteArray.mk #[115, 104, 48, 112]), (ByteArray.mk #[53, 104, 111, 112]), (ByteArray.mk #[109, 97, 105, 108]), (ByteArray.mk #[109, 97, 45, 105, 108]), (ByteArray.mk #[97])]).2) none)
def spec_l4Label {ρ : Type} (k : TCur → ByteArray → Option ρ) (a0 : TCur) : Option ρ := spec_l4Label_P N.spec_l1Str G.spec_l1Str k a0
theorem spec_l4Label_ok {ρ : Type} (k : TCur → ByteArray → Option ρ) (a0 : TCur) (l_a0 : (lnL (fun _ => True) a0.1 ∧ (True ∧ True))) (g : G.spec_l4Label a0 = true) : spec_l4Label k  a0 = k (N.spec_l4Label a0).1 (N.spec_l4Label a0).2 := by
  unfold G.spec_l4Label at g
  show cond (okC a0 && decide (0 < labels.length)) (k (labelC a0).1 (labelC a0).2) none = _
  rw [g]
  rfl
def OP_spec_l4Label (f0 : TCur → (List ByteArray) → (TCur × ByteArray)) (g0 : TCur → (List ByteArray) → Bool) : Orac := (orcX 72 [.lend (.pair (.slice 5 (.int .u8)) (.pair (.int .i64) (.int .i64))) .no, .val (.slice 9 .str)] (fun d => g0 d.1 d.2.1) (fun d => [⟨(.pair (.slice 5 (.int .u8)) (.pair (.int .i64) (.int .i64))), (f0 d.1 d.2.1).1⟩, ⟨.str, (f0 d.1 d.2.1).2⟩]) nilO)
def O_spec_l4Label : Orac := OP_spec_l4Label N.spec_l1Str G.spec_l1Str
theorem ok_spec_l4Label : OracOk Tryz.prog sigs O_spec_l4Label := (orcB_ok rfl (fun d g => said_spec_l1Str d.1 d.2.1 g) nilO_ok)
def A_spec_l4Label : Ann := fun b => ⟨[], []⟩
theorem aP_spec_l4Label (f0 : TCur → (List ByteArray) → (TCur × ByteArray)) (g0 : TCur → (List ByteArray) → Bool) (n : Nat) (a0 : TCur) : absFB tab sigs (OP_spec_l4Label f0 g0) A_spec_l4Label Tryz.f67 [(.str, .no)] n (.pair (.slice 5 (.int .u8)) (.pair (.int .i64) (.int .i64))) a0 [] = spec_l4Label_P f0 g0 (fun r0 r1 => some [⟨(.pair (.slice 5 (.int .u8)) (.pair (.int .i64) (.int .i64))), r0⟩, ⟨.str, r1⟩])  a0 := by kernel_rfl
theorem said_spec_l4Label (a0 : TCur) (g : G.spec_l4Label a0 = true) : SaidP Tryz.prog sigs_67 67 (.pair (.slice 5 (.int .u8)) (.pair (.int .i64) (.int .i64))) a0 [] [⟨(.pair (.slice 5 (.int .u8)) (.pair (.int .i64) (.int .i64))), (N.spec_l4Label a0).1⟩, ⟨.str, (N.spec_l4Label a0).2⟩] := said_lenB (T := tab) (A := A_spec_l4Label) tabOk ok_spec_l4Label tabOk.follows Tryz.func67 (by kernel_rfl) (by kernel_rfl) (fun hl => ⟨0, (aP_spec_l4Label N.spec_l1Str G.spec_l1Str 0 a0).trans (spec_l4Label_ok (ρ := Ret) (fun r0 r1 => some [⟨(.pair (.slice 5 (.int .u8)) (.pair (.int .i64) (.int .i64))), r0⟩, ⟨.str, r1⟩]) a0 hl.1 g)⟩)
abbrev N.spec_ZoneEntry (s : ByteArray) (n : Int) : TEntry := (s, (2, (n, [])))
def spec_ZoneEntry {ρ : Type} (k : TEntry → Option ρ) (a0 : ByteArray) (a1 : Int) : Option ρ := (k (a0, ((2 : Int), (a1, []))))
theorem spec_ZoneEntry_ok {ρ : Type} (k : TEntry → Option ρ) (a0 : ByteArray) (a1 : Int) : spec_ZoneEntry k  a0 a1 = k (N.spec_ZoneEntry a0 a1) := by
  rfl
def O_spec_ZoneEntry : Orac := nilO
theorem ok_spec_ZoneEntry : OracOk Tryz.prog sigs O_spec_ZoneEntry := nilO_ok
def A_spec_ZoneEntry : Ann := fun b => ⟨[], []⟩
theorem a_spec_ZoneEntry (n : Nat) (a0 : ByteArray) (a1 : Int) : absF tab sigs O_spec_ZoneEntry A_spec_ZoneEntry Tryz.f68 [(TyEntry, (.pair .no (.pair .no (.pair .no (.own 0)))))] n [.val .str a0, .val (.int .i64) a1] = spec_ZoneEntry (fun r0 => some [⟨TyEntry, r0⟩])  a0 a1 := by kernel_rfl
theorem said_spec_ZoneEntry (a0 : ByteArray) (a1 : Int) : Said Tryz.prog sigs_68 68 [.val .str a0, .val (.int .i64) a1] [⟨TyEntry, N.spec_ZoneEntry a0 a1⟩] := said_len (T := tab) (A := A_spec_ZoneEntry) tabOk ok_spec_ZoneEntry tabOk.follows Tryz.func68 (by kernel_rfl) (by kernel_rfl) (fun hl => ⟨0, (a_spec_ZoneEntry 0 a0 a1).trans (spec_ZoneEntry_ok (ρ := Ret) (fun r0 => some [⟨TyEntry, r0⟩]) a0 a1)⟩)
abbrev G.spec_l5Path (c : TCur) : Bool := okC c
abbrev N.spec_l5Path (c : TCur) : TCur × List ByteArray := pathC c
def spec_l5Path_P_L0 {ρ : Type} (f0 : TCur → Int → (TCur × Int)) (g0 : TCur → Int → Bool) (f1 : TCur → (TCur × ByteArray)) (g1 : TCur → Bool) (k : TCur → (List ByteArray) → Option ρ) (L0 : Int → TCur → (List ByteArray) → Option ρ) (v0_0 : Int) (v0_1 : TCur) (v0_2 : (List ByteArray)) : Option ρ := (cond (decide (v0_0 > (0 : Int))) (cond (g1 v0_1) (cond (fit (List.length v0_2) (List.length [(f1 v0_1).2])) (L0 (IntKind.wrap .i64 (v0_0 - (1 : Int))) (f1 v0_1).1 (List.append v0_2 [(f1 v0_1).2])) none) none) (k v0_1 v0_2))
def spec_l5Path_P {ρ : Type} (f0 : TCur → Int → (TCur × Int)) (g0 : TCur → Int → Bool) (f1 : TCur → (TCur × ByteArray)) (g1 : TCur → Bool) (k : TCur → (List ByteArray) → Option ρ) (L0 : Int → TCur → (List ByteArray) → Option ρ) (a0 : TCur) : Option ρ := (cond (g0 a0 (3 : Int)) (L0 (IntKind.wrap .i64 ((1 : Int) + (f0 a0 (3 : Int)).2)) (f0 a0 (3 : Int)).1 ([] : (List ByteArray))) none)
def spec_l5Path_L0 {ρ : Type} (k : TCur → (List ByteArray) → Option ρ) (L0 : Int → TCur → (List ByteArray) → Option ρ) (v0_0 : Int) (v0_1 : TCur) (v0_2 : (List ByteArray)) : Option ρ := spec_l5Path_P_L0 N.spec_l1Below G.spec_l1Below N.spec_l4Label G.spec_l4Label k L0 v0_0 v0_1 v0_2
def spec_l5Path {ρ : Type} (k : TCur → (List ByteArray) → Option ρ) (L0 : Int → TCur → (List ByteArray) → Option ρ) (a0 : TCur) : Option ρ := spec_l5Path_P N.spec_l1Below G.spec_l1Below N.spec_l4Label G.spec_l4Label k L0 a0
theorem spec_l5Path_ok {ρ : Type} (k : TCur → (List ByteArray) → Option ρ) (a0 : TCur) (l_a0 : (lnL (fun _ => True) a0.1 ∧ (True ∧ True))) (g : G.spec_l5Path a0 = true) : ∃ n0, ∀ n, n0 ≤ n → ∀ (L0 : Nat → Int → TCur → (List ByteArray) → Option ρ) (h0 : ∀ ( m : Nat) (v0_0 : Int) (v0_1 : TCur) (v0_2 : (List ByteArray)), L0 (m + 1) v0_0 v0_1 v0_2 = spec_l5Path_L0 k (L0 m) v0_0 v0_1 v0_2), spec_l5Path k (L0 n) a0 = k (N.spec_l5Path a0).1 (N.spec_l5Path a0).2 := by
  unfold G.spec_l5Path at g
  have hr := below_range a0 (n := 3) (by omega)
  refine ⟨10, fun n hn L0 h0 => ?_⟩
  have go : ∀ (d n : Nat) (c : TCur) (o : List ByteArray), okC c = true → d < n → d ≤ 3 → o.length + d ≤ 100 → L0 n (d : Int) c o = k (pathGo d c o).1 (pathGo d c o).2 := by
    intro d
    induction d with
    | zero =>
      intro n c o hc hn _ _
      obtain ⟨m, rfl⟩ : ∃ m, n = m + 1 := ⟨n - 1, by omega⟩
      rw [h0]
      rfl
    | succ d ih =>
      intro n c o hc hn h3 ho
      obtain ⟨m, rfl⟩ : ∃ m, n = m + 1 := ⟨n - 1, by omega⟩
      have e1 : decide (((d + 1 : Nat) : Int) > 0) = true := decide_eq_true (by omega)
      have e2 : IntKind.wrap .i64 (((d + 1 : Nat) : Int) - 1) = (d : Int) := by rw [wrap_id (by omega) (by omega)]; omega
      have hf : fit (List.length o) (List.length [(labelC c).2]) = true := fit_of (by simp; omega)
      rw [h0]
      simp only [spec_l5Path_L0, spec_l5Path_P_L0, G.spec_l4Label, N.spec_l4Label, e1, e2, hc, hf, cond_true]
      exact ih m (labelC c).1 (o ++ [(labelC c).2]) (okC_label hc) (by omega) (by omega) (by simp; omega)
  have e3 : IntKind.wrap .i64 (1 + (belowC a0 3).2) = (((1 + (belowC a0 3).2).toNat : Nat) : Int) := by rw [wrap_id (by omega) (by omega)]; omega
  simp only [spec_l5Path, spec_l5Path_P, G.spec_l1Below, N.spec_l1Below, g, cond_true, e3]
  exact go _ n _ [] (okC_below 3 g) (by omega) (by omega) (by simp; omega)
def OP_spec_l5Path (f0 : TCur → Int → (TCur × Int)) (g0 : TCur → Int → Bool) (f1 : TCur → (TCur × ByteArray)) (g1 : TCur → Bool) : Orac := (orcX 67 [.lend (.pair (.slice 5 (.int .u8)) (.pair (.int .i64) (.int .i64))) .no] (fun d => g1 d.1) (fun d => [⟨(.pair (.slice 5 (.int .u8)) (.pair (.int .i64) (.int .i64))), (f1 d.1).1⟩, ⟨.str, (f1 d.1).2⟩]) (orcX 46 [.lend (.pair (.slice 5 (.int .u8)) (.pair (.int .i64) (.int .i64))) .no, .val (.int .i64)] (fun d => g0 d.1 d.2.1) (fun d => [⟨(.pair (.slice 5 (.int .u8)) (.pair (.int .i64) (.int .i64))), (f0 d.1 d.2.1).1⟩, ⟨(.int .i64), (f0 d.1 d.2.1).2⟩]) nilO))
def O_spec_l5Path : Orac := OP_spec_l5Path N.spec_l1Below G.spec_l1Below N.spec_l4Label G.spec_l4Label
theorem ok_spec_l5Path : OracOk Tryz.prog sigs O_spec_l5Path := (orcB_ok rfl (fun d g => said_spec_l4Label d.1 g) (orcB_ok rfl (fun d g => said_spec_l1Below d.1 d.2.1 g) nilO_ok))
def A_spec_l5Path : Ann := fun b => cond (Nat.beq b 0) ⟨[(0, false), (3, true), (4, false)], [(0, false)]⟩ (⟨[], []⟩)
def S_spec_l5Path_0 (v0_0 : Int) (v0_1 : TCur) (v0_2 : (List ByteArray)) : St := [(kT 0, some (.tv (.box 0 []))), (kT 3, some (.tv (.v (.slice 9 .str) [] (.own 24)))), (kT 4, some (.tv (.v (.int .i64) v0_0 .no))), (kB 0, some (.box (.pair (.slice 5 (.int .u8)) (.pair (.int .i64) (.int .i64))) v0_1 .no)), (kR 24, some (.row 9 .str v0_2))]
noncomputable def L_P_spec_l5Path_0 (f0 : TCur → Int → (TCur × Int)) (g0 : TCur → Int → Bool) (f1 : TCur → (TCur × ByteArray)) (g1 : TCur → Bool) (n m : Nat) : St → Option Ret := loopOfB tab sigs (OP_spec_l5Path f0 g0 f1 g1) A_spec_l5Path Tryz.f70 [((.slice 9 .str), (.own 0))] (.pair (.slice 5 (.int .u8)) (.pair (.int .i64) (.int .i64))) n (fun _ => 0) 0 m
theorem bP_spec_l5Path_0 (f0 : TCur → Int → (TCur × Int)) (g0 : TCur → Int → Bool) (f1 : TCur → (TCur × ByteArray)) (g1 : TCur → Bool) (n m : Nat) (v0_0 : Int) (v0_1 : TCur) (v0_2 : (List ByteArray)) : L_P_spec_l5Path_0 f0 g0 f1 g1 n (m + 1) (S_spec_l5Path_0 v0_0 v0_1 v0_2) = spec_l5Path_P_L0 f0 g0 f1 g1 (fun r0 r1 => some [⟨(.pair (.slice 5 (.int .u8)) (.pair (.int .i64) (.int .i64))), r0⟩, ⟨(.slice 9 .str), r1⟩]) (fun v0_0 v0_1 v0_2 => L_P_spec_l5Path_0 f0 g0 f1 g1 n m (S_spec_l5Path_0 v0_0 v0_1 v0_2)) v0_0 v0_1 v0_2 := by kernel_rfl
theorem aP_spec_l5Path (f0 : TCur → Int → (TCur × Int)) (g0 : TCur → Int → Bool) (f1 : TCur → (TCur × ByteArray)) (g1 : TCur → Bool) (n : Nat) (a0 : TCur) : absFB tab sigs (OP_spec_l5Path f0 g0 f1 g1) A_spec_l5Path Tryz.f70 [((.slice 9 .str), (.own 0))] n (.pair (.slice 5 (.int .u8)) (.pair (.int .i64) (.int .i64))) a0 [] = spec_l5Path_P f0 g0 f1 g1 (fun r0 r1 => some [⟨(.pair (.slice 5 (.int .u8)) (.pair (.int .i64) (.int .i64))), r0⟩, ⟨(.slice 9 .str), r1⟩]) (fun v0_0 v0_1 v0_2 => L_P_spec_l5Path_0 f0 g0 f1 g1 n n (S_spec_l5Path_0 v0_0 v0_1 v0_2)) a0 := by kernel_rfl
theorem said_spec_l5Path (a0 : TCur) (g : G.spec_l5Path a0 = true) : SaidP Tryz.prog sigs_70 70 (.pair (.slice 5 (.int .u8)) (.pair (.int .i64) (.int .i64))) a0 [] [⟨(.pair (.slice 5 (.int .u8)) (.pair (.int .i64) (.int .i64))), (N.spec_l5Path a0).1⟩, ⟨(.slice 9 .str), (N.spec_l5Path a0).2⟩] := said_lenB (T := tab) (A := A_spec_l5Path) tabOk ok_spec_l5Path tabOk.follows Tryz.func70 (by kernel_rfl) (by kernel_rfl) (fun hl => let ⟨n, hn⟩ := spec_l5Path_ok (ρ := Ret) (fun r0 r1 => some [⟨(.pair (.slice 5 (.int .u8)) (.pair (.int .i64) (.int .i64))), r0⟩, ⟨(.slice 9 .str), r1⟩]) a0 hl.1 g; ⟨n, (aP_spec_l5Path N.spec_l1Below G.spec_l1Below N.spec_l4Label G.spec_l4Label n a0).trans (hn n (Nat.le_refl n) (fun  m v0_0 v0_1 v0_2 => L_P_spec_l5Path_0 N.spec_l1Below G.spec_l1Below N.spec_l4Label G.spec_l4Label n  m (S_spec_l5Path_0 v0_0 v0_1 v0_2)) (fun  m v0_0 v0_1 v0_2 => bP_spec_l5Path_0 N.spec_l1Below G.spec_l1Below N.spec_l4Label G.spec_l4Label n  m v0_0 v0_1 v0_2))⟩)
abbrev G.spec_l5Copy (a : List ByteArray) : Bool := decide (a.length ≤ 1048576)
abbrev N.spec_l5Copy (a : List ByteArray) : List ByteArray := a
def spec_l5Copy {ρ : Type} (k : (List ByteArray) → Option ρ) (a0 : (List ByteArray)) : Option ρ := (cond (fit (List.length ([] : (List ByteArray))) (List.length a0)) (k (List.append ([] : (List ByteArray)) a0)) none)
theorem spec_l5Copy_ok {ρ : Type} (k : (List ByteArray) → Option ρ) (a0 : (List ByteArray)) (l_a0 : lnL (fun _ => True) a0) (g : G.spec_l5Copy a0 = true) : spec_l5Copy k  a0 = k (N.spec_l5Copy a0) := by
  unfold G.spec_l5Copy at g
  have h1 : fit (List.length ([] : List ByteArray)) (List.length a0) = true := fit_of (by have := of_decide_eq_true g; simp; omega)
  unfold spec_l5Copy
  rw [h1]
  rfl
def O_spec_l5Copy : Orac := nilO
theorem ok_spec_l5Copy : OracOk Tryz.prog sigs O_spec_l5Copy := nilO_ok
def A_spec_l5Copy : Ann := fun b => ⟨[], []⟩
theorem a_spec_l5Copy (n : Nat) (a0 : (List ByteArray)) : absF tab sigs O_spec_l5Copy A_spec_l5Copy Tryz.f56 [((.slice 9 .str), (.own 0))] n [.val (.slice 9 .str) a0] = spec_l5Copy (fun r0 => some [⟨(.slice 9 .str), r0⟩])  a0 := by kernel_rfl
theorem said_spec_l5Copy (a0 : (List ByteArray)) (g : G.spec_l5Copy a0 = true) : Said Tryz.prog sigs_56 56 [.val (.slice 9 .str) a0] [⟨(.slice 9 .str), N.spec_l5Copy a0⟩] := said_len (T := tab) (A := A_spec_l5Copy) tabOk ok_spec_l5Copy tabOk.follows Tryz.func56 (by kernel_rfl) (by kernel_rfl) (fun hl => ⟨0, (a_spec_l5Copy 0 a0).trans (spec_l5Copy_ok (ρ := Ret) (fun r0 => some [⟨(.slice 9 .str), r0⟩]) a0 hl.1 g)⟩)
abbrev G.spec_MovedEntry (s : ByteArray) (i : Int) (p : List ByteArray) : Bool := decide (p.length ≤ 1048576)
abbrev N.spec_MovedEntry (s : ByteArray) (i : Int) (p : List ByteArray) : TEntry := (s, (3, (i, p)))
def spec_MovedEntry {ρ : Type} (k : TEntry → Option ρ) (a0 : ByteArray) (a1 : Int) (a2 : (List ByteArray)) : Option ρ := (cond (G.spec_l5Copy a2) (k (a0, ((3 : Int), (a1, (N.spec_l5Copy a2))))) none)
theorem spec_MovedEntry_ok {ρ : Type} (k : TEntry → Option ρ) (a0 : ByteArray) (a1 : Int) (a2 : (List ByteArray)) (l_a2 : lnL (fun _ => True) a2) (g : G.spec_MovedEntry a0 a1 a2 = true) : spec_MovedEntry k  a0 a1 a2 = k (N.spec_MovedEntry a0 a1 a2) := by
  unfold G.spec_MovedEntry at g
  show cond (decide (a2.length ≤ 1048576)) _ none = _
  rw [g]
  rfl
def OP_spec_MovedEntry (f0 : (List ByteArray) → (List ByteArray)) (g0 : (List ByteArray) → Bool) : Orac := (orcX 56 [.val (.slice 9 .str)] (fun d => g0 d.1) (fun d => [⟨(.slice 9 .str), f0 d.1⟩]) nilO)
def O_spec_MovedEntry : Orac := OP_spec_MovedEntry N.spec_l5Copy G.spec_l5Copy
def spec_MovedEntry_P {ρ : Type} (f0 : (List ByteArray) → (List ByteArray)) (g0 : (List ByteArray) → Bool) (k : TEntry → Option ρ) (a0 : ByteArray) (a1 : Int) (a2 : (List ByteArray)) : Option ρ := (cond (g0 a2) (k (a0, ((3 : Int), (a1, (f0 a2))))) none)
theorem ok_spec_MovedEntry : OracOk Tryz.prog sigs O_spec_MovedEntry := (orcX_ok rfl rfl (fun d g => said_spec_l5Copy d.1 g) nilO_ok)
def A_spec_MovedEntry : Ann := fun b => ⟨[], []⟩
theorem aP_spec_MovedEntry (f0 : (List ByteArray) → (List ByteArray)) (g0 : (List ByteArray) → Bool) (n : Nat) (a0 : ByteArray) (a1 : Int) (a2 : (List ByteArray)) : absF tab sigs (OP_spec_MovedEntry f0 g0) A_spec_MovedEntry Tryz.f69 [(TyEntry, (.pair .no (.pair .no (.pair .no (.own 0)))))] n [.val .str a0, .val (.int .i64) a1, .val (.slice 9 .str) a2] = spec_MovedEntry_P f0 g0 (fun r0 => some [⟨TyEntry, r0⟩])  a0 a1 a2 := by kernel_rfl
theorem said_spec_MovedEntry (a0 : ByteArray) (a1 : Int) (a2 : (List ByteArray)) (g : G.spec_MovedEntry a0 a1 a2 = true) : Said Tryz.prog sigs_69 69 [.val .str a0, .val (.int .i64) a1, .val (.slice 9 .str) a2] [⟨TyEntry, N.spec_MovedEntry a0 a1 a2⟩] := said_len (T := tab) (A := A_spec_MovedEntry) tabOk ok_spec_MovedEntry tabOk.follows Tryz.func69 (by kernel_rfl) (by kernel_rfl) (fun hl => ⟨0, (aP_spec_MovedEntry N.spec_l5Copy G.spec_l5Copy 0 a0 a1 a2).trans (spec_MovedEntry_ok (ρ := Ret) (fun r0 => some [⟨TyEntry, r0⟩]) a0 a1 a2 hl.2.2.1 g)⟩)
abbrev N.spec_ValueEntry (s : ByteArray) (n : Int) : TEntry := (s, (1, (n, [])))
def spec_ValueEntry {ρ : Type} (k : TEntry → Option ρ) (a0 : ByteArray) (a1 : Int) : Option ρ := (k (a0, ((1 : Int), (a1, []))))
theorem spec_ValueEntry_ok {ρ : Type} (k : TEntry → Option ρ) (a0 : ByteArray) (a1 : Int) : spec_ValueEntry k  a0 a1 = k (N.spec_ValueEntry a0 a1) := by
  rfl
def O_spec_ValueEntry : Orac := nilO
theorem ok_spec_ValueEntry : OracOk Tryz.prog sigs O_spec_ValueEntry := nilO_ok
def A_spec_ValueEntry : Ann := fun b => ⟨[], []⟩
theorem a_spec_ValueEntry (n : Nat) (a0 : ByteArray) (a1 : Int) : absF tab sigs O_spec_ValueEntry A_spec_ValueEntry Tryz.f47 [(TyEntry, (.pair .no (.pair .no (.pair .no (.own 0)))))] n [.val .str a0, .val (.int .i64) a1] = spec_ValueEntry (fun r0 => some [⟨TyEntry, r0⟩])  a0 a1 := by kernel_rfl
theorem said_spec_ValueEntry (a0 : ByteArray) (a1 : Int) : Said Tryz.prog sigs_47 47 [.val .str a0, .val (.int .i64) a1] [⟨TyEntry, N.spec_ValueEntry a0 a1⟩] := said_len (T := tab) (A := A_spec_ValueEntry) tabOk ok_spec_ValueEntry tabOk.follows Tryz.func47 (by kernel_rfl) (by kernel_rfl) (fun hl => ⟨0, (a_spec_ValueEntry 0 a0 a1).trans (spec_ValueEntry_ok (ρ := Ret) (fun r0 => some [⟨TyEntry, r0⟩]) a0 a1)⟩)
abbrev G.spec_l8Entry (c : TCur) : Bool := okC c
abbrev N.spec_l8Entry (c : TCur) : TCur × TEntry := entryC c
def spec_l8Entry_P {ρ : Type} (f0 : TCur → (TCur × ByteArray)) (g0 : TCur → Bool) (f1 : TCur → Int → (TCur × Int)) (g1 : TCur → Int → Bool) (f2 : ByteArray → Int → TEntry) (f3 : TCur → (TCur × (List ByteArray))) (g3 : TCur → Bool) (f4 : ByteArray → Int → (List ByteArray) → TEntry) (g4 : ByteArray → Int → (List ByteArray) → Bool) (f5 : ByteArray → Int → TEntry) (k : TCur → TEntry → Option ρ) (a0 : TCur) : Option ρ := (cond (g0 a0) (cond (g1 (f0 a0).1 (5 : Int)) (cond ((f1 (f0 a0).1 (5 : Int)).2 == (0 : Int)) (cond (g1 (f1 (f0 a0).1 (5 : Int)).1 (5000 : Int)) (k (f1 (f1 (f0 a0).1 (5 : Int)).1 (5000 : Int)).1 (f2 (f0 a0).2 (f1 (f1 (f0 a0).1 (5 : Int)).1 (5000 : Int)).2)) none) (cond ((f1 (f0 a0).1 (5 : Int)).2 == (1 : Int)) (cond (g1 (f1 (f0 a0).1 (5 : Int)).1 (5000 : Int)) (cond (g3 (f1 (f1 (f0 a0).1 (5 : Int)).1 (5000 : Int)).1) (cond (g4 (f0 a0).2 (f1 (f1 (f0 a0).1 (5 : Int)).1 (5000 : Int)).2 (f3 (f1 (f1 (f0 a0).1 (5 : Int)).1 (5000 : Int)).1).2) (k (f3 (f1 (f1 (f0 a0).1 (5 : Int)).1 (5000 : Int)).1).1 (f4 (f0 a0).2 (f1 (f1 (f0 a0).1 (5 : Int)).1 (5000 : Int)).2 (f3 (f1 (f1 (f0 a0).1 (5 : Int)).1 (5000 : Int)).1).2)) none) none) none) (cond (g1 (f1 (f0 a0).1 (5 : Int)).1 (50 : Int)) (k (f1 (f1 (f0 a0).1 (5 : Int)).1 (50 : Int)).1 (f5 (f0 a0).2 (f1 (f1 (f0 a0).1 (5 : Int)).1 (50 : Int)).2)) none))) none) none)
def spec_l8Entry {ρ : Type} (k : TCur → TEntry → Option ρ) (a0 : TCur) : Option ρ := spec_l8Entry_P N.spec_l4Label G.spec_l4Label N.spec_l1Below G.spec_l1Below N.spec_ZoneEntry N.spec_l5Path G.spec_l5Path N.spec_MovedEntry G.spec_MovedEntry N.spec_ValueEntry k a0
theorem spec_l8Entry_ok {ρ : Type} (k : TCur → TEntry → Option ρ) (a0 : TCur) (l_a0 : (lnL (fun _ => True) a0.1 ∧ (True ∧ True))) (g : G.spec_l8Entry a0 = true) : spec_l8Entry k  a0 = k (N.spec_l8Entry a0).1 (N.spec_l8Entry a0).2 := by
  unfold G.spec_l8Entry at g
  have h1 := okC_label g
  have h2 := okC_below 5 h1
  have h3 := okC_below 5000 h2
  have hl : decide ((pathC (belowC (belowC (labelC a0).1 5).1 5000).1).2.length ≤ 1048576) = true := decide_eq_true (Nat.le_trans (wP_ge _) (Nat.le_trans (path_le _) (by decide)))
  simp only [spec_l8Entry, spec_l8Entry_P, G.spec_l4Label, N.spec_l4Label, G.spec_l1Below, N.spec_l1Below, G.spec_l5Path, N.spec_l5Path, N.spec_ZoneEntry, N.spec_ValueEntry, G.spec_MovedEntry, N.spec_MovedEntry, g, h1, h2, h3, hl, cond_true]
  show _ = k (entryC a0).1 (entryC a0).2
  unfold entryC
  cases ((belowC (labelC a0).1 5).2 == 0) with
  | true => rfl
  | false => cases ((belowC (labelC a0).1 5).2 == 1) <;> rfl
def OP_spec_l8Entry (f0 : TCur → (TCur × ByteArray)) (g0 : TCur → Bool) (f1 : TCur → Int → (TCur × Int)) (g1 : TCur → Int → Bool) (f2 : ByteArray → Int → TEntry) (f3 : TCur → (TCur × (List ByteArray))) (g3 : TCur → Bool) (f4 : ByteArray → Int → (List ByteArray) → TEntry) (g4 : ByteArray → Int → (List ByteArray) → Bool) (f5 : ByteArray → Int → TEntry) : Orac := (orcX 47 [.val .str, .val (.int .i64)] (fun d => true) (fun d => [⟨TyEntry, f5 d.1 d.2.1⟩]) (orcX 69 [.val .str, .val (.int .i64), .val (.slice 9 .str)] (fun d => g4 d.1 d.2.1 d.2.2.1) (fun d => [⟨TyEntry, f4 d.1 d.2.1 d.2.2.1⟩]) (orcX 70 [.lend (.pair (.slice 5 (.int .u8)) (.pair (.int .i64) (.int .i64))) .no] (fun d => g3 d.1) (fun d => [⟨(.pair (.slice 5 (.int .u8)) (.pair (.int .i64) (.int .i64))), (f3 d.1).1⟩, ⟨(.slice 9 .str), (f3 d.1).2⟩]) (orcX 68 [.val .str, .val (.int .i64)] (fun d => true) (fun d => [⟨TyEntry, f2 d.1 d.2.1⟩]) (orcX 46 [.lend (.pair (.slice 5 (.int .u8)) (.pair (.int .i64) (.int .i64))) .no, .val (.int .i64)] (fun d => g1 d.1 d.2.1) (fun d => [⟨(.pair (.slice 5 (.int .u8)) (.pair (.int .i64) (.int .i64))), (f1 d.1 d.2.1).1⟩, ⟨(.int .i64), (f1 d.1 d.2.1).2⟩]) (orcX 67 [.lend (.pair (.slice 5 (.int .u8)) (.pair (.int .i64) (.int .i64))) .no] (fun d => g0 d.1) (fun d => [⟨(.pair (.slice 5 (.int .u8)) (.pair (.int .i64) (.int .i64))), (f0 d.1).1⟩, ⟨.str, (f0 d.1).2⟩]) nilO))))))
def O_spec_l8Entry : Orac := OP_spec_l8Entry N.spec_l4Label G.spec_l4Label N.spec_l1Below G.spec_l1Below N.spec_ZoneEntry N.spec_l5Path G.spec_l5Path N.spec_MovedEntry G.spec_MovedEntry N.spec_ValueEntry
theorem ok_spec_l8Entry : OracOk Tryz.prog sigs O_spec_l8Entry := (orcX_ok rfl rfl (fun d g => said_spec_ValueEntry d.1 d.2.1) (orcX_ok rfl rfl (fun d g => said_spec_MovedEntry d.1 d.2.1 d.2.2.1 g) (orcB_ok rfl (fun d g => said_spec_l5Path d.1 g) (orcX_ok rfl rfl (fun d g => said_spec_ZoneEntry d.1 d.2.1) (orcB_ok rfl (fun d g => said_spec_l1Below d.1 d.2.1 g) (orcB_ok rfl (fun d g => said_spec_l4Label d.1 g) nilO_ok))))))
def A_spec_l8Entry : Ann := fun b => ⟨[], []⟩
theorem aP_spec_l8Entry (f0 : TCur → (TCur × ByteArray)) (g0 : TCur → Bool) (f1 : TCur → Int → (TCur × Int)) (g1 : TCur → Int → Bool) (f2 : ByteArray → Int → TEntry) (f3 : TCur → (TCur × (List ByteArray))) (g3 : TCur → Bool) (f4 : ByteArray → Int → (List ByteArray) → TEntry) (g4 : ByteArray → Int → (List ByteArray) → Bool) (f5 : ByteArray → Int → TEntry) (n : Nat) (a0 : TCur) : absFB tab sigs (OP_spec_l8Entry f0 g0 f1 g1 f2 f3 g3 f4 g4 f5) A_spec_l8Entry Tryz.f48 [(TyEntry, (.pair .no (.pair .no (.pair .no (.own 0)))))] n (.pair (.slice 5 (.int .u8)) (.pair (.int .i64) (.int .i64))) a0 [] = spec_l8Entry_P f0 g0 f1 g1 f2 f3 g3 f4 g4 f5 (fun r0 r1 => some [⟨(.pair (.slice 5 (.int .u8)) (.pair (.int .i64) (.int .i64))), r0⟩, ⟨TyEntry, r1⟩])  a0 := by kernel_rfl
theorem said_spec_l8Entry (a0 : TCur) (g : G.spec_l8Entry a0 = true) : SaidP Tryz.prog sigs_48 48 (.pair (.slice 5 (.int .u8)) (.pair (.int .i64) (.int .i64))) a0 [] [⟨(.pair (.slice 5 (.int .u8)) (.pair (.int .i64) (.int .i64))), (N.spec_l8Entry a0).1⟩, ⟨TyEntry, (N.spec_l8Entry a0).2⟩] := said_lenB (T := tab) (A := A_spec_l8Entry) tabOk ok_spec_l8Entry tabOk.follows Tryz.func48 (by kernel_rfl) (by kernel_rfl) (fun hl => ⟨0, (aP_spec_l8Entry N.spec_l4Label G.spec_l4Label N.spec_l1Below G.spec_l1Below N.spec_ZoneEntry N.spec_l5Path G.spec_l5Path N.spec_MovedEntry G.spec_MovedEntry N.spec_ValueEntry 0 a0).trans (spec_l8Entry_ok (ρ := Ret) (fun r0 r1 => some [⟨(.pair (.slice 5 (.int .u8)) (.pair (.int .i64) (.int .i64))), r0⟩, ⟨TyEntry, r1⟩]) a0 hl.1 g)⟩)
abbrev N.spec_CompareLabels (a b : ByteArray) : Int := cmpStr a b
def spec_CompareLabels {ρ : Type} (k : Int → Option ρ) (a0 : ByteArray) (a1 : ByteArray) : Option ρ := (cond (Op.bytesLess (ByteArray.toList a0) (ByteArray.toList a1)) (k (-1 : Int)) (cond (!(Op.bytesLess (ByteArray.toList a0) (ByteArray.toList a1) || ((ByteArray.toList a0) == (ByteArray.toList a1)))) (k (1 : Int)) (k (0 : Int))))
theorem spec_CompareLabels_ok {ρ : Type} (k : Int → Option ρ) (a0 : ByteArray) (a1 : ByteArray) : spec_CompareLabels k  a0 a1 = k (N.spec_CompareLabels a0 a1) := by
  simp only [spec_CompareLabels, cmpStr]
  cases Op.bytesLess a0.toList a1.toList <;> cases a0.toList == a1.toList <;> rfl
def O_spec_CompareLabels : Orac := nilO
theorem ok_spec_CompareLabels : OracOk Tryz.prog sigs O_spec_CompareLabels := nilO_ok
def A_spec_CompareLabels : Ann := fun b => ⟨[], []⟩
theorem a_spec_CompareLabels (n : Nat) (a0 : ByteArray) (a1 : ByteArray) : absF tab sigs O_spec_CompareLabels A_spec_CompareLabels Tryz.f28 [((.int .i64), .no)] n [.val .str a0, .val .str a1] = spec_CompareLabels (fun r0 => some [⟨(.int .i64), r0⟩])  a0 a1 := by kernel_rfl
theorem said_spec_CompareLabels (a0 : ByteArray) (a1 : ByteArray) : Said Tryz.prog sigs_28 28 [.val .str a0, .val .str a1] [⟨(.int .i64), N.spec_CompareLabels a0 a1⟩] := said_len (T := tab) (A := A_spec_CompareLabels) tabOk ok_spec_CompareLabels tabOk.follows Tryz.func28 (by kernel_rfl) (by kernel_rfl) (fun hl => ⟨0, (a_spec_CompareLabels 0 a0 a1).trans (spec_CompareLabels_ok (ρ := Ret) (fun r0 => some [⟨(.int .i64), r0⟩]) a0 a1)⟩)
abbrev G.spec_l8Copy (e : TEntry) : Bool := decide (e.2.2.2.length ≤ 1048576)
abbrev N.spec_l8Copy (e : TEntry) : TEntry := e
def spec_l8Copy {ρ : Type} (k : TEntry → Option ρ) (a0 : TEntry) : Option ρ := (cond (G.spec_l5Copy a0.2.2.2) (k (a0.1, (a0.2.1, (a0.2.2.1, (N.spec_l5Copy a0.2.2.2))))) none)
theorem spec_l8Copy_ok {ρ : Type} (k : TEntry → Option ρ) (a0 : TEntry) (l_a0 : (True ∧ (True ∧ (True ∧ lnL (fun _ => True) a0.2.2.2)))) (g : G.spec_l8Copy a0 = true) : spec_l8Copy k  a0 = k (N.spec_l8Copy a0) := by
  unfold G.spec_l8Copy at g
  simp only [spec_l8Copy, G.spec_l5Copy, N.spec_l5Copy, g, cond_true]
def OP_spec_l8Copy (f0 : (List ByteArray) → (List ByteArray)) (g0 : (List ByteArray) → Bool) : Orac := (orcX 56 [.val (.slice 9 .str)] (fun d => g0 d.1) (fun d => [⟨(.slice 9 .str), f0 d.1⟩]) nilO)
def O_spec_l8Copy : Orac := OP_spec_l8Copy N.spec_l5Copy G.spec_l5Copy
def spec_l8Copy_P {ρ : Type} (f0 : (List ByteArray) → (List ByteArray)) (g0 : (List ByteArray) → Bool) (k : TEntry → Option ρ) (a0 : TEntry) : Option ρ := (cond (g0 a0.2.2.2) (k (a0.1, (a0.2.1, (a0.2.2.1, (f0 a0.2.2.2))))) none)
theorem ok_spec_l8Copy : OracOk Tryz.prog sigs O_spec_l8Copy := (orcX_ok rfl rfl (fun d g => said_spec_l5Copy d.1 g) nilO_ok)
def A_spec_l8Copy : Ann := fun b => ⟨[], []⟩
theorem aP_spec_l8Copy (f0 : (List ByteArray) → (List ByteArray)) (g0 : (List ByteArray) → Bool) (n : Nat) (a0 : TEntry) : absF tab sigs (OP_spec_l8Copy f0 g0) A_spec_l8Copy Tryz.f29 [(TyEntry, (.pair .no (.pair .no (.pair .no (.own 0)))))] n [.val TyEntry a0] = spec_l8Copy_P f0 g0 (fun r0 => some [⟨TyEntry, r0⟩])  a0 := by kernel_rfl
theorem said_spec_l8Copy (a0 : TEntry) (g : G.spec_l8Copy a0 = true) : Said Tryz.prog sigs_29 29 [.val TyEntry a0] [⟨TyEntry, N.spec_l8Copy a0⟩] := said_len (T := tab) (A := A_spec_l8Copy) tabOk ok_spec_l8Copy tabOk.follows Tryz.func29 (by kernel_rfl) (by kernel_rfl) (fun hl => ⟨0, (aP_spec_l8Copy N.spec_l5Copy G.spec_l5Copy 0 a0).trans (spec_l8Copy_ok (ρ := Ret) (fun r0 => some [⟨TyEntry, r0⟩]) a0 hl.1 g)⟩)
abbrev N.spec_l1In (n lo hi : Int) : Bool := inR n lo hi
def spec_l1In {ρ : Type} (k : Bool → Option ρ) (a0 : Int) (a1 : Int) (a2 : Int) : Option ρ := (cond (decide (a0 ≥ a1)) (k (decide (a0 ≤ a2))) (k false))
theorem spec_l1In_ok {ρ : Type} (k : Bool → Option ρ) (a0 : Int) (a1 : Int) (a2 : Int) : spec_l1In k  a0 a1 a2 = k (N.spec_l1In a0 a1 a2) := by
  simp only [spec_l1In, inR, ge_iff_le]
  cases decide (a1 ≤ a0) <;> rfl
def O_spec_l1In : Orac := nilO
theorem ok_spec_l1In : OracOk Tryz.prog sigs O_spec_l1In := nilO_ok
def A_spec_l1In : Ann := fun b => ⟨[], []⟩
theorem a_spec_l1In (n : Nat) (a0 : Int) (a1 : Int) (a2 : Int) : absF tab sigs O_spec_l1In A_spec_l1In Tryz.f64 [(.bool, .no)] n [.val (.int .i64) a0, .val (.int .i64) a1, .val (.int .i64) a2] = spec_l1In (fun r0 => some [⟨.bool, r0⟩])  a0 a1 a2 := by kernel_rfl
theorem said_spec_l1In (a0 : Int) (a1 : Int) (a2 : Int) : Said Tryz.prog sigs_64 64 [.val (.int .i64) a0, .val (.int .i64) a1, .val (.int .i64) a2] [⟨.bool, N.spec_l1In a0 a1 a2⟩] := said_len (T := tab) (A := A_spec_l1In) tabOk ok_spec_l1In tabOk.follows Tryz.func64 (by kernel_rfl) (by kernel_rfl) (fun hl => ⟨0, (a_spec_l1In 0 a0 a1 a2).trans (spec_l1In_ok (ρ := Ret) (fun r0 => some [⟨.bool, r0⟩]) a0 a1 a2)⟩)
abbrev G.spec_IsLabel (s : ByteArray) : Bool := decide (s.size ≤ 1048576)
abbrev N.spec_IsLabel (s : ByteArray) : Bool := isLabel s
def spec_IsLabel_P_L0 {ρ : Type} (f0 : Int → Int → Int → Bool) (k : Bool → Option ρ) (L0 : ByteArray → Int → Option ρ) (v0_0 : ByteArray) (v0_1 : Int) : Option ρ := (cond (decide (v0_1 < (ByteArray.size v0_0 : Int))) (cond (inRange v0_1 (ByteArray.size v0_0)) (cond (decide ((bt v0_0 v0_1) < (97 : Int))) (cond (inRange v0_1 (ByteArray.size v0_0)) (cond (decide ((bt v0_0 v0_1) < (48 : Int))) (cond (inRange v0_1 (ByteArray.size v0_0)) (cond ((bt v0_0 v0_1) != (45 : Int)) (k false) (L0 v0_0 (IntKind.wrap .i64 (v0_1 + (1 : Int))))) none) (cond (inRange v0_1 (ByteArray.size v0_0)) (cond (decide ((bt v0_0 v0_1) > (57 : Int))) (cond (inRange v0_1 (ByteArray.size v0_0)) (cond ((bt v0_0 v0_1) != (45 : Int)) (k false) (L0 v0_0 (IntKind.wrap .i64 (v0_1 + (1 : Int))))) none) (L0 v0_0 (IntKind.wrap .i64 (v0_1 + (1 : Int))))) none)) none) (cond (inRange v0_1 (ByteArray.size v0_0)) (cond (decide ((bt v0_0 v0_1) > (122 : Int))) (cond (inRange v0_1 (ByteArray.size v0_0)) (cond (decide ((bt v0_0 v0_1) < (48 : Int))) (cond (inRange v0_1 (ByteArray.size v0_0)) (cond ((bt v0_0 v0_1) != (45 : Int)) (k false) (L0 v0_0 (IntKind.wrap .i64 (v0_1 + (1 : Int))))) none) (cond (inRange v0_1 (ByteArray.size v0_0)) (cond (decide ((bt v0_0 v0_1) > (57 : Int))) (cond (inRange v0_1 (ByteArray.size v0_0)) (cond ((bt v0_0 v0_1) != (45 : Int)) (k false) (L0 v0_0 (IntKind.wrap .i64 (v0_1 + (1 : Int))))) none) (L0 v0_0 (IntKind.wrap .i64 (v0_1 + (1 : Int))))) none)) none) (L0 v0_0 (IntKind.wrap .i64 (v0_1 + (1 : Int))))) none)) none) (k true))
def spec_IsLabel_P {ρ : Type} (f0 : Int → Int → Int → Bool) (k : Bool → Option ρ) (L0 : ByteArray → Int → Option ρ) (a0 : ByteArray) : Option ρ := (cond (!(f0 (ByteArray.size a0 : Int) (1 : Int) (8 : Int))) (k false) (cond (inRange (0 : Int) (ByteArray.size a0)) (cond ((bt a0 (0 : Int)) == (45 : Int)) (k false) (cond (inRange (IntKind.wrap .i64 ((ByteArray.size a0 : Int) - (1 : Int))) (ByteArray.size a0)) (cond ((bt a0 (IntKind.wrap .i64 ((ByteArray.size a0 : Int) - (1 : Int)))) == (45 : Int)) (k false) (L0 a0 (0 : Int))) none)) none))
def spec_IsLabel_L0 {ρ : Type} (k : Bool → Option ρ) (L0 : ByteArray → Int → Option ρ) (v0_0 : ByteArray) (v0_1 : Int) : Option ρ := spec_IsLabel_P_L0 N.spec_l1In k L0 v0_0 v0_1
def spec_IsLabel {ρ : Type} (k : Bool → Option ρ) (L0 : ByteArray → Int → Option ρ) (a0 : ByteArray) : Option ρ := spec_IsLabel_P N.spec_l1In k L0 a0
theorem spec_IsLabel_ok {ρ : Type} (k : Bool → Option ρ) (a0 : ByteArray) (g : G.spec_IsLabel a0 = true) : ∃ n0, ∀ n, n0 ≤ n → ∀ (L0 : Nat → ByteArray → Int → Option ρ) (h0 : ∀ ( m : Nat) (v0_0 : ByteArray) (v0_1 : Int), L0 (m + 1) v0_0 v0_1 = spec_IsLabel_L0 k (L0 m) v0_0 v0_1), spec_IsLabel k (L0 n) a0 = k (N.spec_IsLabel a0) := by
  unfold G.spec_IsLabel at g
  have hlen : a0.size ≤ 1048576 := of_decide_eq_true g
  refine ⟨a0.size + 1, fun n hn L0 h0 => ?_⟩
  show spec_IsLabel k (L0 n) a0 = k (isLabel a0)
  unfold spec_IsLabel spec_IsLabel_P isLabel
  dsimp only [N.spec_l1In]
  cases hr : inR (a0.size : Int) 1 8 with
  | false => rfl
  | true =>
    have hr2 : 1 ≤ (a0.size : Int) ∧ (a0.size : Int) ≤ 8 := by simpa [inR] using hr
    have e0 : inRange 0 a0.size = true := by unfold inRange; simp; omega
    have e1 : IntKind.wrap .i64 ((a0.size : Int) - 1) = ((a0.size - 1 : Nat) : Int) := by rw [wrap_id (by omega) (by omega)]; omega
    have e2 : inRange ((a0.size - 1 : Nat) : Int) a0.size = true := by rw [inRange_nat]; simp; omega
    have hrun := raw_run0 (σ := Unit) (s := ()) (L := fun m i _ => L0 m a0 i) (R := fun i _ c => spec_IsLabel_L0 k (fun _ i => c i ()) a0 i) (fun m i s => h0 m a0 i) a0.size (fun _ _ => True) (fun j _ => k (charsFrom a0 (a0.size - j) j)) (fun j s c hj _ hc => ?_) (fun s c _ => ?_) hn trivial
    · rw [e1]
      simp only [e0, e2, cond_true, Bool.not_true, cond_false]
      rw [hrun, Nat.sub_zero, label_edges a0 (by omega)]
      cases bt a0 0 == 45 <;> cases bt a0 ((a0.size - 1 : Nat) : Int) == 45 <;> simp
    · obtain ⟨m, hm⟩ : ∃ m, a0.size - j = m + 1 := ⟨a0.size - j - 1, by omega⟩
      have hm2 : a0.size - (j + 1) = m := by omega
      have hc' := hc () trivial
      rw [hm2] at hc'
      rw [hm]
      unfold charsFrom
      simp only [spec_IsLabel_L0, spec_IsLabel_P_L0, lt_nat, inRange_nat, decide_eq_true hj, cond_true, wrap_succ (j := j) (by unfold big; omega), hc']
      generalize bt a0 (j : Int) = b
      exact char_spec k b _
    · rw [Nat.sub_self]
      simp [spec_IsLabel_L0, spec_IsLabel_P_L0, charsFrom]
def OP_spec_IsLabel (f0 : Int → Int → Int → Bool) : Orac := (orcX 64 [.val (.int .i64), .val (.int .i64), .val (.int .i64)] (fun d => true) (fun d => [⟨.bool, f0 d.1 d.2.1 d.2.2.1⟩]) nilO)
def O_spec_IsLabel : Orac := OP_spec_IsLabel N.spec_l1In
theorem ok_spec_IsLabel : OracOk Tryz.prog sigs O_spec_IsLabel := (orcX_ok rfl rfl (fun d g => said_spec_l1In d.1 d.2.1 d.2.2.1) nilO_ok)
def A_spec_IsLabel : Ann := fun b => cond (Nat.beq b 0) ⟨[(0, false), (3, false)], []⟩ (⟨[], []⟩)
def S_spec_IsLabel_0 (v0_0 : ByteArray) (v0_1 : Int) : St := [(kT 0, some (.tv (.v .str v0_0 .no))), (kT 3, some (.tv (.v (.int .i64) v0_1 .no)))]
noncomputable def L_P_spec_IsLabel_0 (f0 : Int → Int → Int → Bool) (n m : Nat) : St → Option Ret := loopOf tab sigs (OP_spec_IsLabel f0) A_spec_IsLabel Tryz.f62 [(.bool, .no)] n (fun _ => 0) 0 m
theorem bP_spec_IsLabel_0 (f0 : Int → Int → Int → Bool) (n m : Nat) (v0_0 : ByteArray) (v0_1 : Int) : L_P_spec_IsLabel_0 f0 n (m + 1) (S_spec_IsLabel_0 v0_0 v0_1) = spec_IsLabel_P_L0 f0 (fun r0 => some [⟨.bool, r0⟩]) (fun v0_0 v0_1 => L_P_spec_IsLabel_0 f0 n m (S_spec_IsLabel_0 v0_0 v0_1)) v0_0 v0_1 := by kernel_rfl
theorem aP_spec_IsLabel (f0 : Int → Int → Int → Bool) (n : Nat) (a0 : ByteArray) : absF tab sigs (OP_spec_IsLabel f0) A_spec_IsLabel Tryz.f62 [(.bool, .no)] n [.val .str a0] = spec_IsLabel_P f0 (fun r0 => some [⟨.bool, r0⟩]) (fun v0_0 v0_1 => L_P_spec_IsLabel_0 f0 n n (S_spec_IsLabel_0 v0_0 v0_1)) a0 := by kernel_rfl
theorem said_spec_IsLabel (a0 : ByteArray) (g : G.spec_IsLabel a0 = true) : Said Tryz.prog sigs_62 62 [.val .str a0] [⟨.bool, N.spec_IsLabel a0⟩] := said_len (T := tab) (A := A_spec_IsLabel) tabOk ok_spec_IsLabel tabOk.follows Tryz.func62 (by kernel_rfl) (by kernel_rfl) (fun hl => let ⟨n, hn⟩ := spec_IsLabel_ok (ρ := Ret) (fun r0 => some [⟨.bool, r0⟩]) a0 g; ⟨n, (aP_spec_IsLabel N.spec_l1In n a0).trans (hn n (Nat.le_refl n) (fun  m v0_0 v0_1 => L_P_spec_IsLabel_0 N.spec_l1In n  m (S_spec_IsLabel_0 v0_0 v0_1)) (fun  m v0_0 v0_1 => bP_spec_IsLabel_0 N.spec_l1In n  m v0_0 v0_1))⟩)
abbrev G.spec_IsPath (p : List ByteArray) : Bool := decide (wP p ≤ 1048576)
abbrev N.spec_IsPath (p : List ByteArray) : Bool := isPath p
def spec_IsPath_P_L0 {ρ : Type} (f0 : ByteArray → Bool) (g0 : ByteArray → Bool) (f1 : Int → Int → Int → Bool) (k : Bool → Option ρ) (L0 : (List ByteArray) → Int → Option ρ) (v0_0 : (List ByteArray)) (v0_1 : Int) : Option ρ := (cond (decide (v0_1 < (List.length v0_0 : Int))) (cond (inRange v0_1 (List.length v0_0)) (cond (g0 (List.getD v0_0 (Int.toNat v0_1) ByteArray.empty)) (cond (!(f0 (List.getD v0_0 (Int.toNat v0_1) ByteArray.empty))) (k false) (L0 v0_0 (IntKind.wrap .i64 (v0_1 + (1 : Int))))) none) none) (k (f1 (List.length v0_0 : Int) (1 : Int) (4 : Int))))
def spec_IsPath_P {ρ : Type} (f0 : ByteArray → Bool) (g0 : ByteArray → Bool) (f1 : Int → Int → Int → Bool) (k : Bool → Option ρ) (L0 : (List ByteArray) → Int → Option ρ) (a0 : (List ByteArray)) : Option ρ := (L0 a0 (0 : Int))
def spec_IsPath_L0 {ρ : Type} (k : Bool → Option ρ) (L0 : (List ByteArray) → Int → Option ρ) (v0_0 : (List ByteArray)) (v0_1 : Int) : Option ρ := spec_IsPath_P_L0 N.spec_IsLabel G.spec_IsLabel N.spec_l1In k L0 v0_0 v0_1
def spec_IsPath {ρ : Type} (k : Bool → Option ρ) (L0 : (List ByteArray) → Int → Option ρ) (a0 : (List ByteArray)) : Option ρ := spec_IsPath_P N.spec_IsLabel G.spec_IsLabel N.spec_l1In k L0 a0
theorem spec_IsPath_ok {ρ : Type} (k : Bool → Option ρ) (a0 : (List ByteArray)) (l_a0 : lnL (fun _ => True) a0) (g : G.spec_IsPath a0 = true) : ∃ n0, ∀ n, n0 ≤ n → ∀ (L0 : Nat → (List ByteArray) → Int → Option ρ) (h0 : ∀ ( m : Nat) (v0_0 : (List ByteArray)) (v0_1 : Int), L0 (m + 1) v0_0 v0_1 = spec_IsPath_L0 k (L0 m) v0_0 v0_1), spec_IsPath k (L0 n) a0 = k (N.spec_IsPath a0) := by
  unfold G.spec_IsPath at g
  have hw : wP a0 ≤ 1048576 := of_decide_eq_true g
  have hl : a0.length ≤ 1048576 := by unfold wP at hw; omega
  refine ⟨a0.length + 1, fun n hn L0 h0 => ?_⟩
  refine (raw_all (a := a0) ByteArray.empty isLabel (σ := Unit) (s := ()) (r := k false) (e := fun _ => k (inR (a0.length : Int) 1 4)) (L := fun m i _ => L0 m a0 i) (R := fun i _ c => spec_IsPath_L0 k (fun _ i => c i ()) a0 i) (fun m i s => h0 m a0 i) (fun j s c hj => ?_) (fun s c => ?_) hn).trans ?_
  · have hm := wP_mem (getD_mem (d := ByteArray.empty) hj)
    have g2 : decide ((a0.getD j ByteArray.empty).size ≤ 1048576) = true := by simp only [decide_eq_true_eq]; omega
    simp only [spec_IsPath_L0, spec_IsPath_P_L0, lt_nat, inRange_nat, decide_eq_true hj, cond_true, Int.toNat_natCast, G.spec_IsLabel, N.spec_IsLabel, g2, wrap_succ (j := j) (by unfold big; omega)]
    cases isLabel (a0.getD j ByteArray.empty) <;> rfl
  · simp [spec_IsPath_L0, spec_IsPath_P_L0]
  · show _ = k (inR (a0.length : Int) 1 4 && a0.all isLabel)
    cases a0.all isLabel <;> cases inR (a0.length : Int) 1 4 <;> rfl
def OP_spec_IsPath (f0 : ByteArray → Bool) (g0 : ByteArray → Bool) (f1 : Int → Int → Int → Bool) : Orac := (orcX 64 [.val (.int .i64), .val (.int .i64), .val (.int .i64)] (fun d => true) (fun d => [⟨.bool, f1 d.1 d.2.1 d.2.2.1⟩]) (orcX 62 [.val .str] (fun d => g0 d.1) (fun d => [⟨.bool, f0 d.1⟩]) nilO))
def O_spec_IsPath : Orac := OP_spec_IsPath N.spec_IsLabel G.spec_IsLabel N.spec_l1In
theorem ok_spec_IsPath : OracOk Tryz.prog sigs O_spec_IsPath := (orcX_ok rfl rfl (fun d g => said_spec_l1In d.1 d.2.1 d.2.2.1) (orcX_ok rfl rfl (fun d g => said_spec_IsLabel d.1 g) nilO_ok))
def A_spec_IsPath : Ann := fun b => cond (Nat.beq b 0) ⟨[(0, false), (3, false)], []⟩ (⟨[], []⟩)
def S_spec_IsPath_0 (v0_0 : (List ByteArray)) (v0_1 : Int) : St := [(kT 0, some (.tv (.v (.slice 9 .str) v0_0 .no))), (kT 3, some (.tv (.v (.int .i64) v0_1 .no)))]
noncomputable def L_P_spec_IsPath_0 (f0 : ByteArray → Bool) (g0 : ByteArray → Bool) (f1 : Int → Int → Int → Bool) (n m : Nat) : St → Option Ret := loopOf tab sigs (OP_spec_IsPath f0 g0 f1) A_spec_IsPath Tryz.f65 [(.bool, .no)] n (fun _ => 0) 0 m
theorem bP_spec_IsPath_0 (f0 : ByteArray → Bool) (g0 : ByteArray → Bool) (f1 : Int → Int → Int → Bool) (n m : Nat) (v0_0 : (List ByteArray)) (v0_1 : Int) : L_P_spec_IsPath_0 f0 g0 f1 n (m + 1) (S_spec_IsPath_0 v0_0 v0_1) = spec_IsPath_P_L0 f0 g0 f1 (fun r0 => some [⟨.bool, r0⟩]) (fun v0_0 v0_1 => L_P_spec_IsPath_0 f0 g0 f1 n m (S_spec_IsPath_0 v0_0 v0_1)) v0_0 v0_1 := by kernel_rfl
theorem aP_spec_IsPath (f0 : ByteArray → Bool) (g0 : ByteArray → Bool) (f1 : Int → Int → Int → Bool) (n : Nat) (a0 : (List ByteArray)) : absF tab sigs (OP_spec_IsPath f0 g0 f1) A_spec_IsPath Tryz.f65 [(.bool, .no)] n [.val (.slice 9 .str) a0] = spec_IsPath_P f0 g0 f1 (fun r0 => some [⟨.bool, r0⟩]) (fun v0_0 v0_1 => L_P_spec_IsPath_0 f0 g0 f1 n n (S_spec_IsPath_0 v0_0 v0_1)) a0 := by kernel_rfl
theorem said_spec_IsPath (a0 : (List ByteArray)) (g : G.spec_IsPath a0 = true) : Said Tryz.prog sigs_65 65 [.val (.slice 9 .str) a0] [⟨.bool, N.spec_IsPath a0⟩] := said_len (T := tab) (A := A_spec_IsPath) tabOk ok_spec_IsPath tabOk.follows Tryz.func65 (by kernel_rfl) (by kernel_rfl) (fun hl => let ⟨n, hn⟩ := spec_IsPath_ok (ρ := Ret) (fun r0 => some [⟨.bool, r0⟩]) a0 hl.1 g; ⟨n, (aP_spec_IsPath N.spec_IsLabel G.spec_IsLabel N.spec_l1In n a0).trans (hn n (Nat.le_refl n) (fun  m v0_0 v0_1 => L_P_spec_IsPath_0 N.spec_IsLabel G.spec_IsLabel N.spec_l1In n  m (S_spec_IsPath_0 v0_0 v0_1)) (fun  m v0_0 v0_1 => bP_spec_IsPath_0 N.spec_IsLabel G.spec_IsLabel N.spec_l1In n  m v0_0 v0_1))⟩)
abbrev G.spec_IsEntry (e : TEntry) : Bool := decide (wE e ≤ 1048576)
abbrev N.spec_IsEntry (e : TEntry) : Bool := isEntry e
def spec_IsEntry_P {ρ : Type} (f0 : ByteArray → Bool) (g0 : ByteArray → Bool) (f1 : Int → Int → Int → Bool) (f2 : (List ByteArray) → Bool) (g2 : (List ByteArray) → Bool) (k : Bool → Option ρ) (a0 : TEntry) : Option ρ := (cond (a0.2.1 == (1 : Int)) (cond (g0 a0.1) (cond (f0 a0.1) (cond (f1 a0.2.2.1 (0 : Int) (999999 : Int)) (k ((List.length a0.2.2.2 : Int) == (0 : Int))) (k false)) (k false)) none) (cond (a0.2.1 == (2 : Int)) (cond (g0 a0.1) (cond (f0 a0.1) (cond (f1 a0.2.2.1 (0 : Int) (2147483646 : Int)) (k ((List.length a0.2.2.2 : Int) == (0 : Int))) (k false)) (k false)) none) (cond (a0.2.1 == (3 : Int)) (cond (g0 a0.1) (cond (f0 a0.1) (cond (f1 a0.2.2.1 (0 : Int) (2147483646 : Int)) (cond (g2 a0.2.2.2) (k (f2 a0.2.2.2)) none) (k false)) (k false)) none) (k false))))
def spec_IsEntry {ρ : Type} (k : Bool → Option ρ) (a0 : TEntry) : Option ρ := spec_IsEntry_P N.spec_IsLabel G.spec_IsLabel N.spec_l1In N.spec_IsPath G.spec_IsPath k a0
theorem spec_IsEntry_ok {ρ : Type} (k : Bool → Option ρ) (a0 : TEntry) (l_a0 : (True ∧ (True ∧ (True ∧ lnL (fun _ => True) a0.2.2.2)))) (g : G.spec_IsEntry a0 = true) : spec_IsEntry k  a0 = k (N.spec_IsEntry a0) := by
  unfold G.spec_IsEntry at g
  have hw : wE a0 ≤ 1048576 := of_decide_eq_true g
  have g1 : decide (a0.1.size ≤ 1048576) = true := by unfold wE at hw; simp; omega
  have g2 : decide (wP a0.2.2.2 ≤ 1048576) = true := by unfold wE at hw; simp; omega
  simp only [spec_IsEntry, spec_IsEntry_P, G.spec_IsLabel, N.spec_IsLabel, G.spec_IsPath, N.spec_IsPath, N.spec_l1In, g1, g2, cond_true, isEntry, isDigest]
  by_cases h1 : a0.2.1 = 1
  · have e1 : (a0.2.1 == 1) = true := by simp [h1]
    have e2 : (a0.2.1 == 2) = false := by simp [h1]
    have e3 : (a0.2.1 == 3) = false := by simp [h1]
    simp only [e1, e2, e3]
    cases isLabel a0.1 <;> cases inR a0.2.2.1 0 999999 <;> simp
  by_cases h2 : a0.2.1 = 2
  · have e1 : (a0.2.1 == 1) = false := by simp [h2]
    have e2 : (a0.2.1 == 2) = true := by simp [h2]
    have e3 : (a0.2.1 == 3) = false := by simp [h2]
    simp only [e1, e2, e3]
    cases isLabel a0.1 <;> cases inR a0.2.2.1 0 2147483646 <;> simp
  have e1 : (a0.2.1 == 1) = false := by simp [h1]
  have e2 : (a0.2.1 == 2) = false := by simp [h2]
  simp only [e1, e2]
  cases a0.2.1 == 3 <;> cases isLabel a0.1 <;> cases inR a0.2.2.1 0 2147483646 <;> simp
def OP_spec_IsEntry (f0 : ByteArray → Bool) (g0 : ByteArray → Bool) (f1 : Int → Int → Int → Bool) (f2 : (List ByteArray) → Bool) (g2 : (List ByteArray) → Bool) : Orac := (orcX 65 [.val (.slice 9 .str)] (fun d => g2 d.1) (fun d => [⟨.bool, f2 d.1⟩]) (orcX 64 [.val (.int .i64), .val (.int .i64), .val (.int .i64)] (fun d => true) (fun d => [⟨.bool, f1 d.1 d.2.1 d.2.2.1⟩]) (orcX 62 [.val .str] (fun d => g0 d.1) (fun d => [⟨.bool, f0 d.1⟩]) nilO)))
def O_spec_IsEntry : Orac := OP_spec_IsEntry N.spec_IsLabel G.spec_IsLabel N.spec_l1In N.spec_IsPath G.spec_IsPath
theorem ok_spec_IsEntry : OracOk Tryz.prog sigs O_spec_IsEntry := (orcX_ok rfl rfl (fun d g => said_spec_IsPath d.1 g) (orcX_ok rfl rfl (fun d g => said_spec_l1In d.1 d.2.1 d.2.2.1) (orcX_ok rfl rfl (fun d g => said_spec_IsLabel d.1 g) nilO_ok)))
def A_spec_IsEntry : Ann := fun b => ⟨[], []⟩
theorem aP_spec_IsEntry (f0 : ByteArray → Bool) (g0 : ByteArray → Bool) (f1 : Int → Int → Int → Bool) (f2 : (List ByteArray) → Bool) (g2 : (List ByteArray) → Bool) (n : Nat) (a0 : TEntry) : absF tab sigs (OP_spec_IsEntry f0 g0 f1 f2 g2) A_spec_IsEntry Tryz.f44 [(.bool, .no)] n [.val TyEntry a0] = spec_IsEntry_P f0 g0 f1 f2 g2 (fun r0 => some [⟨.bool, r0⟩])  a0 := by kernel_rfl
theorem said_spec_IsEntry (a0 : TEntry) (g : G.spec_IsEntry a0 = true) : Said Tryz.prog sigs_44 44 [.val TyEntry a0] [⟨.bool, N.spec_IsEntry a0⟩] := said_len (T := tab) (A := A_spec_IsEntry) tabOk ok_spec_IsEntry tabOk.follows Tryz.func44 (by kernel_rfl) (by kernel_rfl) (fun hl => ⟨0, (aP_spec_IsEntry N.spec_IsLabel G.spec_IsLabel N.spec_l1In N.spec_IsPath G.spec_IsPath 0 a0).trans (spec_IsEntry_ok (ρ := Ret) (fun r0 => some [⟨.bool, r0⟩]) a0 hl.1 g)⟩)
abbrev G.spec_AreEntries (l : List TEntry) : Bool := decide (wEs l ≤ 1048577)
abbrev N.spec_AreEntries (l : List TEntry) : Bool := areEntries l
def spec_AreEntries_P_L0 {ρ : Type} (f0 : TEntry → Bool) (g0 : TEntry → Bool) (f1 : ByteArray → ByteArray → Int) (k : Bool → Option ρ) (L0 : (List TEntry) → Int → Option ρ) (v0_0 : (List TEntry)) (v0_1 : Int) : Option ρ := (cond (decide (v0_1 < (List.length v0_0 : Int))) (cond (inRange v0_1 (List.length v0_0)) (cond (g0 (List.getD v0_0 (Int.toNat v0_1) (ByteArray.empty, ((0 : Int), ((0 : Int), []))))) (cond (!(f0 (List.getD v0_0 (Int.toNat v0_1) (ByteArray.empty, ((0 : Int), ((0 : Int), [])))))) (k false) (cond (decide (v0_1 > (0 : Int))) (cond (inRange (IntKind.wrap .i64 (v0_1 - (1 : Int))) (List.length v0_0)) (cond (inRange v0_1 (List.length v0_0)) (cond ((f1 (List.getD v0_0 (Int.toNat (IntKind.wrap .i64 (v0_1 - (1 : Int)))) (ByteArray.empty, ((0 : Int), ((0 : Int), [])))).1 (List.getD v0_0 (Int.toNat v0_1) (ByteArray.empty, ((0 : Int), ((0 : Int), [])))).1) != (-1 : Int)) (k false) (L0 v0_0 (IntKind.wrap .i64 (v0_1 + (1 : Int))))) none) none) (L0 v0_0 (IntKind.wrap .i64 (v0_1 + (1 : Int)))))) none) none) (k (decide ((List.length v0_0 : Int) ≤ (12 : Int)))))
def spec_AreEntries_P {ρ : Type} (f0 : TEntry → Bool) (g0 : TEntry → Bool) (f1 : ByteArray → ByteArray → Int) (k : Bool → Option ρ) (L0 : (List TEntry) → Int → Option ρ) (a0 : (List TEntry)) : Option ρ := (L0 a0 (0 : Int))
def spec_AreEntries_L0 {ρ : Type} (k : Bool → Option ρ) (L0 : (List TEntry) → Int → Option ρ) (v0_0 : (List TEntry)) (v0_1 : Int) : Option ρ := spec_AreEntries_P_L0 N.spec_IsEntry G.spec_IsEntry N.spec_CompareLabels k L0 v0_0 v0_1
def spec_AreEntries {ρ : Type} (k : Bool → Option ρ) (L0 : (List TEntry) → Int → Option ρ) (a0 : (List TEntry)) : Option ρ := spec_AreEntries_P N.spec_IsEntry G.spec_IsEntry N.spec_CompareLabels k L0 a0
theorem spec_AreEntries_ok {ρ : Type} (k : Bool → Option ρ) (a0 : (List TEntry)) (l_a0 : lnL (fun y => (True ∧ (True ∧ (True ∧ lnL (fun _ => True) y.2.2.2)))) a0) (g : G.spec_AreEntries a0 = true) : ∃ n0, ∀ n, n0 ≤ n → ∀ (L0 : Nat → (List TEntry) → Int → Option ρ) (h0 : ∀ ( m : Nat) (v0_0 : (List TEntry)) (v0_1 : Int), L0 (m + 1) v0_0 v0_1 = spec_AreEntries_L0 k (L0 m) v0_0 v0_1), spec_AreEntries k (L0 n) a0 = k (N.spec_AreEntries a0) := by
  unfold G.spec_AreEntries at g
  have hw : wEs a0 ≤ 1048577 := of_decide_eq_true g
  have hl : a0.length ≤ 1048577 := by unfold wEs at hw; omega
  refine ⟨a0.length + 1, fun n hn L0 h0 => ?_⟩
  have hrun := raw_run0 (σ := Unit) (s := ()) (L := fun m i _ => L0 m a0 i) (R := fun i _ c => spec_AreEntries_L0 k (fun _ i => c i ()) a0 i) (fun m i s => h0 m a0 i) a0.length (fun _ _ => True) (fun j _ => cond (areFrom a0 (a0.length - j) j) (k (decide (a0.length ≤ 12))) (k false)) (fun j s c hj _ hc => ?_) (fun s c _ => ?_) hn trivial
  · refine hrun.trans ?_
    show _ = k (areFrom a0 a0.length 0 && decide (a0.length ≤ 12))
    rw [Nat.sub_zero]
    cases areFrom a0 a0.length 0 <;> rfl
  · obtain ⟨m, hm⟩ : ∃ m, a0.length - j = m + 1 := ⟨a0.length - j - 1, by omega⟩
    have hm2 : a0.length - (j + 1) = m := by omega
    have hc' := hc () trivial
    rw [hm2] at hc'
    have hmem := wEs_mem1 (getD_mem (d := (ByteArray.empty, (0, (0, [])))) hj)
    have g2 : decide (wE (a0.getD j (ByteArray.empty, (0, (0, [])))) ≤ 1048576) = true := by simp only [decide_eq_true_eq]; omega
    rw [hm]
    unfold areFrom
    by_cases h0j : j = 0
    · subst h0j
      simp only [spec_AreEntries_L0, spec_AreEntries_P_L0, lt_nat, inRange_nat, decide_eq_true hj, cond_true, Int.toNat_natCast, G.spec_IsEntry, N.spec_IsEntry, g2, wrap_succ (j := 0) (by unfold big; omega), hc']
      cases isEntry (a0.getD 0 (ByteArray.empty, (0, (0, [])))) <;> simp
    · have e1 : decide ((j : Int) > 0) = true := by simp; omega
      have e2 : IntKind.wrap .i64 ((j : Int) - 1) = ((j - 1 : Nat) : Int) := by rw [wrap_id (by omega) (by omega)]; omega
      have e3 : j - 1 < a0.length := by omega
      simp only [spec_AreEntries_L0, spec_AreEntries_P_L0, lt_nat, inRange_nat, decide_eq_true hj, cond_true, Int.toNat_natCast, G.spec_IsEntry, N.spec_IsEntry, N.spec_CompareLabels, g2, e1, e2, decide_eq_true e3, wrap_succ (j := j) (by unfold big; omega), hc', decide_eq_false h0j, bne]
      cases isEntry (a0.getD j (ByteArray.empty, (0, (0, [])))) <;> cases cmpStr (a0.getD (j - 1) (ByteArray.empty, (0, (0, [])))).1 (a0.getD j (ByteArray.empty, (0, (0, [])))).1 == -1 <;> simp
  · have e1 : decide ((a0.length : Int) ≤ 12) = decide (a0.length ≤ 12) := by simp only [decide_eq_decide]; omega
    rw [Nat.sub_self]
    simp [spec_AreEntries_L0, spec_AreEntries_P_L0, areFrom, e1]
def OP_spec_AreEntries (f0 : TEntry → Bool) (g0 : TEntry → Bool) (f1 : ByteArray → ByteArray → Int) : Orac := (orcX 28 [.val .str, .val .str] (fun d => true) (fun d => [⟨(.int .i64), f1 d.1 d.2.1⟩]) (orcX 44 [.val TyEntry] (fun d => g0 d.1) (fun d => [⟨.bool, f0 d.1⟩]) nilO))
def O_spec_AreEntries : Orac := OP_spec_AreEntries N.spec_IsEntry G.spec_IsEntry N.spec_CompareLabels
theorem ok_spec_AreEntries : OracOk Tryz.prog sigs O_spec_AreEntries := (orcX_ok rfl rfl (fun d g => said_spec_CompareLabels d.1 d.2.1) (orcX_ok rfl rfl (fun d g => said_spec_IsEntry d.1 g) nilO_ok))
def A_spec_AreEntries : Ann := fun b => cond (Nat.beq b 0) ⟨[(0, false), (3, false)], []⟩ (⟨[], []⟩)
def S_spec_AreEntries_0 (v0_0 : (List TEntry)) (v0_1 : Int) : St := [(kT 0, some (.tv (.v (.slice 27 TyEntry) v0_0 .no))), (kT 3, some (.tv (.v (.int .i64) v0_1 .no)))]
noncomputable def L_P_spec_AreEntries_0 (f0 : TEntry → Bool) (g0 : TEntry → Bool) (f1 : ByteArray → ByteArray → Int) (n m : Nat) : St → Option Ret := loopOf tab sigs (OP_spec_AreEntries f0 g0 f1) A_spec_AreEntries Tryz.f18 [(.bool, .no)] n (fun _ => 0) 0 m
theorem bP_spec_AreEntries_0 (f0 : TEntry → Bool) (g0 : TEntry → Bool) (f1 : ByteArray → ByteArray → Int) (n m : Nat) (v0_0 : (List TEntry)) (v0_1 : Int) : L_P_spec_AreEntries_0 f0 g0 f1 n (m + 1) (S_spec_AreEntries_0 v0_0 v0_1) = spec_AreEntries_P_L0 f0 g0 f1 (fun r0 => some [⟨.bool, r0⟩]) (fun v0_0 v0_1 => L_P_spec_AreEntries_0 f0 g0 f1 n m (S_spec_AreEntries_0 v0_0 v0_1)) v0_0 v0_1 := by kernel_rfl
theorem aP_spec_AreEntries (f0 : TEntry → Bool) (g0 : TEntry → Bool) (f1 : ByteArray → ByteArray → Int) (n : Nat) (a0 : (List TEntry)) : absF tab sigs (OP_spec_AreEntries f0 g0 f1) A_spec_AreEntries Tryz.f18 [(.bool, .no)] n [.val (.slice 27 TyEntry) a0] = spec_AreEntries_P f0 g0 f1 (fun r0 => some [⟨.bool, r0⟩]) (fun v0_0 v0_1 => L_P_spec_AreEntries_0 f0 g0 f1 n n (S_spec_AreEntries_0 v0_0 v0_1)) a0 := by kernel_rfl
theorem said_spec_AreEntries (a0 : (List TEntry)) (g : G.spec_AreEntries a0 = true) : Said Tryz.prog sigs_18 18 [.val (.slice 27 TyEntry) a0] [⟨.bool, N.spec_AreEntries a0⟩] := said_len (T := tab) (A := A_spec_AreEntries) tabOk ok_spec_AreEntries tabOk.follows Tryz.func18 (by kernel_rfl) (by kernel_rfl) (fun hl => let ⟨n, hn⟩ := spec_AreEntries_ok (ρ := Ret) (fun r0 => some [⟨.bool, r0⟩]) a0 hl.1 g; ⟨n, (aP_spec_AreEntries N.spec_IsEntry G.spec_IsEntry N.spec_CompareLabels n a0).trans (hn n (Nat.le_refl n) (fun  m v0_0 v0_1 => L_P_spec_AreEntries_0 N.spec_IsEntry G.spec_IsEntry N.spec_CompareLabels n  m (S_spec_AreEntries_0 v0_0 v0_1)) (fun  m v0_0 v0_1 => bP_spec_AreEntries_0 N.spec_IsEntry G.spec_IsEntry N.spec_CompareLabels n  m v0_0 v0_1))⟩)
abbrev G.spec_l9Copy (l : List TEntry) : Bool := decide (wEs l ≤ 1048576)
abbrev N.spec_l9Copy (l : List TEntry) : List TEntry := l
def spec_l9Copy_P_L0 {ρ : Type} (f0 : TEntry → TEntry) (g0 : TEntry → Bool) (k : (List TEntry) → Option ρ) (L0 : (List TEntry) → Int → (List TEntry) → Option ρ) (v0_0 : (List TEntry)) (v0_1 : Int) (v0_2 : (List TEntry)) : Option ρ := (cond (decide (v0_1 < (List.length v0_0 : Int))) (cond (inRange v0_1 (List.length v0_0)) (cond (g0 (List.getD v0_0 (Int.toNat v0_1) (ByteArray.empty, ((0 : Int), ((0 : Int), []))))) (cond (fit (List.length v0_2) (List.length [(f0 (List.getD v0_0 (Int.toNat v0_1) (ByteArray.empty, ((0 : Int), ((0 : Int), [])))))])) (L0 v0_0 (IntKind.wrap .i64 (v0_1 + (1 : Int))) (List.append v0_2 [(f0 (List.getD v0_0 (Int.toNat v0_1) (ByteArray.empty, ((0 : Int), ((0 : Int), [])))))])) none) none) none) (k v0_2))
def spec_l9Copy_P {ρ : Type} (f0 : TEntry → TEntry) (g0 : TEntry → Bool) (k : (List TEntry) → Option ρ) (L0 : (List TEntry) → Int → (List TEntry) → Option ρ) (a0 : (List TEntry)) : Option ρ := (L0 a0 (0 : Int) ([] : (List (ByteArray × (Int × (Int × (List ByteArray)))))))
def spec_l9Copy_L0 {ρ : Type} (k : (List TEntry) → Option ρ) (L0 : (List TEntry) → Int → (List TEntry) → Option ρ) (v0_0 : (List TEntry)) (v0_1 : Int) (v0_2 : (List TEntry)) : Option ρ := spec_l9Copy_P_L0 N.spec_l8Copy G.spec_l8Copy k L0 v0_0 v0_1 v0_2
def spec_l9Copy {ρ : Type} (k : (List TEntry) → Option ρ) (L0 : (List TEntry) → Int → (List TEntry) → Option ρ) (a0 : (List TEntry)) : Option ρ := spec_l9Copy_P N.spec_l8Copy G.spec_l8Copy k L0 a0
theorem spec_l9Copy_ok {ρ : Type} (k : (List TEntry) → Option ρ) (a0 : (List TEntry)) (l_a0 : lnL (fun y => (True ∧ (True ∧ (True ∧ lnL (fun _ => True) y.2.2.2)))) a0) (g : G.spec_l9Copy a0 = true) : ∃ n0, ∀ n, n0 ≤ n → ∀ (L0 : Nat → (List TEntry) → Int → (List TEntry) → Option ρ) (h0 : ∀ ( m : Nat) (v0_0 : (List TEntry)) (v0_1 : Int) (v0_2 : (List TEntry)), L0 (m + 1) v0_0 v0_1 v0_2 = spec_l9Copy_L0 k (L0 m) v0_0 v0_1 v0_2), spec_l9Copy k (L0 n) a0 = k (N.spec_l9Copy a0) := by
  unfold G.spec_l9Copy at g
  have hw : wEs a0 ≤ 1048576 := of_decide_eq_true g
  have hl := wEs_ge a0
  refine ⟨a0.length + 1, fun n hn L0 h0 => ?_⟩
  have go : ∀ (d n j : Nat), d + j = a0.length → d < n → L0 n a0 (j : Int) (a0.take j) = k a0 := by
    intro d
    induction d with
    | zero =>
      intro n j hd hn
      obtain ⟨m, rfl⟩ : ∃ m, n = m + 1 := ⟨n - 1, by omega⟩
      have e1 : decide ((j : Int) < (a0.length : Int)) = false := decide_eq_false (by omega)
      rw [h0]
      simp only [spec_l9Copy_L0, spec_l9Copy_P_L0, e1, cond_false]
      rw [List.take_of_length_le (by omega)]
    | succ d ih =>
      intro n j hd hn
      obtain ⟨m, rfl⟩ : ∃ m, n = m + 1 := ⟨n - 1, by omega⟩
      have hj : j < a0.length := by omega
      have hm := wEs_mem (getD_mem (d := (ByteArray.empty, (0, (0, [])))) hj)
      have g2 : decide ((a0.getD j (ByteArray.empty, (0, (0, [])))).2.2.2.length ≤ 1048576) = true := decide_eq_true (by
        have h1 := wP_ge (a0.getD j (ByteArray.empty, (0, (0, [])))).2.2.2
        unfold wE at hm
        omega)
      have hf : ∀ x : TEntry, fit (List.length (a0.take j)) (List.length [x]) = true := fun x => fit_of (by simp; omega)
      have ht : (a0.take j).append [a0.getD j (ByteArray.empty, (0, (0, [])))] = a0.take (j + 1) := by
        show a0.take j ++ [_] = _
        rw [List.getD_eq_getElem?_getD, List.getElem?_eq_getElem hj, List.take_succ_eq_append_getElem hj]
        rfl
      rw [h0]
      simp only [spec_l9Copy_L0, spec_l9Copy_P_L0, lt_nat, inRange_nat, decide_eq_true hj, cond_true, Int.toNat_natCast, G.spec_l8Copy, N.spec_l8Copy, g2, hf, wrap_succ (j := j) (by unfold big; omega), ht]
      exact ih m (j + 1) (by omega) (by omega)
  exact go a0.length n 0 (by omega) (by omega)
def OP_spec_l9Copy (f0 : TEntry → TEntry) (g0 : TEntry → Bool) : Orac := (orcX 29 [.val TyEntry] (fun d => g0 d.1) (fun d => [⟨TyEntry, f0 d.1⟩]) nilO)
def O_spec_l9Copy : Orac := OP_spec_l9Copy N.spec_l8Copy G.spec_l8Copy
theorem ok_spec_l9Copy : OracOk Tryz.prog sigs O_spec_l9Copy := (orcX_ok rfl rfl (fun d g => said_spec_l8Copy d.1 g) nilO_ok)
def A_spec_l9Copy : Ann := fun b => cond (Nat.beq b 0) ⟨[(0, false), (3, true), (4, false)], []⟩ (⟨[], []⟩)
def S_spec_l9Copy_0 (v0_0 : (List TEntry)) (v0_1 : Int) (v0_2 : (List TEntry)) : St := [(kT 0, some (.tv (.v (.slice 27 TyEntry) v0_0 .no))), (kT 3, some (.tv (.v (.slice 27 TyEntry) [] (.own 24)))), (kT 4, some (.tv (.v (.int .i64) v0_1 .no))), (kR 24, some (.row 27 TyEntry v0_2))]
noncomputable def L_P_spec_l9Copy_0 (f0 : TEntry → TEntry) (g0 : TEntry → Bool) (n m : Nat) : St → Option Ret := loopOf tab sigs (OP_spec_l9Copy f0 g0) A_spec_l9Copy Tryz.f30 [((.slice 27 TyEntry), (.own 0))] n (fun _ => 0) 0 m
theorem bP_spec_l9Copy_0 (f0 : TEntry → TEntry) (g0 : TEntry → Bool) (n m : Nat) (v0_0 : (List TEntry)) (v0_1 : Int) (v0_2 : (List TEntry)) : L_P_spec_l9Copy_0 f0 g0 n (m + 1) (S_spec_l9Copy_0 v0_0 v0_1 v0_2) = spec_l9Copy_P_L0 f0 g0 (fun r0 => some [⟨(.slice 27 TyEntry), r0⟩]) (fun v0_0 v0_1 v0_2 => L_P_spec_l9Copy_0 f0 g0 n m (S_spec_l9Copy_0 v0_0 v0_1 v0_2)) v0_0 v0_1 v0_2 := by kernel_rfl
theorem aP_spec_l9Copy (f0 : TEntry → TEntry) (g0 : TEntry → Bool) (n : Nat) (a0 : (List TEntry)) : absF tab sigs (OP_spec_l9Copy f0 g0) A_spec_l9Copy Tryz.f30 [((.slice 27 TyEntry), (.own 0))] n [.val (.slice 27 TyEntry) a0] = spec_l9Copy_P f0 g0 (fun r0 => some [⟨(.slice 27 TyEntry), r0⟩]) (fun v0_0 v0_1 v0_2 => L_P_spec_l9Copy_0 f0 g0 n n (S_spec_l9Copy_0 v0_0 v0_1 v0_2)) a0 := by kernel_rfl
theorem said_spec_l9Copy (a0 : (List TEntry)) (g : G.spec_l9Copy a0 = true) : Said Tryz.prog sigs_30 30 [.val (.slice 27 TyEntry) a0] [⟨(.slice 27 TyEntry), N.spec_l9Copy a0⟩] := said_len (T := tab) (A := A_spec_l9Copy) tabOk ok_spec_l9Copy tabOk.follows Tryz.func30 (by kernel_rfl) (by kernel_rfl) (fun hl => let ⟨n, hn⟩ := spec_l9Copy_ok (ρ := Ret) (fun r0 => some [⟨(.slice 27 TyEntry), r0⟩]) a0 hl.1 g; ⟨n, (aP_spec_l9Copy N.spec_l8Copy G.spec_l8Copy n a0).trans (hn n (Nat.le_refl n) (fun  m v0_0 v0_1 v0_2 => L_P_spec_l9Copy_0 N.spec_l8Copy G.spec_l8Copy n  m (S_spec_l9Copy_0 v0_0 v0_1 v0_2)) (fun  m v0_0 v0_1 v0_2 => bP_spec_l9Copy_0 N.spec_l8Copy G.spec_l8Copy n  m v0_0 v0_1 v0_2))⟩)
abbrev G.spec_PutEntry (l : List TEntry) (e : TEntry) : Bool := decide (wEs l + wE e ≤ 1048576)
abbrev N.spec_PutEntry (l : List TEntry) (e : TEntry) : List TEntry × Bool := putE l e
def spec_PutEntry_P_L0 {ρ : Type} (f0 : ByteArray → ByteArray → Int) (f1 : TEntry → TEntry) (g1 : TEntry → Bool) (f2 : (List TEntry) → Bool) (g2 : (List TEntry) → Bool) (f3 : (List TEntry) → (List TEntry)) (g3 : (List TEntry) → Bool) (k : (List TEntry) → Bool → Option ρ) (L0 : (List TEntry) → Bool → Int → TEntry → (List TEntry) → Option ρ) (v0_0 : (List TEntry)) (v0_1 : Bool) (v0_2 : Int) (v0_3 : TEntry) (v0_4 : (List TEntry)) : Option ρ := (cond (decide (v0_2 < (List.length v0_0 : Int))) (cond (inRange v0_2 (List.length v0_0)) (cond (decide ((f0 (List.getD v0_0 (Int.toNat v0_2) (ByteArray.empty, ((0 : Int), ((0 : Int), [])))).1 v0_3.1) ≥ (0 : Int))) (cond (!v0_1) (cond (g1 v0_3) (cond (fit (List.length v0_4) (List.length [(f1 v0_3)])) (cond ((f0 (List.getD v0_0 (Int.toNat v0_2) (ByteArray.empty, ((0 : Int), ((0 : Int), [])))).1 v0_3.1) != (0 : Int)) (cond (inRange v0_2 (List.length v0_0)) (cond (g1 (List.getD v0_0 (Int.toNat v0_2) (ByteArray.empty, ((0 : Int), ((0 : Int), []))))) (cond (fit (List.length (List.append v0_4 [(f1 v0_3)])) (List.length [(f1 (List.getD v0_0 (Int.toNat v0_2) (ByteArray.empty, ((0 : Int), ((0 : Int), [])))))])) (L0 v0_0 true (IntKind.wrap .i64 (v0_2 + (1 : Int))) v0_3 (List.append (List.append v0_4 [(f1 v0_3)]) [(f1 (List.getD v0_0 (Int.toNat v0_2) (ByteArray.empty, ((0 : Int), ((0 : Int), [])))))])) none) none) none) (L0 v0_0 true (IntKind.wrap .i64 (v0_2 + (1 : Int))) v0_3 (List.append v0_4 [(f1 v0_3)]))) none) none) (cond ((f0 (List.getD v0_0 (Int.toNat v0_2) (ByteArray.empty, ((0 : Int), ((0 : Int), [])))).1 v0_3.1) != (0 : Int)) (cond (inRange v0_2 (List.length v0_0)) (cond (g1 (List.getD v0_0 (Int.toNat v0_2) (ByteArray.empty, ((0 : Int), ((0 : Int), []))))) (cond (fit (List.length v0_4) (List.length [(f1 (List.getD v0_0 (Int.toNat v0_2) (ByteArray.empty, ((0 : Int), ((0 : Int), [])))))])) (L0 v0_0 v0_1 (IntKind.wrap .i64 (v0_2 + (1 : Int))) v0_3 (List.append v0_4 [(f1 (List.getD v0_0 (Int.toNat v0_2) (ByteArray.empty, ((0 : Int), ((0 : Int), [])))))])) none) none) none) (L0 v0_0 v0_1 (IntKind.wrap .i64 (v0_2 + (1 : Int))) v0_3 v0_4))) (cond ((f0 (List.getD v0_0 (Int.toNat v0_2) (ByteArray.empty, ((0 : Int), ((0 : Int), [])))).1 v0_3.1) != (0 : Int)) (cond (inRange v0_2 (List.length v0_0)) (cond (g1 (List.getD v0_0 (Int.toNat v0_2) (ByteArray.empty, ((0 : Int), ((0 : Int), []))))) (cond (fit (List.length v0_4) (List.length [(f1 (List.getD v0_0 (Int.toNat v0_2) (ByteArray.empty, ((0 : Int), ((0 : Int), [])))))])) (L0 v0_0 v0_1 (IntKind.wrap .i64 (v0_2 + (1 : Int))) v0_3 (List.append v0_4 [(f1 (List.getD v0_0 (Int.toNat v0_2) (ByteArray.empty, ((0 : Int), ((0 : Int), [])))))])) none) none) none) (L0 v0_0 v0_1 (IntKind.wrap .i64 (v0_2 + (1 : Int))) v0_3 v0_4))) none) (cond (!v0_1) (cond (g1 v0_3) (cond (fit (List.length v0_4) (List.length [(f1 v0_3)])) (cond (g2 v0_0) (cond (!(f2 v0_0)) (cond (g3 v0_0) (k (f3 v0_0) false) none) (cond (g2 (List.append v0_4 [(f1 v0_3)])) (cond (!(f2 (List.append v0_4 [(f1 v0_3)]))) (cond (g3 v0_0) (k (f3 v0_0) false) none) (k (List.append v0_4 [(f1 v0_3)]) true)) none)) none) none) none) (cond (g2 v0_0) (cond (!(f2 v0_0)) (cond (g3 v0_0) (k (f3 v0_0) false) none) (cond (g2 v0_4) (cond (!(f2 v0_4)) (cond (g3 v0_0) (k (f3 v0_0) false) none) (k v0_4 true)) none)) none)))
def spec_PutEntry_P {ρ : Type} (f0 : ByteArray → ByteArray → Int) (f1 : TEntry → TEntry) (g1 : TEntry → Bool) (f2 : (List TEntry) → Bool) (g2 : (List TEntry) → Bool) (f3 : (List TEntry) → (List TEntry)) (g3 : (List TEntry) → Bool) (k : (List TEntry) → Bool → Option ρ) (L0 : (List TEntry) → Bool → Int → TEntry → (List TEntry) → Option ρ) (a0 : (List TEntry)) (a1 : TEntry) : Option ρ := (L0 a0 false (0 : Int) a1 ([] : (List (ByteArray × (Int × (Int × (List ByteArray)))))))
def spec_PutEntry_L0 {ρ : Type} (k : (List TEntry) → Bool → Option ρ) (L0 : (List TEntry) → Bool → Int → TEntry → (List TEntry) → Option ρ) (v0_0 : (List TEntry)) (v0_1 : Bool) (v0_2 : Int) (v0_3 : TEntry) (v0_4 : (List TEntry)) : Option ρ := spec_PutEntry_P_L0 N.spec_CompareLabels N.spec_l8Copy G.spec_l8Copy N.spec_AreEntries G.spec_AreEntries N.spec_l9Copy G.spec_l9Copy k L0 v0_0 v0_1 v0_2 v0_3 v0_4
def spec_PutEntry {ρ : Type} (k : (List TEntry) → Bool → Option ρ) (L0 : (List TEntry) → Bool → Int → TEntry → (List TEntry) → Option ρ) (a0 : (List TEntry)) (a1 : TEntry) : Option ρ := spec_PutEntry_P N.spec_CompareLabels N.spec_l8Copy G.spec_l8Copy N.spec_AreEntries G.spec_AreEntries N.spec_l9Copy G.spec_l9Copy k L0 a0 a1
theorem spec_PutEntry_ok {ρ : Type} (k : (List TEntry) → Bool → Option ρ) (a0 : (List TEntry)) (a1 : TEntry) (l_a0 : lnL (fun y => (True ∧ (True ∧ (True ∧ lnL (fun _ => True) y.2.2.2)))) a0) (l_a1 : (True ∧ (True ∧ (True ∧ lnL (fun _ => True) a1.2.2.2)))) (g : G.spec_PutEntry a0 a1 = true) : ∃ n0, ∀ n, n0 ≤ n → ∀ (L0 : Nat → (List TEntry) → Bool → Int → TEntry → (List TEntry) → Option ρ) (h0 : ∀ ( m : Nat) (v0_0 : (List TEntry)) (v0_1 : Bool) (v0_2 : Int) (v0_3 : TEntry) (v0_4 : (List TEntry)), L0 (m + 1) v0_0 v0_1 v0_2 v0_3 v0_4 = spec_PutEntry_L0 k (L0 m) v0_0 v0_1 v0_2 v0_3 v0_4), spec_PutEntry k (L0 n) a0 a1 = k (N.spec_PutEntry a0 a1).1 (N.spec_PutEntry a0 a1).2 := by
  unfold G.spec_PutEntry at g
  have hw : wEs a0 + wE a1 ≤ 1048576 := of_decide_eq_true g
  have hl := wEs_ge a0
  have g1 : decide (wEs a0 ≤ 1048576) = true := decide_eq_true (by omega)
  have g1' : decide (wEs a0 ≤ 1048577) = true := decide_eq_true (by omega)
  have g3 : decide (a1.2.2.2.length ≤ 1048576) = true := decide_eq_true (by
    have := wP_ge a1.2.2.2
    unfold wE at hw
    omega)
  refine ⟨a0.length + 1, fun n hn L0 h0 => ?_⟩
  have go : ∀ (d n j : Nat) (s : Bool × List TEntry), d + j = a0.length → d < n → wEs s.2 + putW a1 s.1 + wEs (a0.drop j) ≤ 1048577 →
      L0 n a0 s.1 (j : Int) a1 s.2 = k (putFin a0 a1 (putGo a1 (a0.drop j) s)).1 (putFin a0 a1 (putGo a1 (a0.drop j) s)).2 := by
    intro d
    induction d with
    | zero =>
      intro n j s hd hn hs
      obtain ⟨m, rfl⟩ : ∃ m, n = m + 1 := ⟨n - 1, by omega⟩
      have e1 : decide ((j : Int) < (a0.length : Int)) = false := decide_eq_false (by omega)
      have hlo := wEs_ge s.2
      have g2 : decide (wEs (putOut a1 s) ≤ 1048577) = true := decide_eq_true (by rw [putOut_w]; omega)
      rw [h0, List.drop_eq_nil_of_le (by omega)]
      show _ = k (putFin a0 a1 s).1 (putFin a0 a1 s).2
      obtain ⟨b, o⟩ := s
      have hf : fit (List.length o) (List.length [a1]) = true := fit_of (by have hlo : o.length ≤ wEs o := hlo; have hs : wEs o + putW a1 b + wEs (a0.drop j) ≤ 1048577 := hs; simp; omega)
      simp only [spec_PutEntry_L0, spec_PutEntry_P_L0, e1, G.spec_l8Copy, N.spec_l8Copy, G.spec_AreEntries, N.spec_AreEntries, G.spec_l9Copy, N.spec_l9Copy, g1, g1', g3, hf, cond_true, cond_false]
      unfold putFin
      cases b with
      | true =>
        have g2 : decide (wEs o ≤ 1048577) = true := g2
        simp only [g2, Bool.not_true, cond_false, cond_true]
        show cond (!(areEntries a0)) (k a0 false) (cond (!(areEntries o)) (k a0 false) (k o true)) = k (cond (!(areEntries a0)) (a0, false) (cond (!(areEntries o)) (a0, false) (o, true))).1 (cond (!(areEntries a0)) (a0, false) (cond (!(areEntries o)) (a0, false) (o, true))).2
        cases (!(areEntries a0)) <;> cases (!(areEntries o)) <;> rfl
      | false =>
        have g2 : decide (wEs (o.append [a1]) ≤ 1048577) = true := g2
        simp only [g2, Bool.not_false, cond_true]
        show cond (!(areEntries a0)) (k a0 false) (cond (!(areEntries (o.append [a1]))) (k a0 false) (k (o.append [a1]) true)) = k (cond (!(areEntries a0)) (a0, false) (cond (!(areEntries (o.append [a1]))) (a0, false) (o.append [a1], true))).1 (cond (!(areEntries a0)) (a0, false) (cond (!(areEntries (o.append [a1]))) (a0, false) (o.append [a1], true))).2
        cases (!(areEntries a0)) <;> cases (!(areEntries (o.append [a1]))) <;> rfl
    | succ d ih =>
      intro n j s hd hn hs
      obtain ⟨m, rfl⟩ : ∃ m, n = m + 1 := ⟨n - 1, by omega⟩
      have hj : j < a0.length := by omega
      rw [drop_cons (ByteArray.empty, (0, (0, []))) hj] at hs ⊢
      rw [wEs_cons] at hs
      have hw1 := putStep_w a1 (a0.getD j (ByteArray.empty, (0, (0, [])))) s
      have hi := ih m (j + 1) (putStep a1 (a0.getD j (ByteArray.empty, (0, (0, [])))) s) (by omega) (by omega) (by omega)
      have g2 : decide ((a0.getD j (ByteArray.empty, (0, (0, [])))).2.2.2.length ≤ 1048576) = true := decide_eq_true (by
        have h1 := wP_ge (a0.getD j (ByteArray.empty, (0, (0, [])))).2.2.2
        unfold wE at hs
        omega)
      have hlo := wEs_ge s.2
      show _ = k (putFin a0 a1 (putGo a1 (a0.drop (j + 1)) (putStep a1 (a0.getD j (ByteArray.empty, (0, (0, [])))) s))).1 (putFin a0 a1 (putGo a1 (a0.drop (j + 1)) (putStep a1 (a0.getD j (ByteArray.empty, (0, (0, [])))) s))).2
      rw [← hi, h0]
      obtain ⟨b, o⟩ := s
      have hlo : o.length ≤ wEs o := hlo
      have hs : wEs o + putW a1 b + _ ≤ 1048577 := hs
      have hf : ∀ x : TEntry, fit (List.length o) (List.length [x]) = true := fun x => fit_of (by simp; omega)
      have hf2 : ∀ x : TEntry, fit (List.length (o.append [a1])) (List.length [x]) = true := fun x => fit_of (by show (o ++ [a1]).length + _ ≤ _; simp; omega)
      simp only [spec_PutEntry_L0, spec_PutEntry_P_L0, lt_nat, inRange_nat, decide_eq_true hj, cond_true, Int.toNat_natCast, G.spec_l8Copy, N.spec_l8Copy, N.spec_CompareLabels, g2, g3, hf, hf2, wrap_succ (j := j) (by unfold big; omega)]
      unfold putStep putAt
      cases decide (cmpStr (a0.getD j (ByteArray.empty, (0, (0, [])))).1 a1.1 ≥ 0) <;> cases b <;> cases (cmpStr (a0.getD j (ByteArray.empty, (0, (0, [])))).1 a1.1 != 0) <;> rfl
  exact go a0.length n 0 (false, []) (by omega) (by omega) (by
    have h3 : wEs ([] : List TEntry) = 0 := rfl
    have h4 : putW a1 false = 1 + wE a1 := rfl
    dsimp only
    rw [h3, h4, List.drop_zero]
    omega)
def OP_spec_PutEntry (f0 : ByteArray → ByteArray → Int) (f1 : TEntry → TEntry) (g1 : TEntry → Bool) (f2 : (List TEntry) → Bool) (g2 : (List TEntry) → Bool) (f3 : (List TEntry) → (List TEntry)) (g3 : (List TEntry) → Bool) : Orac := (orcX 30 [.val (.slice 27 TyEntry)] (fun d => g3 d.1) (fun d => [⟨(.slice 27 TyEntry), f3 d.1⟩]) (orcX 18 [.val (.slice 27 TyEntry)] (fun d => g2 d.1) (fun d => [⟨.bool, f2 d.1⟩]) (orcX 29 [.val TyEntry] (fun d => g1 d.1) (fun d => [⟨TyEntry, f1 d.1⟩]) (orcX 28 [.val .str, .val .str] (fun d => true) (fun d => [⟨(.int .i64), f0 d.1 d.2.1⟩]) nilO))))
def O_spec_PutEntry : Orac := OP_spec_PutEntry N.spec_CompareLabels N.spec_l8Copy G.spec_l8Copy N.spec_AreEntries G.spec_AreEntries N.spec_l9Copy G.spec_l9Copy
theorem ok_spec_PutEntry : OracOk Tryz.prog sigs O_spec_PutEntry := (orcX_ok rfl rfl (fun d g => said_spec_l9Copy d.1 g) (orcX_ok rfl rfl (fun d g => said_spec_AreEntries d.1 g) (orcX_ok rfl rfl (fun d g => said_spec_l8Copy d.1 g) (orcX_ok rfl rfl (fun d g => said_spec_CompareLabels d.1 d.2.1) nilO_ok))))
def A_spec_PutEntry : Ann := fun b => cond (Nat.beq b 0) ⟨[(0, false), (3, false), (6, true), (7, false), (8, false)], [(3, false)]⟩ (⟨[], []⟩)
def S_spec_PutEntry_0 (v0_0 : (List TEntry)) (v0_1 : Bool) (v0_2 : Int) (v0_3 : TEntry) (v0_4 : (List TEntry)) : St := [(kT 0, some (.tv (.v (.slice 27 TyEntry) v0_0 .no))), (kT 3, some (.tv (.box 3 []))), (kT 6, some (.tv (.v (.slice 27 TyEntry) [] (.own 48)))), (kT 7, some (.tv (.v .bool v0_1 .no))), (kT 8, some (.tv (.v (.int .i64) v0_2 .no))), (kB 3, some (.box TyEntry v0_3 .no)), (kR 48, some (.row 27 TyEntry v0_4))]
noncomputable def L_P_spec_PutEntry_0 (f0 : ByteArray → ByteArray → Int) (f1 : TEntry → TEntry) (g1 : TEntry → Bool) (f2 : (List TEntry) → Bool) (g2 : (List TEntry) → Bool) (f3 : (List TEntry) → (List TEntry)) (g3 : (List TEntry) → Bool) (n m : Nat) : St → Option Ret := loopOf tab sigs (OP_spec_PutEntry f0 f1 g1 f2 g2 f3 g3) A_spec_PutEntry Tryz.f7 [((.slice 27 TyEntry), (.own 0)), (.bool, .no)] n (fun _ => 0) 0 m
theorem bP_spec_PutEntry_0 (f0 : ByteArray → ByteArray → Int) (f1 : TEntry → TEntry) (g1 : TEntry → Bool) (f2 : (List TEntry) → Bool) (g2 : (List TEntry) → Bool) (f3 : (List TEntry) → (List TEntry)) (g3 : (List TEntry) → Bool) (n m : Nat) (v0_0 : (List TEntry)) (v0_1 : Bool) (v0_2 : Int) (v0_3 : TEntry) (v0_4 : (List TEntry)) : L_P_spec_PutEntry_0 f0 f1 g1 f2 g2 f3 g3 n (m + 1) (S_spec_PutEntry_0 v0_0 v0_1 v0_2 v0_3 v0_4) = spec_PutEntry_P_L0 f0 f1 g1 f2 g2 f3 g3 (fun r0 r1 => some [⟨(.slice 27 TyEntry), r0⟩, ⟨.bool, r1⟩]) (fun v0_0 v0_1 v0_2 v0_3 v0_4 => L_P_spec_PutEntry_0 f0 f1 g1 f2 g2 f3 g3 n m (S_spec_PutEntry_0 v0_0 v0_1 v0_2 v0_3 v0_4)) v0_0 v0_1 v0_2 v0_3 v0_4 := by kernel_rfl
theorem aP_spec_PutEntry (f0 : ByteArray → ByteArray → Int) (f1 : TEntry → TEntry) (g1 : TEntry → Bool) (f2 : (List TEntry) → Bool) (g2 : (List TEntry) → Bool) (f3 : (List TEntry) → (List TEntry)) (g3 : (List TEntry) → Bool) (n : Nat) (a0 : (List TEntry)) (a1 : TEntry) : absF tab sigs (OP_spec_PutEntry f0 f1 g1 f2 g2 f3 g3) A_spec_PutEntry Tryz.f7 [((.slice 27 TyEntry), (.own 0)), (.bool, .no)] n [.val (.slice 27 TyEntry) a0, .val TyEntry a1] = spec_PutEntry_P f0 f1 g1 f2 g2 f3 g3 (fun r0 r1 => some [⟨(.slice 27 TyEntry), r0⟩, ⟨.bool, r1⟩]) (fun v0_0 v0_1 v0_2 v0_3 v0_4 => L_P_spec_PutEntry_0 f0 f1 g1 f2 g2 f3 g3 n n (S_spec_PutEntry_0 v0_0 v0_1 v0_2 v0_3 v0_4)) a0 a1 := by kernel_rfl
theorem said_spec_PutEntry (a0 : (List TEntry)) (a1 : TEntry) (g : G.spec_PutEntry a0 a1 = true) : Said Tryz.prog sigs_7 7 [.val (.slice 27 TyEntry) a0, .val TyEntry a1] [⟨(.slice 27 TyEntry), (N.spec_PutEntry a0 a1).1⟩, ⟨.bool, (N.spec_PutEntry a0 a1).2⟩] := said_len (T := tab) (A := A_spec_PutEntry) tabOk ok_spec_PutEntry tabOk.follows Tryz.func7 (by kernel_rfl) (by kernel_rfl) (fun hl => let ⟨n, hn⟩ := spec_PutEntry_ok (ρ := Ret) (fun r0 r1 => some [⟨(.slice 27 TyEntry), r0⟩, ⟨.bool, r1⟩]) a0 a1 hl.1 hl.2.1 g; ⟨n, (aP_spec_PutEntry N.spec_CompareLabels N.spec_l8Copy G.spec_l8Copy N.spec_AreEntries G.spec_AreEntries N.spec_l9Copy G.spec_l9Copy n a0 a1).trans (hn n (Nat.le_refl n) (fun  m v0_0 v0_1 v0_2 v0_3 v0_4 => L_P_spec_PutEntry_0 N.spec_CompareLabels N.spec_l8Copy G.spec_l8Copy N.spec_AreEntries G.spec_AreEntries N.spec_l9Copy G.spec_l9Copy n  m (S_spec_PutEntry_0 v0_0 v0_1 v0_2 v0_3 v0_4)) (fun  m v0_0 v0_1 v0_2 v0_3 v0_4 => bP_spec_PutEntry_0 N.spec_CompareLabels N.spec_l8Copy G.spec_l8Copy N.spec_AreEntries G.spec_AreEntries N.spec_l9Copy G.spec_l9Copy n  m v0_0 v0_1 v0_2 v0_3 v0_4))⟩)
abbrev G.spec_l9List (c : TCur) : Bool := okC c
abbrev N.spec_l9List (c : TCur) : TCur × List TEntry := listC c
def spec_l9List_P_L0 {ρ : Type} (f0 : TCur → Int → (TCur × Int)) (g0 : TCur → Int → Bool) (f1 : TCur → (TCur × TEntry)) (g1 : TCur → Bool) (f2 : (List TEntry) → TEntry → ((List TEntry) × Bool)) (g2 : (List TEntry) → TEntry → Bool) (k : TCur → (List TEntry) → Option ρ) (L0 : Int → TCur → (List TEntry) → Option ρ) (v0_0 : Int) (v0_1 : TCur) (v0_2 : (List TEntry)) : Option ρ := (cond (decide (v0_0 > (0 : Int))) (cond (g1 v0_1) (cond (g2 v0_2 (f1 v0_1).2) (L0 (IntKind.wrap .i64 (v0_0 - (1 : Int))) (f1 v0_1).1 (f2 v0_2 (f1 v0_1).2).1) none) none) (k v0_1 v0_2))
def spec_l9List_P {ρ : Type} (f0 : TCur → Int → (TCur × Int)) (g0 : TCur → Int → Bool) (f1 : TCur → (TCur × TEntry)) (g1 : TCur → Bool) (f2 : (List TEntry) → TEntry → ((List TEntry) × Bool)) (g2 : (List TEntry) → TEntry → Bool) (k : TCur → (List TEntry) → Option ρ) (L0 : Int → TCur → (List TEntry) → Option ρ) (a0 : TCur) : Option ρ := (cond (g0 a0 (7 : Int)) (L0 (f0 a0 (7 : Int)).2 (f0 a0 (7 : Int)).1 ([] : (List (ByteArray × (Int × (Int × (List ByteArray))))))) none)
def spec_l9List_L0 {ρ : Type} (k : TCur → (List TEntry) → Option ρ) (L0 : Int → TCur → (List TEntry) → Option ρ) (v0_0 : Int) (v0_1 : TCur) (v0_2 : (List TEntry)) : Option ρ := spec_l9List_P_L0 N.spec_l1Below G.spec_l1Below N.spec_l8Entry G.spec_l8Entry N.spec_PutEntry G.spec_PutEntry k L0 v0_0 v0_1 v0_2
def spec_l9List {ρ : Type} (k : TCur → (List TEntry) → Option ρ) (L0 : Int → TCur → (List TEntry) → Option ρ) (a0 : TCur) : Option ρ := spec_l9List_P N.spec_l1Below G.spec_l1Below N.spec_l8Entry G.spec_l8Entry N.spec_PutEntry G.spec_PutEntry k L0 a0
theorem spec_l9List_ok {ρ : Type} (k : TCur → (List TEntry) → Option ρ) (a0 : TCur) (l_a0 : (lnL (fun _ => True) a0.1 ∧ (True ∧ True))) (g : G.spec_l9List a0 = true) : ∃ n0, ∀ n, n0 ≤ n → ∀ (L0 : Nat → Int → TCur → (List TEntry) → Option ρ) (h0 : ∀ ( m : Nat) (v0_0 : Int) (v0_1 : TCur) (v0_2 : (List TEntry)), L0 (m + 1) v0_0 v0_1 v0_2 = spec_l9List_L0 k (L0 m) v0_0 v0_1 v0_2), spec_l9List k (L0 n) a0 = k (N.spec_l9List a0).1 (N.spec_l9List a0).2 := by
  unfold G.spec_l9List at g
  have hr := below_range a0 (n := 7) (by omega)
  refine ⟨10, fun n hn L0 h0 => ?_⟩
  have go : ∀ (d n : Nat) (c : TCur) (o : List TEntry), okC c = true → d < n → d ≤ 7 → wEs o + 40 * d ≤ 1000 → L0 n (d : Int) c o = k (listGo d c o).1 (listGo d c o).2 := by
    intro d
    induction d with
    | zero =>
      intro n c o hc hn _ _
      obtain ⟨m, rfl⟩ : ∃ m, n = m + 1 := ⟨n - 1, by omega⟩
      rw [h0]
      rfl
    | succ d ih =>
      intro n c o hc hn h3 ho
      obtain ⟨m, rfl⟩ : ∃ m, n = m + 1 := ⟨n - 1, by omega⟩
      have e1 : decide (((d + 1 : Nat) : Int) > 0) = true := decide_eq_true (by omega)
      have e2 : IntKind.wrap .i64 (((d + 1 : Nat) : Int) - 1) = (d : Int) := by rw [wrap_id (by omega) (by omega)]; omega
      have h4 := entry_w c
      have h5 := putE_w o (entryC c).2
      have g2 : decide (wEs o + wE (entryC c).2 ≤ 1048576) = true := decide_eq_true (by omega)
      rw [h0]
      simp only [spec_l9List_L0, spec_l9List_P_L0, G.spec_l8Entry, N.spec_l8Entry, G.spec_PutEntry, N.spec_PutEntry, g2, e1, e2, hc, cond_true]
      exact ih m (entryC c).1 (putE o (entryC c).2).1 (okC_entry hc) (by omega) (by omega) (by omega)
  have e3 : (belowC a0 7).2 = (((belowC a0 7).2.toNat : Nat) : Int) := by omega
  simp only [spec_l9List, spec_l9List_P, G.spec_l1Below, N.spec_l1Below, g, cond_true]
  rw [e3]
  exact go _ n _ [] (okC_below 7 g) (by omega) (by omega) (by have h3 : wEs ([] : List TEntry) = 0 := rfl; omega)
def OP_spec_l9List (f0 : TCur → Int → (TCur × Int)) (g0 : TCur → Int → Bool) (f1 : TCur → (TCur × TEntry)) (g1 : TCur → Bool) (f2 : (List TEntry) → TEntry → ((List TEntry) × Bool)) (g2 : (List TEntry) → TEntry → Bool) : Orac := (orcX 7 [.val (.slice 27 TyEntry), .val TyEntry] (fun d => g2 d.1 d.2.1) (fun d => [⟨(.slice 27 TyEntry), (f2 d.1 d.2.1).1⟩, ⟨.bool, (f2 d.1 d.2.1).2⟩]) (orcX 48 [.lend (.pair (.slice 5 (.int .u8)) (.pair (.int .i64) (.int .i64))) .no] (fun d => g1 d.1) (fun d => [⟨(.pair (.slice 5 (.int .u8)) (.pair (.int .i64) (.int .i64))), (f1 d.1).1⟩, ⟨TyEntry, (f1 d.1).2⟩]) (orcX 46 [.lend (.pair (.slice 5 (.int .u8)) (.pair (.int .i64) (.int .i64))) .no, .val (.int .i64)] (fun d => g0 d.1 d.2.1) (fun d => [⟨(.pair (.slice 5 (.int .u8)) (.pair (.int .i64) (.int .i64))), (f0 d.1 d.2.1).1⟩, ⟨(.int .i64), (f0 d.1 d.2.1).2⟩]) nilO)))
def O_spec_l9List : Orac := OP_spec_l9List N.spec_l1Below G.spec_l1Below N.spec_l8Entry G.spec_l8Entry N.spec_PutEntry G.spec_PutEntry
theorem ok_spec_l9List : OracOk Tryz.prog sigs O_spec_l9List := (orcX_ok rfl rfl (fun d g => said_spec_PutEntry d.1 d.2.1 g) (orcB_ok rfl (fun d g => said_spec_l8Entry d.1 g) (orcB_ok rfl (fun d g => said_spec_l1Below d.1 d.2.1 g) nilO_ok)))
def A_spec_l9List : Ann := fun b => cond (Nat.beq b 0) ⟨[(0, false), (3, true), (4, false)], [(0, false)]⟩ (⟨[], []⟩)
def S_spec_l9List_0 (v0_0 : Int) (v0_1 : TCur) (v0_2 : (List TEntry)) : St := [(kT 0, some (.tv (.box 0 []))), (kT 3, some (.tv (.v (.slice 27 TyEntry) [] (.own 24)))), (kT 4, some (.tv (.v (.int .i64) v0_0 .no))), (kB 0, some (.box (.pair (.slice 5 (.int .u8)) (.pair (.int .i64) (.int .i64))) v0_1 .no)), (kR 24, some (.row 27 TyEntry v0_2))]
noncomputable def L_P_spec_l9List_0 (f0 : TCur → Int → (TCur × Int)) (g0 : TCur → Int → Bool) (f1 : TCur → (TCur × TEntry)) (g1 : TCur → Bool) (f2 : (List TEntry) → TEntry → ((List TEntry) × Bool)) (g2 : (List TEntry) → TEntry → Bool) (n m : Nat) : St → Option Ret := loopOfB tab sigs (OP_spec_l9List f0 g0 f1 g1 f2 g2) A_spec_l9List Tryz.f45 [((.slice 27 TyEntry), (.own 0))] (.pair (.slice 5 (.int .u8)) (.pair (.int .i64) (.int .i64))) n (fun _ => 0) 0 m
theorem bP_spec_l9List_0 (f0 : TCur → Int → (TCur × Int)) (g0 : TCur → Int → Bool) (f1 : TCur → (TCur × TEntry)) (g1 : TCur → Bool) (f2 : (List TEntry) → TEntry → ((List TEntry) × Bool)) (g2 : (List TEntry) → TEntry → Bool) (n m : Nat) (v0_0 : Int) (v0_1 : TCur) (v0_2 : (List TEntry)) : L_P_spec_l9List_0 f0 g0 f1 g1 f2 g2 n (m + 1) (S_spec_l9List_0 v0_0 v0_1 v0_2) = spec_l9List_P_L0 f0 g0 f1 g1 f2 g2 (fun r0 r1 => some [⟨(.pair (.slice 5 (.int .u8)) (.pair (.int .i64) (.int .i64))), r0⟩, ⟨(.slice 27 TyEntry), r1⟩]) (fun v0_0 v0_1 v0_2 => L_P_spec_l9List_0 f0 g0 f1 g1 f2 g2 n m (S_spec_l9List_0 v0_0 v0_1 v0_2)) v0_0 v0_1 v0_2 := by kernel_rfl
theorem aP_spec_l9List (f0 : TCur → Int → (TCur × Int)) (g0 : TCur → Int → Bool) (f1 : TCur → (TCur × TEntry)) (g1 : TCur → Bool) (f2 : (List TEntry) → TEntry → ((List TEntry) × Bool)) (g2 : (List TEntry) → TEntry → Bool) (n : Nat) (a0 : TCur) : absFB tab sigs (OP_spec_l9List f0 g0 f1 g1 f2 g2) A_spec_l9List Tryz.f45 [((.slice 27 TyEntry), (.own 0))] n (.pair (.slice 5 (.int .u8)) (.pair (.int .i64) (.int .i64))) a0 [] = spec_l9List_P f0 g0 f1 g1 f2 g2 (fun r0 r1 => some [⟨(.pair (.slice 5 (.int .u8)) (.pair (.int .i64) (.int .i64))), r0⟩, ⟨(.slice 27 TyEntry), r1⟩]) (fun v0_0 v0_1 v0_2 => L_P_spec_l9List_0 f0 g0 f1 g1 f2 g2 n n (S_spec_l9List_0 v0_0 v0_1 v0_2)) a0 := by kernel_rfl
theorem said_spec_l9List (a0 : TCur) (g : G.spec_l9List a0 = true) : SaidP Tryz.prog sigs_45 45 (.pair (.slice 5 (.int .u8)) (.pair (.int .i64) (.int .i64))) a0 [] [⟨(.pair (.slice 5 (.int .u8)) (.pair (.int .i64) (.int .i64))), (N.spec_l9List a0).1⟩, ⟨(.slice 27 TyEntry), (N.spec_l9List a0).2⟩] := said_lenB (T := tab) (A := A_spec_l9List) tabOk ok_spec_l9List tabOk.follows Tryz.func45 (by kernel_rfl) (by kernel_rfl) (fun hl => let ⟨n, hn⟩ := spec_l9List_ok (ρ := Ret) (fun r0 r1 => some [⟨(.pair (.slice 5 (.int .u8)) (.pair (.int .i64) (.int .i64))), r0⟩, ⟨(.slice 27 TyEntry), r1⟩]) a0 hl.1 g; ⟨n, (aP_spec_l9List N.spec_l1Below G.spec_l1Below N.spec_l8Entry G.spec_l8Entry N.spec_PutEntry G.spec_PutEntry n a0).trans (hn n (Nat.le_refl n) (fun  m v0_0 v0_1 v0_2 => L_P_spec_l9List_0 N.spec_l1Below G.spec_l1Below N.spec_l8Entry G.spec_l8Entry N.spec_PutEntry G.spec_PutEntry n  m (S_spec_l9List_0 v0_0 v0_1 v0_2)) (fun  m v0_0 v0_1 v0_2 => bP_spec_l9List_0 N.spec_l1Below G.spec_l1Below N.spec_l8Entry G.spec_l8Entry N.spec_PutEntry G.spec_PutEntry n  m v0_0 v0_1 v0_2))⟩)
end Go.Proofs.YtcmjbplnjjdcdaaGreat.Ref
