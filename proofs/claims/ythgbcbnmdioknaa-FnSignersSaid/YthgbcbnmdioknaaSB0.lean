/- Functions of the program: what each computes, and that it does so.
   Conditions: as each theorem states. -/
import Derived.Test.YthgbcbnmdioknaaSA
set_option linter.unusedVariables false
set_option linter.unusedSimpArgs false
set_option maxRecDepth 100000
namespace Go.Proofs.Ythgbcbnmdioknaa.Ref
open Go.RowKit Go.Proofs.YthgbcbnmdioknaaW.PrintWords Go.Proofs.YthgbcbnmdioknaaW.PrintLast
abbrev N.laws_big (l : List Int) : Bool := decide ((l.length : Int) > 1048576)
def laws_big {ρ : Type} (k : Bool → Option ρ) (a0 : (List Int)) : Option ρ := (k (decide ((List.length a0 : Int) > (1048576 : Int))))
theorem laws_big_ok {ρ : Type} (k : Bool → Option ρ) (a0 : (List Int)) (l_a0 : lnL (fun _ => True) a0) : laws_big k  a0 = k (N.laws_big a0) := by
  rfl
def O_laws_big : Orac := nilO
theorem ok_laws_big : OracOk Try.prog sigs O_laws_big := nilO_ok
def A_laws_big : Ann := fun b => ⟨[], []⟩
theorem a_laws_big (n : Nat) (a0 : (List Int)) : absF tab sigs O_laws_big A_laws_big Try.f6 [(.bool, .no)] n [.val (.slice 5 (.int .u8)) a0] = laws_big (fun r0 => some [⟨.bool, r0⟩])  a0 := by kernel_rfl
theorem said_laws_big (a0 : (List Int)) : Said Try.prog sigs_6 6 [.val (.slice 5 (.int .u8)) a0] [⟨.bool, N.laws_big a0⟩] := said_len (T := tab) (A := A_laws_big) tabOk ok_laws_big tabOk.follows Try.func6 (by kernel_rfl) (by kernel_rfl) (fun hl => ⟨0, (a_laws_big 0 a0).trans (laws_big_ok (ρ := Ret) (fun r0 => some [⟨.bool, r0⟩]) a0 hl.1)⟩)
abbrev G.spec_l1New (l : List Int) : Bool := decide (l.length ≤ 1048576)
abbrev N.spec_l1New (l : List Int) : TCur := newC l
def spec_l1New_L0 {ρ : Type} (k : TCur → Option ρ) (L0 : (List Int) → Int → Int → Option ρ) (v0_0 : (List Int)) (v0_1 : Int) (v0_2 : Int) : Option ρ := (cond (decide (v0_2 < (List.length v0_0 : Int))) (cond (decide (v0_2 < (4000 : Int))) (cond (inRange v0_2 (List.length v0_0)) (L0 v0_0 (andI .i64 (IntKind.wrap .i64 ((IntKind.wrap .i64 ((IntKind.wrap .i64 (v0_1 * (137 : Int))) + (IntKind.wrap .i64 (List.getD v0_0 (Int.toNat v0_2) (0 : Int))))) + (11 : Int))) (1073741823 : Int)) (IntKind.wrap .i64 (v0_2 + (1 : Int)))) none) (k (v0_0, ((0 : Int), v0_1)))) (k (v0_0, ((0 : Int), v0_1))))
def spec_l1New {ρ : Type} (k : TCur → Option ρ) (L0 : (List Int) → Int → Int → Option ρ) (a0 : (List Int)) : Option ρ := (L0 a0 (IntKind.wrap .i64 ((193017 : Int) + (List.length a0 : Int))) (0 : Int))
theorem spec_l1New_ok {ρ : Type} (k : TCur → Option ρ) (a0 : (List Int)) (l_a0 : lnL (fun _ => True) a0) (g : G.spec_l1New a0 = true) : ∃ n0, ∀ n, n0 ≤ n → ∀ (L0 : Nat → (List Int) → Int → Int → Option ρ) (h0 : ∀ ( m : Nat) (v0_0 : (List Int)) (v0_1 : Int) (v0_2 : Int), L0 (m + 1) v0_0 v0_1 v0_2 = spec_l1New_L0 k (L0 m) v0_0 v0_1 v0_2), spec_l1New k (L0 n) a0 = k (N.spec_l1New a0) := by
  unfold G.spec_l1New at g
  refine ⟨a0.length + 1, fun n hn L0 h0 => ?_⟩
  have := raw_new (l := a0) (k := fun h => k (a0, (0, h))) (L := fun m h i => L0 m a0 h i) l_a0.1 (fun m h i => by
    show L0 (m + 1) a0 h i = _
    rw [h0]
    rfl) a0.length n 0 (IntKind.wrap .i64 (193017 + (a0.length : Int))) (by omega) hn
  exact this
def O_spec_l1New : Orac := nilO
theorem ok_spec_l1New : OracOk Try.prog sigs O_spec_l1New := nilO_ok
def A_spec_l1New : Ann := fun b => cond (Nat.beq b 0) ⟨[(0, false), (3, false), (4, false)], []⟩ (⟨[], []⟩)
def S_spec_l1New_0 (v0_0 : (List Int)) (v0_1 : Int) (v0_2 : Int) : St := [(kT 0, some (.tv (.v (.slice 5 (.int .u8)) v0_0 .no))), (kT 3, some (.tv (.v (.int .i64) v0_1 .no))), (kT 4, some (.tv (.v (.int .i64) v0_2 .no)))]
noncomputable def L_spec_l1New_0 (n m : Nat) : St → Option Ret := loopOfN tab sigs O_spec_l1New A_spec_l1New Try.f40 (.pair (.slice 5 (.int .u8)) (.pair (.int .i64) (.int .i64))) n (fun _ => 0) 0 m
theorem b_spec_l1New_0 (n m : Nat) (v0_0 : (List Int)) (v0_1 : Int) (v0_2 : Int) : L_spec_l1New_0 n (m + 1) (S_spec_l1New_0 v0_0 v0_1 v0_2) = spec_l1New_L0 (fun r0 => some [⟨(.pair (.slice 5 (.int .u8)) (.pair (.int .i64) (.int .i64))), r0⟩]) (fun v0_0 v0_1 v0_2 => L_spec_l1New_0 n m (S_spec_l1New_0 v0_0 v0_1 v0_2)) v0_0 v0_1 v0_2 := by kernel_rfl
theorem a_spec_l1New (n : Nat) (a0 : (List Int)) : absFN tab sigs O_spec_l1New A_spec_l1New Try.f40 n (.pair (.slice 5 (.int .u8)) (.pair (.int .i64) (.int .i64))) [.val (.slice 5 (.int .u8)) a0] = spec_l1New (fun r0 => some [⟨(.pair (.slice 5 (.int .u8)) (.pair (.int .i64) (.int .i64))), r0⟩]) (fun v0_0 v0_1 v0_2 => L_spec_l1New_0 n n (S_spec_l1New_0 v0_0 v0_1 v0_2)) a0 := by kernel_rfl
theorem said_spec_l1New (a0 : (List Int)) (g : G.spec_l1New a0 = true) : SaidV Try.prog 40 [.val (.slice 5 (.int .u8)) a0] [⟨(.pair (.slice 5 (.int .u8)) (.pair (.int .i64) (.int .i64))), N.spec_l1New a0⟩] := said_lenN (T := tab) (A := A_spec_l1New) tabOk ok_spec_l1New tabOk.follows Try.func40 (by kernel_rfl) (by kernel_rfl) (fun hl => let ⟨n, hn⟩ := spec_l1New_ok (ρ := Ret) (fun r0 => some [⟨(.pair (.slice 5 (.int .u8)) (.pair (.int .i64) (.int .i64))), r0⟩]) a0 hl.1 g; ⟨n, (a_spec_l1New n a0).trans (hn n (Nat.le_refl n) (fun  m v0_0 v0_1 v0_2 => L_spec_l1New_0 n  m (S_spec_l1New_0 v0_0 v0_1 v0_2)) (fun  m v0_0 v0_1 v0_2 => b_spec_l1New_0 n  m v0_0 v0_1 v0_2))⟩)
abbrev G.spec_l1Byte (c : TCur) : Bool := okC c
abbrev N.spec_l1Byte (c : TCur) : TCur × Int := byteC c
def spec_l1Byte {ρ : Type} (k : TCur → Int → Option ρ) (a0 : TCur) : Option ρ := (cond (decide (a0.2.1 < (List.length a0.1 : Int))) (cond (inRange a0.2.1 (List.length a0.1)) (k (a0.1, ((IntKind.wrap .i64 (a0.2.1 + (1 : Int))), (IntKind.wrap .i64 ((IntKind.wrap .i64 (a0.2.2 * (6364136223846793005 : Int))) + (1442695040888963407 : Int))))) (andI .i64 (IntKind.wrap .i64 ((andI .i64 (xorI .i64 ((IntKind.wrap .i64 ((IntKind.wrap .i64 (a0.2.2 * (6364136223846793005 : Int))) + (1442695040888963407 : Int))) / (2 : Int) ^ 33) ((IntKind.wrap .i64 ((IntKind.wrap .i64 (a0.2.2 * (6364136223846793005 : Int))) + (1442695040888963407 : Int))) / (2 : Int) ^ 47)) (255 : Int)) + (IntKind.wrap .i64 (List.getD a0.1 (Int.toNat a0.2.1) (0 : Int))))) (255 : Int))) none) (k (a0.1, (a0.2.1, (IntKind.wrap .i64 ((IntKind.wrap .i64 (a0.2.2 * (6364136223846793005 : Int))) + (1442695040888963407 : Int))))) (andI .i64 (xorI .i64 ((IntKind.wrap .i64 ((IntKind.wrap .i64 (a0.2.2 * (6364136223846793005 : Int))) + (1442695040888963407 : Int))) / (2 : Int) ^ 33) ((IntKind.wrap .i64 ((IntKind.wrap .i64 (a0.2.2 * (6364136223846793005 : Int))) + (1442695040888963407 : Int))) / (2 : Int) ^ 47)) (255 : Int))))
theorem spec_l1Byte_ok {ρ : Type} (k : TCur → Int → Option ρ) (a0 : TCur) (l_a0 : (lnL (fun _ => True) a0.1 ∧ (True ∧ True))) (g : G.spec_l1Byte a0 = true) : spec_l1Byte k  a0 = k (N.spec_l1Byte a0).1 (N.spec_l1Byte a0).2 := by
  unfold G.spec_l1Byte at g
  show spec_l1Byte k a0 = k (byteC a0).1 (byteC a0).2
  have g' : 0 ≤ a0.2.1 := of_decide_eq_true ((Bool.and_eq_true _ _).mp g).1
  unfold spec_l1Byte byteC
  cases hc : decide (a0.2.1 < (a0.1.length : Int)) with
  | false => rfl
  | true =>
    have h1 : inRange a0.2.1 a0.1.length = true := by
      unfold inRange
      rw [hc, decide_eq_true g']
      rfl
    rw [h1]
    rfl
def O_spec_l1Byte : Orac := nilO
theorem ok_spec_l1Byte : OracOk Try.prog sigs O_spec_l1Byte := nilO_ok
def A_spec_l1Byte : Ann := fun b => ⟨[], []⟩
theorem a_spec_l1Byte (n : Nat) (a0 : TCur) : absFB tab sigs O_spec_l1Byte A_spec_l1Byte Try.f78 [((.int .i64), .no)] n (.pair (.slice 5 (.int .u8)) (.pair (.int .i64) (.int .i64))) a0 [] = spec_l1Byte (fun r0 r1 => some [⟨(.pair (.slice 5 (.int .u8)) (.pair (.int .i64) (.int .i64))), r0⟩, ⟨(.int .i64), r1⟩])  a0 := by kernel_rfl
theorem said_spec_l1Byte (a0 : TCur) (g : G.spec_l1Byte a0 = true) : SaidP Try.prog sigs_78 78 (.pair (.slice 5 (.int .u8)) (.pair (.int .i64) (.int .i64))) a0 [] [⟨(.pair (.slice 5 (.int .u8)) (.pair (.int .i64) (.int .i64))), (N.spec_l1Byte a0).1⟩, ⟨(.int .i64), (N.spec_l1Byte a0).2⟩] := said_lenB (T := tab) (A := A_spec_l1Byte) tabOk ok_spec_l1Byte tabOk.follows Try.func78 (by kernel_rfl) (by kernel_rfl) (fun hl => ⟨0, (a_spec_l1Byte 0 a0).trans (spec_l1Byte_ok (ρ := Ret) (fun r0 r1 => some [⟨(.pair (.slice 5 (.int .u8)) (.pair (.int .i64) (.int .i64))), r0⟩, ⟨(.int .i64), r1⟩]) a0 hl.1 g)⟩)
abbrev G.spec_l1Below (c : TCur) (n : Int) : Bool := okC c
abbrev N.spec_l1Below (c : TCur) (n : Int) : TCur × Int := belowC c n
def spec_l1Below_P {ρ : Type} (f0 : TCur → (TCur × Int)) (g0 : TCur → Bool) (k : TCur → Int → Option ρ) (a0 : TCur) (a1 : Int) : Option ρ := (cond (decide (a1 ≤ (0 : Int))) (k a0 (0 : Int)) (cond (decide (a1 ≤ (256 : Int))) (cond (g0 a0) (cond (!(decide (a1 = 0))) (k (f0 a0).1 (Int.tmod (f0 a0).2 a1)) none) none) (cond (g0 a0) (cond (g0 (f0 a0).1) (cond (g0 (f0 (f0 a0).1).1) (cond (!(decide (a1 = 0))) (k (f0 (f0 (f0 a0).1).1).1 (Int.tmod (IntKind.wrap .i64 ((IntKind.wrap .i64 ((IntKind.wrap .i64 ((f0 a0).2 * (65536 : Int))) + (IntKind.wrap .i64 ((f0 (f0 a0).1).2 * (256 : Int))))) + (f0 (f0 (f0 a0).1).1).2)) a1)) none) none) none) none)))
def spec_l1Below {ρ : Type} (k : TCur → Int → Option ρ) (a0 : TCur) (a1 : Int) : Option ρ := spec_l1Below_P N.spec_l1Byte G.spec_l1Byte k a0 a1
theorem spec_l1Below_ok {ρ : Type} (k : TCur → Int → Option ρ) (a0 : TCur) (a1 : Int) (l_a0 : (lnL (fun _ => True) a0.1 ∧ (True ∧ True))) (g : G.spec_l1Below a0 a1 = true) : spec_l1Below k  a0 a1 = k (N.spec_l1Below a0 a1).1 (N.spec_l1Below a0 a1).2 := by
  unfold G.spec_l1Below at g
  show spec_l1Below k a0 a1 = k (belowC a0 a1).1 (belowC a0 a1).2
  unfold belowC
  cases h1 : decide (a1 ≤ 0) with
  | true => simp only [spec_l1Below, spec_l1Below_P, h1, cond_true]
  | false =>
    have h0 : decide (a1 = 0) = false := decide_eq_false (by have := of_decide_eq_false h1; omega)
    cases h2 : decide (a1 ≤ 256) with
    | true => simp only [spec_l1Below, spec_l1Below_P, G.spec_l1Byte, N.spec_l1Byte, h1, h2, h0, g, cond_true, cond_false, Bool.not_false]
    | false => simp only [spec_l1Below, spec_l1Below_P, G.spec_l1Byte, N.spec_l1Byte, h1, h2, h0, g, okC_byte g, okC_byte (okC_byte g), cond_true, cond_false, Bool.not_false]
def OP_spec_l1Below (f0 : TCur → (TCur × Int)) (g0 : TCur → Bool) : Orac := (orcX 78 [.lend (.pair (.slice 5 (.int .u8)) (.pair (.int .i64) (.int .i64))) .no] (fun d => g0 d.1) (fun d => [⟨(.pair (.slice 5 (.int .u8)) (.pair (.int .i64) (.int .i64))), (f0 d.1).1⟩, ⟨(.int .i64), (f0 d.1).2⟩]) nilO)
def O_spec_l1Below : Orac := OP_spec_l1Below N.spec_l1Byte G.spec_l1Byte
theorem ok_spec_l1Below : OracOk Try.prog sigs O_spec_l1Below := (orcB_ok rfl (fun d g => said_spec_l1Byte d.1 g) nilO_ok)
def A_spec_l1Below : Ann := fun b => ⟨[], []⟩
theorem aP_spec_l1Below (f0 : TCur → (TCur × Int)) (g0 : TCur → Bool) (n : Nat) (a0 : TCur) (a1 : Int) : absFB tab sigs (OP_spec_l1Below f0 g0) A_spec_l1Below Try.f42 [((.int .i64), .no)] n (.pair (.slice 5 (.int .u8)) (.pair (.int .i64) (.int .i64))) a0 [.val (.int .i64) a1] = spec_l1Below_P f0 g0 (fun r0 r1 => some [⟨(.pair (.slice 5 (.int .u8)) (.pair (.int .i64) (.int .i64))), r0⟩, ⟨(.int .i64), r1⟩])  a0 a1 := by kernel_rfl
theorem said_spec_l1Below (a0 : TCur) (a1 : Int) (g : G.spec_l1Below a0 a1 = true) : SaidP Try.prog sigs_42 42 (.pair (.slice 5 (.int .u8)) (.pair (.int .i64) (.int .i64))) a0 [.val (.int .i64) a1] [⟨(.pair (.slice 5 (.int .u8)) (.pair (.int .i64) (.int .i64))), (N.spec_l1Below a0 a1).1⟩, ⟨(.int .i64), (N.spec_l1Below a0 a1).2⟩] := said_lenB (T := tab) (A := A_spec_l1Below) tabOk ok_spec_l1Below tabOk.follows Try.func42 (by kernel_rfl) (by kernel_rfl) (fun hl => ⟨0, (aP_spec_l1Below N.spec_l1Byte G.spec_l1Byte 0 a0 a1).trans (spec_l1Below_ok (ρ := Ret) (fun r0 r1 => some [⟨(.pair (.slice 5 (.int .u8)) (.pair (.int .i64) (.int .i64))), r0⟩, ⟨(.int .i64), r1⟩]) a0 a1 hl.1 g)⟩)
abbrev G.spec_l6Keys (c : TCur) : Bool := okC c
abbrev N.spec_l6Keys (c : TCur) : TCur × TKeys := keysC c
def spec_l6Keys_P_L0 {ρ : Type} (f0 : TCur → Int → (TCur × Int)) (g0 : TCur → Int → Bool) (k : TCur → TKeys → Option ρ) (L0 : Int → Int → Int → TCur → Int → Int → (List Int) → (List Int) → Option ρ) (v0_0 : Int) (v0_1 : Int) (v0_2 : Int) (v0_3 : TCur) (v0_4 : Int) (v0_5 : Int) (v0_6 : (List Int)) (v0_7 : (List Int)) : Option ρ := (cond (decide (v0_2 < v0_0)) (cond (g0 v0_3 (3 : Int)) (cond (fit (List.length v0_7) (List.length [(IntKind.wrap .i64 ((IntKind.wrap .i64 (v0_1 + (1 : Int))) + (f0 v0_3 (3 : Int)).2))])) (L0 v0_0 (IntKind.wrap .i64 ((IntKind.wrap .i64 (v0_1 + (1 : Int))) + (f0 v0_3 (3 : Int)).2)) (IntKind.wrap .i64 (v0_2 + (1 : Int))) (f0 v0_3 (3 : Int)).1 v0_4 v0_5 v0_6 (List.append v0_7 [(IntKind.wrap .i64 ((IntKind.wrap .i64 (v0_1 + (1 : Int))) + (f0 v0_3 (3 : Int)).2))])) none) none) (cond (g0 v0_3 v0_0) (k (f0 v0_3 v0_0).1 (v0_7, (IntKind.wrap .i64 ((1 : Int) + (f0 v0_3 v0_0).2)))) none))
def spec_l6Keys_P {ρ : Type} (f0 : TCur → Int → (TCur × Int)) (g0 : TCur → Int → Bool) (k : TCur → TKeys → Option ρ) (L0 : Int → Int → Int → TCur → Int → Int → (List Int) → (List Int) → Option ρ) (a0 : TCur) : Option ρ := (cond (g0 a0 (3 : Int)) (cond (g0 (f0 a0 (3 : Int)).1 (4 : Int)) (L0 (IntKind.wrap .i64 ((1 : Int) + (f0 a0 (3 : Int)).2)) (f0 (f0 a0 (3 : Int)).1 (4 : Int)).2 (0 : Int) (f0 (f0 a0 (3 : Int)).1 (4 : Int)).1 (0 : Int) (0 : Int) [] []) none) none)
def spec_l6Keys_L0 {ρ : Type} (k : TCur → TKeys → Option ρ) (L0 : Int → Int → Int → TCur → Int → Int → (List Int) → (List Int) → Option ρ) (v0_0 : Int) (v0_1 : Int) (v0_2 : Int) (v0_3 : TCur) (v0_4 : Int) (v0_5 : Int) (v0_6 : (List Int)) (v0_7 : (List Int)) : Option ρ := spec_l6Keys_P_L0 N.spec_l1Below G.spec_l1Below k L0 v0_0 v0_1 v0_2 v0_3 v0_4 v0_5 v0_6 v0_7
def spec_l6Keys {ρ : Type} (k : TCur → TKeys → Option ρ) (L0 : Int → Int → Int → TCur → Int → Int → (List Int) → (List Int) → Option ρ) (a0 : TCur) : Option ρ := spec_l6Keys_P N.spec_l1Below G.spec_l1Below k L0 a0
theorem spec_l6Keys_ok {ρ : Type} (k : TCur → TKeys → Option ρ) (a0 : TCur) (l_a0 : (lnL (fun _ => True) a0.1 ∧ (True ∧ True))) (g : G.spec_l6Keys a0 = true) : ∃ n0, ∀ n, n0 ≤ n → ∀ (L0 : Nat → Int → Int → Int → TCur → Int → Int → (List Int) → (List Int) → Option ρ) (h0 : ∀ ( m : Nat) (v0_0 : Int) (v0_1 : Int) (v0_2 : Int) (v0_3 : TCur) (v0_4 : Int) (v0_5 : Int) (v0_6 : (List Int)) (v0_7 : (List Int)), L0 (m + 1) v0_0 v0_1 v0_2 v0_3 v0_4 v0_5 v0_6 v0_7 = spec_l6Keys_L0 k (L0 m) v0_0 v0_1 v0_2 v0_3 v0_4 v0_5 v0_6 v0_7), spec_l6Keys k (L0 n) a0 = k (N.spec_l6Keys a0).1 (N.spec_l6Keys a0).2 := by
  unfold G.spec_l6Keys at g
  obtain ⟨hk1, hk2, hk3⟩ := keysN_le a0
  refine ⟨10, fun n hn L0 h0 => ?_⟩
  have go : ∀ (d n : Nat) (at' i : Int) (c : TCur) (o : List Int), okC c = true → d < n → i + d = keysN a0 → 0 ≤ i → o.length + d ≤ 100 →
      L0 n (keysN a0 : Int) at' i c 0 0 [] o = k (belowC (keysGo d at' c o).1 (keysN a0 : Int)).1 ((keysGo d at' c o).2, IntKind.wrap .i64 (1 + (belowC (keysGo d at' c o).1 (keysN a0 : Int)).2)) := by
    intro d
    induction d with
    | zero =>
      intro n at' i c o hc hn hi _ _
      obtain ⟨m, rfl⟩ : ∃ m, n = m + 1 := ⟨n - 1, by omega⟩
      have e1 : decide (i < (keysN a0 : Int)) = false := decide_eq_false (by omega)
      rw [h0]
      simp only [spec_l6Keys_L0, spec_l6Keys_P_L0, G.spec_l1Below, N.spec_l1Below, e1, hc, cond_true, cond_false]
      rfl
    | succ d ih =>
      intro n at' i c o hc hn hi h0i ho
      obtain ⟨m, rfl⟩ : ∃ m, n = m + 1 := ⟨n - 1, by omega⟩
      have e1 : decide (i < (keysN a0 : Int)) = true := decide_eq_true (by omega)
      have e2 : IntKind.wrap .i64 (i + 1) = i + 1 := wrap_id (by omega) (by omega)
      have hf : ∀ x : Int, fit (List.length o) (List.length [x]) = true := fun x => fit_of (by simp; omega)
      rw [h0]
      simp only [spec_l6Keys_L0, spec_l6Keys_P_L0, G.spec_l1Below, N.spec_l1Below, e1, e2, hc, hf, cond_true]
      exact ih m _ (i + 1) (belowC c 3).1 (o ++ [_]) (okC_below _ hc) (by omega) (by omega) (by omega) (by simp; omega)
  simp only [spec_l6Keys, spec_l6Keys_P, G.spec_l1Below, N.spec_l1Below, g, okC_below 3 g, cond_true, hk3]
  exact go _ n _ 0 _ [] (okC_below _ (okC_below _ g)) (by omega) (by omega) (by omega) (by simp; omega)
def OP_spec_l6Keys (f0 : TCur → Int → (TCur × Int)) (g0 : TCur → Int → Bool) : Orac := (orcX 42 [.lend (.pair (.slice 5 (.int .u8)) (.pair (.int .i64) (.int .i64))) .no, .val (.int .i64)] (fun d => g0 d.1 d.2.1) (fun d => [⟨(.pair (.slice 5 (.int .u8)) (.pair (.int .i64) (.int .i64))), (f0 d.1 d.2.1).1⟩, ⟨(.int .i64), (f0 d.1 d.2.1).2⟩]) nilO)
def O_spec_l6Keys : Orac := OP_spec_l6Keys N.spec_l1Below G.spec_l1Below
theorem ok_spec_l6Keys : OracOk Try.prog sigs O_spec_l6Keys := (orcB_ok rfl (fun d g => said_spec_l1Below d.1 d.2.1 g) nilO_ok)
def A_spec_l6Keys : Ann := fun b => cond (Nat.beq b 0) ⟨[(0, false), (2, false), (3, false), (4, false), (5, false), (6, false)], [(0, false), (2, true), (4, true)]⟩ (⟨[], []⟩)
def S_spec_l6Keys_0 (v0_0 : Int) (v0_1 : Int) (v0_2 : Int) (v0_3 : TCur) (v0_4 : Int) (v0_5 : Int) (v0_6 : (List Int)) (v0_7 : (List Int)) : St := [(kT 0, some (.tv (.box 0 []))), (kT 2, some (.tv (.box 2 []))), (kT 3, some (.tv (.v (.int .i64) v0_0 .no))), (kT 4, some (.tv (.box 4 []))), (kT 5, some (.tv (.v (.int .i64) v0_1 .no))), (kT 6, some (.tv (.v (.int .i64) v0_2 .no))), (kB 0, some (.box (.pair (.slice 5 (.int .u8)) (.pair (.int .i64) (.int .i64))) v0_3 .no)), (kB 2, some (.box (.pair (.slice 3 (.int .i64)) (.int .i64)) ([], v0_4) (.pair (.own 16) .no))), (kB 4, some (.box (.pair (.slice 3 (.int .i64)) (.int .i64)) ([], v0_5) (.pair (.own 32) .no))), (kR 16, some (.row 3 (.int .i64) v0_6)), (kR 32, some (.row 3 (.int .i64) v0_7))]
noncomputable def L_P_spec_l6Keys_0 (f0 : TCur → Int → (TCur × Int)) (g0 : TCur → Int → Bool) (n m : Nat) : St → Option Ret := loopOfB tab sigs (OP_spec_l6Keys f0 g0) A_spec_l6Keys Try.f115 [((.pair (.slice 3 (.int .i64)) (.int .i64)), (.pair (.own 0) .no))] (.pair (.slice 5 (.int .u8)) (.pair (.int .i64) (.int .i64))) n (fun _ => 0) 0 m
theorem bP_spec_l6Keys_0 (f0 : TCur → Int → (TCur × Int)) (g0 : TCur → Int → Bool) (n m : Nat) (v0_0 : Int) (v0_1 : Int) (v0_2 : Int) (v0_3 : TCur) (v0_4 : Int) (v0_5 : Int) (v0_6 : (List Int)) (v0_7 : (List Int)) : L_P_spec_l6Keys_0 f0 g0 n (m + 1) (S_spec_l6Keys_0 v0_0 v0_1 v0_2 v0_3 v0_4 v0_5 v0_6 v0_7) = spec_l6Keys_P_L0 f0 g0 (fun r0 r1 => some [⟨(.pair (.slice 5 (.int .u8)) (.pair (.int .i64) (.int .i64))), r0⟩, ⟨(.pair (.slice 3 (.int .i64)) (.int .i64)), r1⟩]) (fun v0_0 v0_1 v0_2 v0_3 v0_4 v0_5 v0_6 v0_7 => L_P_spec_l6Keys_0 f0 g0 n m (S_spec_l6Keys_0 v0_0 v0_1 v0_2 v0_3 v0_4 v0_5 v0_6 v0_7)) v0_0 v0_1 v0_2 v0_3 v0_4 v0_5 v0_6 v0_7 := by kernel_rfl
theorem aP_spec_l6Keys (f0 : TCur → Int → (TCur × Int)) (g0 : TCur → Int → Bool) (n : Nat) (a0 : TCur) : absFB tab sigs (OP_spec_l6Keys f0 g0) A_spec_l6Keys Try.f115 [((.pair (.slice 3 (.int .i64)) (.int .i64)), (.pair (.own 0) .no))] n (.pair (.slice 5 (.int .u8)) (.pair (.int .i64) (.int .i64))) a0 [] = spec_l6Keys_P f0 g0 (fun r0 r1 => some [⟨(.pair (.slice 5 (.int .u8)) (.pair (.int .i64) (.int .i64))), r0⟩, ⟨(.pair (.slice 3 (.int .i64)) (.int .i64)), r1⟩]) (fun v0_0 v0_1 v0_2 v0_3 v0_4 v0_5 v0_6 v0_7 => L_P_spec_l6Keys_0 f0 g0 n n (S_spec_l6Keys_0 v0_0 v0_1 v0_2 v0_3 v0_4 v0_5 v0_6 v0_7)) a0 := by kernel_rfl
theorem said_spec_l6Keys (a0 : TCur) (g : G.spec_l6Keys a0 = true) : SaidP Try.prog sigs_115 115 (.pair (.slice 5 (.int .u8)) (.pair (.int .i64) (.int .i64))) a0 [] [⟨(.pair (.slice 5 (.int .u8)) (.pair (.int .i64) (.int .i64))), (N.spec_l6Keys a0).1⟩, ⟨(.pair (.slice 3 (.int .i64)) (.int .i64)), (N.spec_l6Keys a0).2⟩] := said_lenB (T := tab) (A := A_spec_l6Keys) tabOk ok_spec_l6Keys tabOk.follows Try.func115 (by kernel_rfl) (by kernel_rfl) (fun hl => let ⟨n, hn⟩ := spec_l6Keys_ok (ρ := Ret) (fun r0 r1 => some [⟨(.pair (.slice 5 (.int .u8)) (.pair (.int .i64) (.int .i64))), r0⟩, ⟨(.pair (.slice 3 (.int .i64)) (.int .i64)), r1⟩]) a0 hl.1 g; ⟨n, (aP_spec_l6Keys N.spec_l1Below G.spec_l1Below n a0).trans (hn n (Nat.le_refl n) (fun  m v0_0 v0_1 v0_2 v0_3 v0_4 v0_5 v0_6 v0_7 => L_P_spec_l6Keys_0 N.spec_l1Below G.spec_l1Below n  m (S_spec_l6Keys_0 v0_0 v0_1 v0_2 v0_3 v0_4 v0_5 v0_6 v0_7)) (fun  m v0_0 v0_1 v0_2 v0_3 v0_4 v0_5 v0_6 v0_7 => bP_spec_l6Keys_0 N.spec_l1Below G.spec_l1Below n  m v0_0 v0_1 v0_2 v0_3 v0_4 v0_5 v0_6 v0_7))⟩)
abbrev G.spec_l1Int (c : TCur) (l : List Int) : Bool := okC c && decide (0 < l.length)
abbrev N.spec_l1Int (c : TCur) (l : List Int) : TCur × Int := intC c l
def spec_l1Int_P {ρ : Type} (f0 : TCur → Int → (TCur × Int)) (g0 : TCur → Int → Bool) (k : TCur → Int → Option ρ) (a0 : TCur) (a1 : (List Int)) : Option ρ := (cond (g0 a0 (List.length a1 : Int)) (cond (inRange (f0 a0 (List.length a1 : Int)).2 (List.length a1)) (k (f0 a0 (List.length a1 : Int)).1 (List.getD a1 (Int.toNat (f0 a0 (List.length a1 : Int)).2) (0 : Int))) none) none)
def spec_l1Int {ρ : Type} (k : TCur → Int → Option ρ) (a0 : TCur) (a1 : (List Int)) : Option ρ := spec_l1Int_P N.spec_l1Below G.spec_l1Below k a0 a1
theorem spec_l1Int_ok {ρ : Type} (k : TCur → Int → Option ρ) (a0 : TCur) (a1 : (List Int)) (l_a0 : (lnL (fun _ => True) a0.1 ∧ (True ∧ True))) (l_a1 : lnL (fun _ => True) a1) (g : G.spec_l1Int a0 a1 = true) : spec_l1Int k  a0 a1 = k (N.spec_l1Int a0 a1).1 (N.spec_l1Int a0 a1).2 := by
  unfold G.spec_l1Int at g
  obtain ⟨g1, g2⟩ := (Bool.and_eq_true _ _).mp g
  simp only [spec_l1Int, spec_l1Int_P, G.spec_l1Below, N.spec_l1Below, g1, pick_in a0 a1 (of_decide_eq_true g2), cond_true]
  rfl
def OP_spec_l1Int (f0 : TCur → Int → (TCur × Int)) (g0 : TCur → Int → Bool) : Orac := (orcX 42 [.lend (.pair (.slice 5 (.int .u8)) (.pair (.int .i64) (.int .i64))) .no, .val (.int .i64)] (fun d => g0 d.1 d.2.1) (fun d => [⟨(.pair (.slice 5 (.int .u8)) (.pair (.int .i64) (.int .i64))), (f0 d.1 d.2.1).1⟩, ⟨(.int .i64), (f0 d.1 d.2.1).2⟩]) nilO)
def O_spec_l1Int : Orac := OP_spec_l1Int N.spec_l1Below G.spec_l1Below
theorem ok_spec_l1Int : OracOk Try.prog sigs O_spec_l1Int := (orcB_ok rfl (fun d g => said_spec_l1Below d.1 d.2.1 g) nilO_ok)
def A_spec_l1Int : Ann := fun b => ⟨[], []⟩
theorem aP_spec_l1Int (f0 : TCur → Int → (TCur × Int)) (g0 : TCur → Int → Bool) (n : Nat) (a0 : TCur) (a1 : (List Int)) : absFB tab sigs (OP_spec_l1Int f0 g0) A_spec_l1Int Try.f49 [((.int .i64), .no)] n (.pair (.slice 5 (.int .u8)) (.pair (.int .i64) (.int .i64))) a0 [.val (.slice 3 (.int .i64)) a1] = spec_l1Int_P f0 g0 (fun r0 r1 => some [⟨(.pair (.slice 5 (.int .u8)) (.pair (.int .i64) (.int .i64))), r0⟩, ⟨(.int .i64), r1⟩])  a0 a1 := by kernel_rfl
theorem said_spec_l1Int (a0 : TCur) (a1 : (List Int)) (g : G.spec_l1Int a0 a1 = true) : SaidP Try.prog sigs_49 49 (.pair (.slice 5 (.int .u8)) (.pair (.int .i64) (.int .i64))) a0 [.val (.slice 3 (.int .i64)) a1] [⟨(.pair (.slice 5 (.int .u8)) (.pair (.int .i64) (.int .i64))), (N.spec_l1Int a0 a1).1⟩, ⟨(.int .i64), (N.spec_l1Int a0 a1).2⟩] := said_lenB (T := tab) (A := A_spec_l1Int) tabOk ok_spec_l1Int tabOk.follows Try.func49 (by kernel_rfl) (by kernel_rfl) (fun hl => ⟨0, (aP_spec_l1Int N.spec_l1Below G.spec_l1Below 0 a0 a1).trans (spec_l1Int_ok (ρ := Ret) (fun r0 r1 => some [⟨(.pair (.slice 5 (.int .u8)) (.pair (.int .i64) (.int .i64))), r0⟩, ⟨(.int .i64), r1⟩]) a0 a1 hl.1 hl.2.1 g)⟩)
abbrev G.spec_l6Any (c : TCur) : Bool := okC c
abbrev N.spec_l6Any (c : TCur) : TCur × TKeys := anyK c
def spec_l6Any_P {ρ : Type} (f0 : TCur → (TCur × TKeys)) (g0 : TCur → Bool) (f1 : TCur → Int → (TCur × Int)) (g1 : TCur → Int → Bool) (f2 : TCur → (List Int) → (TCur × Int)) (g2 : TCur → (List Int) → Bool) (k : TCur → TKeys → Option ρ) (a0 : TCur) : Option ρ := (cond (g0 a0) (cond (g1 (f0 a0).1 (10 : Int)) (cond ((f1 (f0 a0).1 (10 : Int)).2 == (0 : Int)) (cond (g2 (f1 (f0 a0).1 (10 : Int)).1 [(0 : Int), (-1 : Int), (5 : Int)]) (k (f2 (f1 (f0 a0).1 (10 : Int)).1 [(0 : Int), (-1 : Int), (5 : Int)]).1 ((f0 a0).2.1, (f2 (f1 (f0 a0).1 (10 : Int)).1 [(0 : Int), (-1 : Int), (5 : Int)]).2)) none) (cond ((f1 (f0 a0).1 (10 : Int)).2 == (1 : Int)) (cond (g2 (f1 (f0 a0).1 (10 : Int)).1 [(1 : Int), (99 : Int), (100 : Int)]) (cond (fit (List.length (f0 a0).2.1) (List.length [(f2 (f1 (f0 a0).1 (10 : Int)).1 [(1 : Int), (99 : Int), (100 : Int)]).2])) (k (f2 (f1 (f0 a0).1 (10 : Int)).1 [(1 : Int), (99 : Int), (100 : Int)]).1 ((List.append (f0 a0).2.1 [(f2 (f1 (f0 a0).1 (10 : Int)).1 [(1 : Int), (99 : Int), (100 : Int)]).2]), (f0 a0).2.2)) none) none) (cond ((f1 (f0 a0).1 (10 : Int)).2 == (2 : Int)) (k (f1 (f0 a0).1 (10 : Int)).1 (([] : (List Int)), (f0 a0).2.2)) (k (f1 (f0 a0).1 (10 : Int)).1 (f0 a0).2)))) none) none)
def spec_l6Any {ρ : Type} (k : TCur → TKeys → Option ρ) (a0 : TCur) : Option ρ := spec_l6Any_P N.spec_l6Keys G.spec_l6Keys N.spec_l1Below G.spec_l1Below N.spec_l1Int G.spec_l1Int k a0
theorem spec_l6Any_ok {ρ : Type} (k : TCur → TKeys → Option ρ) (a0 : TCur) (l_a0 : (lnL (fun _ => True) a0.1 ∧ (True ∧ True))) (g : G.spec_l6Any a0 = true) : spec_l6Any k  a0 = k (N.spec_l6Any a0).1 (N.spec_l6Any a0).2 := by
  unfold G.spec_l6Any at g
  have h1 := okC_keys g
  have h2 := okC_below 10 h1
  have hf : fit (List.length (keysC a0).2.1) 1 = true := fit_of (by have := keys_le a0; omega)
  simp only [spec_l6Any, spec_l6Any_P, G.spec_l6Keys, N.spec_l6Keys, G.spec_l1Below, N.spec_l1Below, G.spec_l1Int, N.spec_l1Int, g, h1, h2, hf, List.length_cons, List.length_nil, Nat.zero_add, Nat.reduceAdd, Nat.reduceLT, decide_true, Bool.and_true, cond_true]
  show _ = k (anyK a0).1 (anyK a0).2
  unfold anyK
  cases ((belowC (keysC a0).1 10).2 == 0) with
  | true => rfl
  | false =>
    cases ((belowC (keysC a0).1 10).2 == 1) with
    | true => rfl
    | false => cases ((belowC (keysC a0).1 10).2 == 2) <;> rfl
def OP_spec_l6Any (f0 : TCur → (TCur × TKeys)) (g0 : TCur → Bool) (f1 : TCur → Int → (TCur × Int)) (g1 : TCur → Int → Bool) (f2 : TCur → (List Int) → (TCur × Int)) (g2 : TCur → (List Int) → Bool) : Orac := (orcX 49 [.lend (.pair (.slice 5 (.int .u8)) (.pair (.int .i64) (.int .i64))) .no, .val (.slice 3 (.int .i64))] (fun d => g2 d.1 d.2.1) (fun d => [⟨(.pair (.slice 5 (.int .u8)) (.pair (.int .i64) (.int .i64))), (f2 d.1 d.2.1).1⟩, ⟨(.int .i64), (f2 d.1 d.2.1).2⟩]) (orcX 42 [.lend (.pair (.slice 5 (.int .u8)) (.pair (.int .i64) (.int .i64))) .no, .val (.int .i64)] (fun d => g1 d.1 d.2.1) (fun d => [⟨(.pair (.slice 5 (.int .u8)) (.pair (.int .i64) (.int .i64))), (f1 d.1 d.2.1).1⟩, ⟨(.int .i64), (f1 d.1 d.2.1).2⟩]) (orcX 115 [.lend (.pair (.slice 5 (.int .u8)) (.pair (.int .i64) (.int .i64))) .no] (fun d => g0 d.1) (fun d => [⟨(.pair (.slice 5 (.int .u8)) (.pair (.int .i64) (.int .i64))), (f0 d.1).1⟩, ⟨(.pair (.slice 3 (.int .i64)) (.int .i64)), (f0 d.1).2⟩]) nilO)))
def O_spec_l6Any : Orac := OP_spec_l6Any N.spec_l6Keys G.spec_l6Keys N.spec_l1Below G.spec_l1Below N.spec_l1Int G.spec_l1Int
theorem ok_spec_l6Any : OracOk Try.prog sigs O_spec_l6Any := (orcB_ok rfl (fun d g => said_spec_l1Int d.1 d.2.1 g) (orcB_ok rfl (fun d g => said_spec_l1Below d.1 d.2.1 g) (orcB_ok rfl (fun d g => said_spec_l6Keys d.1 g) nilO_ok)))
def A_spec_l6Any : Ann := fun b => ⟨[], []⟩
theorem aP_spec_l6Any (f0 : TCur → (TCur × TKeys)) (g0 : TCur → Bool) (f1 : TCur → Int → (TCur × Int)) (g1 : TCur → Int → Bool) (f2 : TCur → (List Int) → (TCur × Int)) (g2 : TCur → (List Int) → Bool) (n : Nat) (a0 : TCur) : absFB tab sigs (OP_spec_l6Any f0 g0 f1 g1 f2 g2) A_spec_l6Any Try.f98 [((.pair (.slice 3 (.int .i64)) (.int .i64)), .no)] n (.pair (.slice 5 (.int .u8)) (.pair (.int .i64) (.int .i64))) a0 [] = spec_l6Any_P f0 g0 f1 g1 f2 g2 (fun r0 r1 => some [⟨(.pair (.slice 5 (.int .u8)) (.pair (.int .i64) (.int .i64))), r0⟩, ⟨(.pair (.slice 3 (.int .i64)) (.int .i64)), r1⟩])  a0 := by kernel_rfl
theorem said_spec_l6Any (a0 : TCur) (g : G.spec_l6Any a0 = true) : SaidP Try.prog sigs_98 98 (.pair (.slice 5 (.int .u8)) (.pair (.int .i64) (.int .i64))) a0 [] [⟨(.pair (.slice 5 (.int .u8)) (.pair (.int .i64) (.int .i64))), (N.spec_l6Any a0).1⟩, ⟨(.pair (.slice 3 (.int .i64)) (.int .i64)), (N.spec_l6Any a0).2⟩] := said_lenB (T := tab) (A := A_spec_l6Any) tabOk ok_spec_l6Any tabOk.follows Try.func98 (by kernel_rfl) (by kernel_rfl) (fun hl => ⟨0, (aP_spec_l6Any N.spec_l6Keys G.spec_l6Keys N.spec_l1Below G.spec_l1Below N.spec_l1Int G.spec_l1Int 0 a0).trans (spec_l6Any_ok (ρ := Ret) (fun r0 r1 => some [⟨(.pair (.slice 5 (.int .u8)) (.pair (.int .i64) (.int .i64))), r0⟩, ⟨(.pair (.slice 3 (.int .i64)) (.int .i64)), r1⟩]) a0 hl.1 g)⟩)
abbrev G.spec_l7Message (c : TCur) : Bool := okC c
abbrev N.spec_l7Message (c : TCur) : TCur × List Int := msgC c
def spec_l7Message_P_L0 {ρ : Type} (f0 : TCur → Int → (TCur × Int)) (g0 : TCur → Int → Bool) (k : TCur → (List Int) → Option ρ) (L0 : Int → TCur → (List Int) → Option ρ) (v0_0 : Int) (v0_1 : TCur) (v0_2 : (List Int)) : Option ρ := (cond (decide (v0_0 > (0 : Int))) (cond (g0 v0_1 (9 : Int)) (cond (fit (List.length v0_2) (List.length [(f0 v0_1 (9 : Int)).2])) (L0 (IntKind.wrap .i64 (v0_0 - (1 : Int))) (f0 v0_1 (9 : Int)).1 (List.append v0_2 [(f0 v0_1 (9 : Int)).2])) none) none) (k v0_1 v0_2))
def spec_l7Message_P {ρ : Type} (f0 : TCur → Int → (TCur × Int)) (g0 : TCur → Int → Bool) (k : TCur → (List Int) → Option ρ) (L0 : Int → TCur → (List Int) → Option ρ) (a0 : TCur) : Option ρ := (cond (g0 a0 (4 : Int)) (L0 (f0 a0 (4 : Int)).2 (f0 a0 (4 : Int)).1 ([] : (List Int))) none)
def spec_l7Message_L0 {ρ : Type} (k : TCur → (List Int) → Option ρ) (L0 : Int → TCur → (List Int) → Option ρ) (v0_0 : Int) (v0_1 : TCur) (v0_2 : (List Int)) : Option ρ := spec_l7Message_P_L0 N.spec_l1Below G.spec_l1Below k L0 v0_0 v0_1 v0_2
def spec_l7Message {ρ : Type} (k : TCur → (List Int) → Option ρ) (L0 : Int → TCur → (List Int) → Option ρ) (a0 : TCur) : Option ρ := spec_l7Message_P N.spec_l1Below G.spec_l1Below k L0 a0
theorem spec_l7Message_ok {ρ : Type} (k : TCur → (List Int) → Option ρ) (a0 : TCur) (l_a0 : (lnL (fun _ => True) a0.1 ∧ (True ∧ True))) (g : G.spec_l7Message a0 = true) : ∃ n0, ∀ n, n0 ≤ n → ∀ (L0 : Nat → Int → TCur → (List Int) → Option ρ) (h0 : ∀ ( m : Nat) (v0_0 : Int) (v0_1 : TCur) (v0_2 : (List Int)), L0 (m + 1) v0_0 v0_1 v0_2 = spec_l7Message_L0 k (L0 m) v0_0 v0_1 v0_2), spec_l7Message k (L0 n) a0 = k (N.spec_l7Message a0).1 (N.spec_l7Message a0).2 := by
  unfold G.spec_l7Message at g
  have hr := below_range a0 (n := 4) (by omega)
  refine ⟨10, fun n hn L0 h0 => ?_⟩
  have go : ∀ (d n : Nat) (c : TCur) (o : List Int), okC c = true → d < n → d ≤ 6 → o.length + d ≤ 100 → L0 n (d : Int) c o = k (msgGo d c o).1 (msgGo d c o).2 := by
    intro d
    induction d with
    | zero =>
      intro n c o hc hn _ _
      obtain ⟨m, rfl⟩ : ∃ m, n = m + 1 := ⟨n - 1, by omega⟩
      rw [h0]
      rfl
    | succ d ih =>
      intro n c o hc hn h3 ho
      obtain ⟨m, rfl⟩ : ∃ m, n = m + 1 := ⟨n - 1, by omega⟩
      have e1 : decide (((d + 1 : Nat) : Int) > 0) = true := decide_eq_true (by omega)
      have e2 : IntKind.wrap .i64 (((d + 1 : Nat) : Int) - 1) = (d : Int) := by rw [wrap_id (by omega) (by omega)]; omega
      have hf : ∀ x : Int, fit (List.length o) (List.length [x]) = true := fun x => fit_of (by simp; omega)
      rw [h0]
      simp only [spec_l7Message_L0, spec_l7Message_P_L0, G.spec_l1Below, N.spec_l1Below, e1, e2, hc, hf, cond_true]
      exact ih m (belowC c 9).1 (o ++ [_]) (okC_below _ hc) (by omega) (by omega) (by simp; omega)
  have e3 : (belowC a0 4).2 = (((belowC a0 4).2.toNat : Nat) : Int) := by omega
  simp only [spec_l7Message, spec_l7Message_P, G.spec_l1Below, N.spec_l1Below, g, cond_true]
  rw [e3]
  exact go _ n _ [] (okC_below 4 g) (by omega) (by omega) (by simp; omega)
def OP_spec_l7Message (f0 : TCur → Int → (TCur × Int)) (g0 : TCur → Int → Bool) : Orac := (orcX 42 [.lend (.pair (.slice 5 (.int .u8)) (.pair (.int .i64) (.int .i64))) .no, .val (.int .i64)] (fun d => g0 d.1 d.2.1) (fun d => [⟨(.pair (.slice 5 (.int .u8)) (.pair (.int .i64) (.int .i64))), (f0 d.1 d.2.1).1⟩, ⟨(.int .i64), (f0 d.1 d.2.1).2⟩]) nilO)
def O_spec_l7Message : Orac := OP_spec_l7Message N.spec_l1Below G.spec_l1Below
theorem ok_spec_l7Message : OracOk Try.prog sigs O_spec_l7Message := (orcB_ok rfl (fun d g => said_spec_l1Below d.1 d.2.1 g) nilO_ok)
def A_spec_l7Message : Ann := fun b => cond (Nat.beq b 0) ⟨[(0, false), (3, true), (4, false)], [(0, false)]⟩ (⟨[], []⟩)
def S_spec_l7Message_0 (v0_0 : Int) (v0_1 : TCur) (v0_2 : (List Int)) : St := [(kT 0, some (.tv (.box 0 []))), (kT 3, some (.tv (.v (.slice 3 (.int .i64)) [] (.own 24)))), (kT 4, some (.tv (.v (.int .i64) v0_0 .no))), (kB 0, some (.box (.pair (.slice 5 (.int .u8)) (.pair (.int .i64) (.int .i64))) v0_1 .no)), (kR 24, some (.row 3 (.int .i64) v0_2))]
noncomputable def L_P_spec_l7Message_0 (f0 : TCur → Int → (TCur × Int)) (g0 : TCur → Int → Bool) (n m : Nat) : St → Option Ret := loopOfB tab sigs (OP_spec_l7Message f0 g0) A_spec_l7Message Try.f99 [((.slice 3 (.int .i64)), .no)] (.pair (.slice 5 (.int .u8)) (.pair (.int .i64) (.int .i64))) n (fun _ => 0) 0 m
theorem bP_spec_l7Message_0 (f0 : TCur → Int → (TCur × Int)) (g0 : TCur → Int → Bool) (n m : Nat) (v0_0 : Int) (v0_1 : TCur) (v0_2 : (List Int)) : L_P_spec_l7Message_0 f0 g0 n (m + 1) (S_spec_l7Message_0 v0_0 v0_1 v0_2) = spec_l7Message_P_L0 f0 g0 (fun r0 r1 => some [⟨(.pair (.slice 5 (.int .u8)) (.pair (.int .i64) (.int .i64))), r0⟩, ⟨(.slice 3 (.int .i64)), r1⟩]) (fun v0_0 v0_1 v0_2 => L_P_spec_l7Message_0 f0 g0 n m (S_spec_l7Message_0 v0_0 v0_1 v0_2)) v0_0 v0_1 v0_2 := by kernel_rfl
theorem aP_spec_l7Message (f0 : TCur → Int → (TCur × Int)) (g0 : TCur → Int → Bool) (n : Nat) (a0 : TCur) : absFB tab sigs (OP_spec_l7Message f0 g0) A_spec_l7Message Try.f99 [((.slice 3 (.int .i64)), .no)] n (.pair (.slice 5 (.int .u8)) (.pair (.int .i64) (.int .i64))) a0 [] = spec_l7Message_P f0 g0 (fun r0 r1 => some [⟨(.pair (.slice 5 (.int .u8)) (.pair (.int .i64) (.int .i64))), r0⟩, ⟨(.slice 3 (.int .i64)), r1⟩]) (fun v0_0 v0_1 v0_2 => L_P_spec_l7Message_0 f0 g0 n n (S_spec_l7Message_0 v0_0 v0_1 v0_2)) a0 := by kernel_rfl
theorem said_spec_l7Message (a0 : TCur) (g : G.spec_l7Message a0 = true) : SaidP Try.prog sigs_99 99 (.pair (.slice 5 (.int .u8)) (.pair (.int .i64) (.int .i64))) a0 [] [⟨(.pair (.slice 5 (.int .u8)) (.pair (.int .i64) (.int .i64))), (N.spec_l7Message a0).1⟩, ⟨(.slice 3 (.int .i64)), (N.spec_l7Message a0).2⟩] := said_lenB (T := tab) (A := A_spec_l7Message) tabOk ok_spec_l7Message tabOk.follows Try.func99 (by kernel_rfl) (by kernel_rfl) (fun hl => let ⟨n, hn⟩ := spec_l7Message_ok (ρ := Ret) (fun r0 r1 => some [⟨(.pair (.slice 5 (.int .u8)) (.pair (.int .i64) (.int .i64))), r0⟩, ⟨(.slice 3 (.int .i64)), r1⟩]) a0 hl.1 g; ⟨n, (aP_spec_l7Message N.spec_l1Below G.spec_l1Below n a0).trans (hn n (Nat.le_refl n) (fun  m v0_0 v0_1 v0_2 => L_P_spec_l7Message_0 N.spec_l1Below G.spec_l1Below n  m (S_spec_l7Message_0 v0_0 v0_1 v0_2)) (fun  m v0_0 v0_1 v0_2 => bP_spec_l7Message_0 N.spec_l1Below G.spec_l1Below n  m v0_0 v0_1 v0_2))⟩)
abbrev G.spec_l6Held (c : TCur) : Bool := okC c
abbrev N.spec_l6Held (c : TCur) : TCur × List Int := heldC c
def spec_l6Held_P_L0 {ρ : Type} (f0 : TCur → Int → (TCur × Int)) (g0 : TCur → Int → Bool) (k : TCur → (List Int) → Option ρ) (L0 : Int → TCur → (List Int) → Option ρ) (v0_0 : Int) (v0_1 : TCur) (v0_2 : (List Int)) : Option ρ := (cond (decide (v0_0 > (0 : Int))) (cond (g0 v0_1 (9 : Int)) (cond (fit (List.length v0_2) (List.length [(IntKind.wrap .i64 ((1 : Int) + (f0 v0_1 (9 : Int)).2))])) (L0 (IntKind.wrap .i64 (v0_0 - (1 : Int))) (f0 v0_1 (9 : Int)).1 (List.append v0_2 [(IntKind.wrap .i64 ((1 : Int) + (f0 v0_1 (9 : Int)).2))])) none) none) (k v0_1 v0_2))
def spec_l6Held_P {ρ : Type} (f0 : TCur → Int → (TCur × Int)) (g0 : TCur → Int → Bool) (k : TCur → (List Int) → Option ρ) (L0 : Int → TCur → (List Int) → Option ρ) (a0 : TCur) : Option ρ := (cond (g0 a0 (6 : Int)) (L0 (f0 a0 (6 : Int)).2 (f0 a0 (6 : Int)).1 ([] : (List Int))) none)
def spec_l6Held_L0 {ρ : Type} (k : TCur → (List Int) → Option ρ) (L0 : Int → TCur → (List Int) → Option ρ) (v0_0 : Int) (v0_1 : TCur) (v0_2 : (List Int)) : Option ρ := spec_l6Held_P_L0 N.spec_l1Below G.spec_l1Below k L0 v0_0 v0_1 v0_2
def spec_l6Held {ρ : Type} (k : TCur → (List Int) → Option ρ) (L0 : Int → TCur → (List Int) → Option ρ) (a0 : TCur) : Option ρ := spec_l6Held_P N.spec_l1Below G.spec_l1Below k L0 a0
theorem spec_l6Held_ok {ρ : Type} (k : TCur → (List Int) → Option ρ) (a0 : TCur) (l_a0 : (lnL (fun _ => True) a0.1 ∧ (True ∧ True))) (g : G.spec_l6Held a0 = true) : ∃ n0, ∀ n, n0 ≤ n → ∀ (L0 : Nat → Int → TCur → (List Int) → Option ρ) (h0 : ∀ ( m : Nat) (v0_0 : Int) (v0_1 : TCur) (v0_2 : (List Int)), L0 (m + 1) v0_0 v0_1 v0_2 = spec_l6Held_L0 k (L0 m) v0_0 v0_1 v0_2), spec_l6Held k (L0 n) a0 = k (N.spec_l6Held a0).1 (N.spec_l6Held a0).2 := by
  unfold G.spec_l6Held at g
  have hr := below_range a0 (n := 6) (by omega)
  refine ⟨10, fun n hn L0 h0 => ?_⟩
  have go : ∀ (d n : Nat) (c : TCur) (o : List Int), okC c = true → d < n → d ≤ 6 → o.length + d ≤ 100 → L0 n (d : Int) c o = k (heldGo d c o).1 (heldGo d c o).2 := by
    intro d
    induction d with
    | zero =>
      intro n c o hc hn _ _
      obtain ⟨m, rfl⟩ : ∃ m, n = m + 1 := ⟨n - 1, by omega⟩
      rw [h0]
      rfl
    | succ d ih =>
      intro n c o hc hn h3 ho
      obtain ⟨m, rfl⟩ : ∃ m, n = m + 1 := ⟨n - 1, by omega⟩
      have e1 : decide (((d + 1 : Nat) : Int) > 0) = true := decide_eq_true (by omega)
      have e2 : IntKind.wrap .i64 (((d + 1 : Nat) : Int) - 1) = (d : Int) := by rw [wrap_id (by omega) (by omega)]; omega
      have hf : ∀ x : Int, fit (List.length o) (List.length [x]) = true := fun x => fit_of (by simp; omega)
      rw [h0]
      simp only [spec_l6Held_L0, spec_l6Held_P_L0, G.spec_l1Below, N.spec_l1Below, e1, e2, hc, hf, cond_true]
      exact ih m (belowC c 9).1 (o ++ [_]) (okC_below _ hc) (by omega) (by omega) (by simp; omega)
  have e3 : (belowC a0 6).2 = (((belowC a0 6).2.toNat : Nat) : Int) := by omega
  simp only [spec_l6Held, spec_l6Held_P, G.spec_l1Below, N.spec_l1Below, g, cond_true]
  rw [e3]
  exact go _ n _ [] (okC_below 6 g) (by omega) (by omega) (by simp; omega)
def OP_spec_l6Held (f0 : TCur → Int → (TCur × Int)) (g0 : TCur → Int → Bool) : Orac := (orcX 42 [.lend (.pair (.slice 5 (.int .u8)) (.pair (.int .i64) (.int .i64))) .no, .val (.int .i64)] (fun d => g0 d.1 d.2.1) (fun d => [⟨(.pair (.slice 5 (.int .u8)) (.pair (.int .i64) (.int .i64))), (f0 d.1 d.2.1).1⟩, ⟨(.int .i64), (f0 d.1 d.2.1).2⟩]) nilO)
def O_spec_l6Held : Orac := OP_spec_l6Held N.spec_l1Below G.spec_l1Below
theorem ok_spec_l6Held : OracOk Try.prog sigs O_spec_l6Held := (orcB_ok rfl (fun d g => said_spec_l1Below d.1 d.2.1 g) nilO_ok)
def A_spec_l6Held : Ann := fun b => cond (Nat.beq b 0) ⟨[(0, false), (3, true), (4, false)], [(0, false)]⟩ (⟨[], []⟩)
def S_spec_l6Held_0 (v0_0 : Int) (v0_1 : TCur) (v0_2 : (List Int)) : St := [(kT 0, some (.tv (.box 0 []))), (kT 3, some (.tv (.v (.slice 3 (.int .i64)) [] (.own 24)))), (kT 4, some (.tv (.v (.int .i64) v0_0 .no))), (kB 0, some (.box (.pair (.slice 5 (.int .u8)) (.pair (.int .i64) (.int .i64))) v0_1 .no)), (kR 24, some (.row 3 (.int .i64) v0_2))]
noncomputable def L_P_spec_l6Held_0 (f0 : TCur → Int → (TCur × Int)) (g0 : TCur → Int → Bool) (n m : Nat) : St → Option Ret := loopOfB tab sigs (OP_spec_l6Held f0 g0) A_spec_l6Held Try.f117 [((.slice 3 (.int .i64)), (.own 0))] (.pair (.slice 5 (.int .u8)) (.pair (.int .i64) (.int .i64))) n (fun _ => 0) 0 m
theorem bP_spec_l6Held_0 (f0 : TCur → Int → (TCur × Int)) (g0 : TCur → Int → Bool) (n m : Nat) (v0_0 : Int) (v0_1 : TCur) (v0_2 : (List Int)) : L_P_spec_l6Held_0 f0 g0 n (m + 1) (S_spec_l6Held_0 v0_0 v0_1 v0_2) = spec_l6Held_P_L0 f0 g0 (fun r0 r1 => some [⟨(.pair (.slice 5 (.int .u8)) (.pair (.int .i64) (.int .i64))), r0⟩, ⟨(.slice 3 (.int .i64)), r1⟩]) (fun v0_0 v0_1 v0_2 => L_P_spec_l6Held_0 f0 g0 n m (S_spec_l6Held_0 v0_0 v0_1 v0_2)) v0_0 v0_1 v0_2 := by kernel_rfl
theorem aP_spec_l6Held (f0 : TCur → Int → (TCur × Int)) (g0 : TCur → Int → Bool) (n : Nat) (a0 : TCur) : absFB tab sigs (OP_spec_l6Held f0 g0) A_spec_l6Held Try.f117 [((.slice 3 (.int .i64)), (.own 0))] n (.pair (.slice 5 (.int .u8)) (.pair (.int .i64) (.int .i64))) a0 [] = spec_l6Held_P f0 g0 (fun r0 r1 => some [⟨(.pair (.slice 5 (.int .u8)) (.pair (.int .i64) (.int .i64))), r0⟩, ⟨(.slice 3 (.int .i64)), r1⟩]) (fun v0_0 v0_1 v0_2 => L_P_spec_l6Held_0 f0 g0 n n (S_spec_l6Held_0 v0_0 v0_1 v0_2)) a0 := by kernel_rfl
theorem said_spec_l6Held (a0 : TCur) (g : G.spec_l6Held a0 = true) : SaidP Try.prog sigs_117 117 (.pair (.slice 5 (.int .u8)) (.pair (.int .i64) (.int .i64))) a0 [] [⟨(.pair (.slice 5 (.int .u8)) (.pair (.int .i64) (.int .i64))), (N.spec_l6Held a0).1⟩, ⟨(.slice 3 (.int .i64)), (N.spec_l6Held a0).2⟩] := said_lenB (T := tab) (A := A_spec_l6Held) tabOk ok_spec_l6Held tabOk.follows Try.func117 (by kernel_rfl) (by kernel_rfl) (fun hl => let ⟨n, hn⟩ := spec_l6Held_ok (ρ := Ret) (fun r0 r1 => some [⟨(.pair (.slice 5 (.int .u8)) (.pair (.int .i64) (.int .i64))), r0⟩, ⟨(.slice 3 (.int .i64)), r1⟩]) a0 hl.1 g; ⟨n, (aP_spec_l6Held N.spec_l1Below G.spec_l1Below n a0).trans (hn n (Nat.le_refl n) (fun  m v0_0 v0_1 v0_2 => L_P_spec_l6Held_0 N.spec_l1Below G.spec_l1Below n  m (S_spec_l6Held_0 v0_0 v0_1 v0_2)) (fun  m v0_0 v0_1 v0_2 => bP_spec_l6Held_0 N.spec_l1Below G.spec_l1Below n  m v0_0 v0_1 v0_2))⟩)
abbrev N.spec_l6Has (l : List Int) (x : Int) : Bool := hasInt l x
def spec_l6Has_L0 {ρ : Type} (k : Bool → Option ρ) (L0 : (List Int) → Int → Int → Option ρ) (v0_0 : (List Int)) (v0_1 : Int) (v0_2 : Int) : Option ρ := (cond (decide (v0_2 < (List.length v0_0 : Int))) (cond (inRange v0_2 (List.length v0_0)) (cond ((List.getD v0_0 (Int.toNat v0_2) (0 : Int)) == v0_1) (k true) (L0 v0_0 v0_1 (IntKind.wrap .i64 (v0_2 + (1 : Int))))) none) (k false))
def spec_l6Has {ρ : Type} (k : Bool → Option ρ) (L0 : (List Int) → Int → Int → Option ρ) (a0 : (List Int)) (a1 : Int) : Option ρ := (L0 a0 a1 (0 : Int))
theorem spec_l6Has_ok {ρ : Type} (k : Bool → Option ρ) (a0 : (List Int)) (a1 : Int) (l_a0 : lnL (fun _ => True) a0) : ∃ n0, ∀ n, n0 ≤ n → ∀ (L0 : Nat → (List Int) → Int → Int → Option ρ) (h0 : ∀ ( m : Nat) (v0_0 : (List Int)) (v0_1 : Int) (v0_2 : Int), L0 (m + 1) v0_0 v0_1 v0_2 = spec_l6Has_L0 k (L0 m) v0_0 v0_1 v0_2), spec_l6Has k (L0 n) a0 a1 = k (N.spec_l6Has a0 a1) := by
  refine ⟨a0.length + 1, fun n hn L0 h0 => ?_⟩
  have := raw_any (a := a0) 0 (fun y => a1 == y) (σ := Unit) (s := ()) (r := k true) (e := fun _ => k false) (L := fun m i _ => L0 m a0 a1 i) (R := fun i _ c => spec_l6Has_L0 k (fun _ _ i => c i ()) a0 a1 i) (fun m i s => h0 m a0 a1 i) (fun j s c hj => by
    have : j < big := by have := l_a0.1; omega
    simp only [spec_l6Has_L0, lt_nat, inRange_nat, decide_eq_true hj, cond_true, Int.toNat_natCast, wrap_succ this, BEq.comm]) (fun s c => by simp [spec_l6Has_L0]) hn
  show L0 n a0 a1 0 = _
  rw [this]
  show _ = k (a0.any fun y => a1 == y)
  cases (a0.any fun y => a1 == y) <;> rfl
def O_spec_l6Has : Orac := nilO
theorem ok_spec_l6Has : OracOk Try.prog sigs O_spec_l6Has := nilO_ok
def A_spec_l6Has : Ann := fun b => cond (Nat.beq b 0) ⟨[(0, false), (1, false), (5, false)], []⟩ (⟨[], []⟩)
def S_spec_l6Has_0 (v0_0 : (List Int)) (v0_1 : Int) (v0_2 : Int) : St := [(kT 0, some (.tv (.v (.slice 3 (.int .i64)) v0_0 .no))), (kT 1, some (.tv (.v (.int .i64) v0_1 .no))), (kT 5, some (.tv (.v (.int .i64) v0_2 .no)))]
noncomputable def L_spec_l6Has_0 (n m : Nat) : St → Option Ret := loopOf tab sigs O_spec_l6Has A_spec_l6Has Try.f135 [(.bool, .no)] n (fun _ => 0) 0 m
theorem b_spec_l6Has_0 (n m : Nat) (v0_0 : (List Int)) (v0_1 : Int) (v0_2 : Int) : L_spec_l6Has_0 n (m + 1) (S_spec_l6Has_0 v0_0 v0_1 v0_2) = spec_l6Has_L0 (fun r0 => some [⟨.bool, r0⟩]) (fun v0_0 v0_1 v0_2 => L_spec_l6Has_0 n m (S_spec_l6Has_0 v0_0 v0_1 v0_2)) v0_0 v0_1 v0_2 := by kernel_rfl
theorem a_spec_l6Has (n : Nat) (a0 : (List Int)) (a1 : Int) : absF tab sigs O_spec_l6Has A_spec_l6Has Try.f135 [(.bool, .no)] n [.val (.slice 3 (.int .i64)) a0, .val (.int .i64) a1] = spec_l6Has (fun r0 => some [⟨.bool, r0⟩]) (fun v0_0 v0_1 v0_2 => L_spec_l6Has_0 n n (S_spec_l6Has_0 v0_0 v0_1 v0_2)) a0 a1 := by kernel_rfl
theorem said_spec_l6Has (a0 : (List Int)) (a1 : Int) : Said Try.prog sigs_135 135 [.val (.slice 3 (.int .i64)) a0, .val (.int .i64) a1] [⟨.bool, N.spec_l6Has a0 a1⟩] := said_len (T := tab) (A := A_spec_l6Has) tabOk ok_spec_l6Has tabOk.follows Try.func135 (by kernel_rfl) (by kernel_rfl) (fun hl => let ⟨n, hn⟩ := spec_l6Has_ok (ρ := Ret) (fun r0 => some [⟨.bool, r0⟩]) a0 a1 hl.1; ⟨n, (a_spec_l6Has n a0 a1).trans (hn n (Nat.le_refl n) (fun  m v0_0 v0_1 v0_2 => L_spec_l6Has_0 n  m (S_spec_l6Has_0 v0_0 v0_1 v0_2)) (fun  m v0_0 v0_1 v0_2 => b_spec_l6Has_0 n  m v0_0 v0_1 v0_2))⟩)
abbrev N.spec_l1In (n lo hi : Int) : Bool := inR n lo hi
def spec_l1In {ρ : Type} (k : Bool → Option ρ) (a0 : Int) (a1 : Int) (a2 : Int) : Option ρ := (cond (decide (a0 ≥ a1)) (k (decide (a0 ≤ a2))) (k false))
theorem spec_l1In_ok {ρ : Type} (k : Bool → Option ρ) (a0 : Int) (a1 : Int) (a2 : Int) : spec_l1In k  a0 a1 a2 = k (N.spec_l1In a0 a1 a2) := by
  simp only [spec_l1In, inR, ge_iff_le]
  cases decide (a1 ≤ a0) <;> rfl
def O_spec_l1In : Orac := nilO
theorem ok_spec_l1In : OracOk Try.prog sigs O_spec_l1In := nilO_ok
def A_spec_l1In : Ann := fun b => ⟨[], []⟩
theorem a_spec_l1In (n : Nat) (a0 : Int) (a1 : Int) (a2 : Int) : absF tab sigs O_spec_l1In A_spec_l1In Try.f45 [(.bool, .no)] n [.val (.int .i64) a0, .val (.int .i64) a1, .val (.int .i64) a2] = spec_l1In (fun r0 => some [⟨.bool, r0⟩])  a0 a1 a2 := by kernel_rfl
theorem said_spec_l1In (a0 : Int) (a1 : Int) (a2 : Int) : Said Try.prog sigs_45 45 [.val (.int .i64) a0, .val (.int .i64) a1, .val (.int .i64) a2] [⟨.bool, N.spec_l1In a0 a1 a2⟩] := said_len (T := tab) (A := A_spec_l1In) tabOk ok_spec_l1In tabOk.follows Try.func45 (by kernel_rfl) (by kernel_rfl) (fun hl => ⟨0, (a_spec_l1In 0 a0 a1 a2).trans (spec_l1In_ok (ρ := Ret) (fun r0 => some [⟨.bool, r0⟩]) a0 a1 a2)⟩)
abbrev N.spec_Mod (n m : Int) : Int := modM n m
def spec_Mod {ρ : Type} (k : Int → Option ρ) (a0 : Int) (a1 : Int) : Option ρ := (cond (!(N.spec_l1In a1 (1 : Int) (1000000000000 : Int))) (k (0 : Int)) (cond (!(decide (a1 = 0))) (cond (!(decide (a1 = 0))) (k (Int.tmod (IntKind.wrap .i64 ((Int.tmod a0 a1) + a1)) a1)) none) none))
theorem spec_Mod_ok {ρ : Type} (k : Int → Option ρ) (a0 : Int) (a1 : Int) : spec_Mod k  a0 a1 = k (N.spec_Mod a0 a1) := by
  simp only [spec_Mod, N.spec_l1In, modM]
  cases h : inR a1 1 1000000000000
  · rfl
  · have h1 : 1 ≤ a1 := by
      unfold inR at h
      simp only [Bool.and_eq_true, decide_eq_true_eq] at h
      exact h.1
    have h2 : decide (a1 = 0) = false := by simp; omega
    simp [h2]
def OP_spec_Mod (f0 : Int → Int → Int → Bool) : Orac := (orcX 45 [.val (.int .i64), .val (.int .i64), .val (.int .i64)] (fun d => true) (fun d => [⟨.bool, f0 d.1 d.2.1 d.2.2.1⟩]) nilO)
def O_spec_Mod : Orac := OP_spec_Mod N.spec_l1In
def spec_Mod_P {ρ : Type} (f0 : Int → Int → Int → Bool) (k : Int → Option ρ) (a0 : Int) (a1 : Int) : Option ρ := (cond (!(f0 a1 (1 : Int) (1000000000000 : Int))) (k (0 : Int)) (cond (!(decide (a1 = 0))) (cond (!(decide (a1 = 0))) (k (Int.tmod (IntKind.wrap .i64 ((Int.tmod a0 a1) + a1)) a1)) none) none))
theorem ok_spec_Mod : OracOk Try.prog sigs O_spec_Mod := (orcX_ok rfl rfl (fun d g => said_spec_l1In d.1 d.2.1 d.2.2.1) nilO_ok)
def A_spec_Mod : Ann := fun b => ⟨[], []⟩
theorem aP_spec_Mod (f0 : Int → Int → Int → Bool) (n : Nat) (a0 : Int) (a1 : Int) : absF tab sigs (OP_spec_Mod f0) A_spec_Mod Try.f80 [((.int .i64), .no)] n [.val (.int .i64) a0, .val (.int .i64) a1] = spec_Mod_P f0 (fun r0 => some [⟨(.int .i64), r0⟩])  a0 a1 := by kernel_rfl
theorem said_spec_Mod (a0 : Int) (a1 : Int) : Said Try.prog sigs_80 80 [.val (.int .i64) a0, .val (.int .i64) a1] [⟨(.int .i64), N.spec_Mod a0 a1⟩] := said_len (T := tab) (A := A_spec_Mod) tabOk ok_spec_Mod tabOk.follows Try.func80 (by kernel_rfl) (by kernel_rfl) (fun hl => ⟨0, (aP_spec_Mod N.spec_l1In 0 a0 a1).trans (spec_Mod_ok (ρ := Ret) (fun r0 => some [⟨(.int .i64), r0⟩]) a0 a1)⟩)
abbrev N.spec_Hash (l : List Int) : Int := hash l
def spec_Hash_P_L0 {ρ : Type} (f0 : Int → Int → Int) (k : Int → Option ρ) (L0 : (List Int) → Int → Int → Option ρ) (v0_0 : (List Int)) (v0_1 : Int) (v0_2 : Int) : Option ρ := (cond (decide (v0_2 < (List.length v0_0 : Int))) (cond (inRange v0_2 (List.length v0_0)) (L0 v0_0 (Int.tmod (IntKind.wrap .i64 ((IntKind.wrap .i64 ((IntKind.wrap .i64 (v0_1 * (1000003 : Int))) + (f0 (List.getD v0_0 (Int.toNat v0_2) (0 : Int)) (2147483647 : Int)))) + (13 : Int))) (2147483647 : Int)) (IntKind.wrap .i64 (v0_2 + (1 : Int)))) none) (k v0_1))
def spec_Hash_P {ρ : Type} (f0 : Int → Int → Int) (k : Int → Option ρ) (L0 : (List Int) → Int → Int → Option ρ) (a0 : (List Int)) : Option ρ := (L0 a0 (11 : Int) (0 : Int))
def spec_Hash_L0 {ρ : Type} (k : Int → Option ρ) (L0 : (List Int) → Int → Int → Option ρ) (v0_0 : (List Int)) (v0_1 : Int) (v0_2 : Int) : Option ρ := spec_Hash_P_L0 N.spec_Mod k L0 v0_0 v0_1 v0_2
def spec_Hash {ρ : Type} (k : Int → Option ρ) (L0 : (List Int) → Int → Int → Option ρ) (a0 : (List Int)) : Option ρ := spec_Hash_P N.spec_Mod k L0 a0
theorem spec_Hash_ok {ρ : Type} (k : Int → Option ρ) (a0 : (List Int)) (l_a0 : lnL (fun _ => True) a0) : ∃ n0, ∀ n, n0 ≤ n → ∀ (L0 : Nat → (List Int) → Int → Int → Option ρ) (h0 : ∀ ( m : Nat) (v0_0 : (List Int)) (v0_1 : Int) (v0_2 : Int), L0 (m + 1) v0_0 v0_1 v0_2 = spec_Hash_L0 k (L0 m) v0_0 v0_1 v0_2), spec_Hash k (L0 n) a0 = k (N.spec_Hash a0) := by
  refine ⟨a0.length + 1, fun n hn L0 h0 => ?_⟩
  refine raw_foldl (a := a0) 0 hashStep (k := k) (L := fun m i s => L0 m a0 s i) (R := fun i s c => spec_Hash_L0 k (fun _ s i => c i s) a0 s i) (fun m i s => h0 m a0 s i) (fun _ _ => True) (fun j s c hj _ => ?_) (fun _ _ _ _ => trivial) (fun s c => ?_) hn trivial
  · have : j < big := by have := l_a0.1; omega
    simp [spec_Hash_L0, spec_Hash_P_L0, lt_nat, inRange_nat, hj, wrap_succ this, hashStep]
  · simp [spec_Hash_L0, spec_Hash_P_L0]
def OP_spec_Hash (f0 : Int → Int → Int) : Orac := (orcX 80 [.val (.int .i64), .val (.int .i64)] (fun d => true) (fun d => [⟨(.int .i64), f0 d.1 d.2.1⟩]) nilO)
def O_spec_Hash : Orac := OP_spec_Hash N.spec_Mod
theorem ok_spec_Hash : OracOk Try.prog sigs O_spec_Hash := (orcX_ok rfl rfl (fun d g => said_spec_Mod d.1 d.2.1) nilO_ok)
def A_spec_Hash : Ann := fun b => cond (Nat.beq b 0) ⟨[(0, false), (3, false), (4, false)], []⟩ (⟨[], []⟩)
def S_spec_Hash_0 (v0_0 : (List Int)) (v0_1 : Int) (v0_2 : Int) : St := [(kT 0, some (.tv (.v (.slice 3 (.int .i64)) v0_0 .no))), (kT 3, some (.tv (.v (.int .i64) v0_1 .no))), (kT 4, some (.tv (.v (.int .i64) v0_2 .no)))]
noncomputable def L_P_spec_Hash_0 (f0 : Int → Int → Int) (n m : Nat) : St → Option Ret := loopOf tab sigs (OP_spec_Hash f0) A_spec_Hash Try.f48 [((.int .i64), .no)] n (fun _ => 0) 0 m
theorem bP_spec_Hash_0 (f0 : Int → Int → Int) (n m : Nat) (v0_0 : (List Int)) (v0_1 : Int) (v0_2 : Int) : L_P_spec_Hash_0 f0 n (m + 1) (S_spec_Hash_0 v0_0 v0_1 v0_2) = spec_Hash_P_L0 f0 (fun r0 => some [⟨(.int .i64), r0⟩]) (fun v0_0 v0_1 v0_2 => L_P_spec_Hash_0 f0 n m (S_spec_Hash_0 v0_0 v0_1 v0_2)) v0_0 v0_1 v0_2 := by kernel_rfl
theorem aP_spec_Hash (f0 : Int → Int → Int) (n : Nat) (a0 : (List Int)) : absF tab sigs (OP_spec_Hash f0) A_spec_Hash Try.f48 [((.int .i64), .no)] n [.val (.slice 3 (.int .i64)) a0] = spec_Hash_P f0 (fun r0 => some [⟨(.int .i64), r0⟩]) (fun v0_0 v0_1 v0_2 => L_P_spec_Hash_0 f0 n n (S_spec_Hash_0 v0_0 v0_1 v0_2)) a0 := by kernel_rfl
theorem said_spec_Hash (a0 : (List Int)) : Said Try.prog sigs_48 48 [.val (.slice 3 (.int .i64)) a0] [⟨(.int .i64), N.spec_Hash a0⟩] := said_len (T := tab) (A := A_spec_Hash) tabOk ok_spec_Hash tabOk.follows Try.func48 (by kernel_rfl) (by kernel_rfl) (fun hl => let ⟨n, hn⟩ := spec_Hash_ok (ρ := Ret) (fun r0 => some [⟨(.int .i64), r0⟩]) a0 hl.1; ⟨n, (aP_spec_Hash N.spec_Mod n a0).trans (hn n (Nat.le_refl n) (fun  m v0_0 v0_1 v0_2 => L_P_spec_Hash_0 N.spec_Mod n  m (S_spec_Hash_0 v0_0 v0_1 v0_2)) (fun  m v0_0 v0_1 v0_2 => bP_spec_Hash_0 N.spec_Mod n  m v0_0 v0_1 v0_2))⟩)
abbrev G.spec_KeyedHash (key : Int) (l : List Int) : Bool := decide (l.length ≤ 2097152)
abbrev N.spec_KeyedHash (key : Int) (l : List Int) : Int := keyedHash key l
def spec_KeyedHash {ρ : Type} (k : Int → Option ρ) (a0 : Int) (a1 : (List Int)) : Option ρ := (cond (fit (List.length [a0]) (List.length a1)) (cond (fit (List.length (List.append [a0] a1)) (List.length [a0])) (k (N.spec_Hash (List.append (List.append [a0] a1) [a0]))) none) none)
theorem spec_KeyedHash_ok {ρ : Type} (k : Int → Option ρ) (a0 : Int) (a1 : (List Int)) (l_a1 : lnL (fun _ => True) a1) (g : G.spec_KeyedHash a0 a1 = true) : spec_KeyedHash k  a0 a1 = k (N.spec_KeyedHash a0 a1) := by
  unfold G.spec_KeyedHash at g
  have h : a1.length ≤ 2097152 := of_decide_eq_true g
  have f1 : fit (List.length [a0]) (List.length a1) = true := fit_of (by simp; omega)
  have f2 : fit (List.length (List.append [a0] a1)) (List.length [a0]) = true := fit_of (by simp; omega)
  show cond _ (cond _ _ none) none = _
  rw [f1, f2]
  rfl
def OP_spec_KeyedHash (f0 : (List Int) → Int) : Orac := (orcX 48 [.val (.slice 3 (.int .i64))] (fun d => true) (fun d => [⟨(.int .i64), f0 d.1⟩]) nilO)
def O_spec_KeyedHash : Orac := OP_spec_KeyedHash N.spec_Hash
def spec_KeyedHash_P {ρ : Type} (f0 : (List Int) → Int) (k : Int → Option ρ) (a0 : Int) (a1 : (List Int)) : Option ρ := (cond (fit (List.length [a0]) (List.length a1)) (cond (fit (List.length (List.append [a0] a1)) (List.length [a0])) (k (f0 (List.append (List.append [a0] a1) [a0]))) none) none)
theorem ok_spec_KeyedHash : OracOk Try.prog sigs O_spec_KeyedHash := (orcX_ok rfl rfl (fun d g => said_spec_Hash d.1) nilO_ok)
def A_spec_KeyedHash : Ann := fun b => ⟨[], []⟩
theorem aP_spec_KeyedHash (f0 : (List Int) → Int) (n : Nat) (a0 : Int) (a1 : (List Int)) : absF tab sigs (OP_spec_KeyedHash f0) A_spec_KeyedHash Try.f130 [((.int .i64), .no)] n [.val (.int .i64) a0, .val (.slice 3 (.int .i64)) a1] = spec_KeyedHash_P f0 (fun r0 => some [⟨(.int .i64), r0⟩])  a0 a1 := by kernel_rfl
theorem said_spec_KeyedHash (a0 : Int) (a1 : (List Int)) (g : G.spec_KeyedHash a0 a1 = true) : Said Try.prog sigs_130 130 [.val (.int .i64) a0, .val (.slice 3 (.int .i64)) a1] [⟨(.int .i64), N.spec_KeyedHash a0 a1⟩] := said_len (T := tab) (A := A_spec_KeyedHash) tabOk ok_spec_KeyedHash tabOk.follows Try.func130 (by kernel_rfl) (by kernel_rfl) (fun hl => ⟨0, (aP_spec_KeyedHash N.spec_Hash 0 a0 a1).trans (spec_KeyedHash_ok (ρ := Ret) (fun r0 => some [⟨(.int .i64), r0⟩]) a0 a1 hl.2.1 g)⟩)
abbrev G.spec_TagOf (key : Int) (l : List Int) : Bool := decide (l.length ≤ 2097000)
abbrev N.spec_TagOf (key : Int) (l : List Int) : Int := tagOf key l
def spec_TagOf {ρ : Type} (k : Int → Option ρ) (a0 : Int) (a1 : (List Int)) : Option ρ := (cond (fit (List.length [(223 : Int)]) (List.length a1)) (cond (G.spec_KeyedHash a0 (List.append [(223 : Int)] a1)) (k (N.spec_KeyedHash a0 (List.append [(223 : Int)] a1))) none) none)
theorem spec_TagOf_ok {ρ : Type} (k : Int → Option ρ) (a0 : Int) (a1 : (List Int)) (l_a1 : lnL (fun _ => True) a1) (g : G.spec_TagOf a0 a1 = true) : spec_TagOf k  a0 a1 = k (N.spec_TagOf a0 a1) := by
  unfold G.spec_TagOf at g
  have h : a1.length ≤ 2097000 := of_decide_eq_true g
  have f1 : fit (List.length [(223 : Int)]) (List.length a1) = true := fit_of (by simp; omega)
  have g1 : G.spec_KeyedHash a0 (List.append [(223 : Int)] a1) = true := decide_eq_true (by simp; omega)
  show cond _ (cond _ _ none) none = _
  rw [f1, g1]
  rfl
def OP_spec_TagOf (f0 : Int → (List Int) → Int) (g0 : Int → (List Int) → Bool) : Orac := (orcX 130 [.val (.int .i64), .val (.slice 3 (.int .i64))] (fun d => g0 d.1 d.2.1) (fun d => [⟨(.int .i64), f0 d.1 d.2.1⟩]) nilO)
def O_spec_TagOf : Orac := OP_spec_TagOf N.spec_KeyedHash G.spec_KeyedHash
def spec_TagOf_P {ρ : Type} (f0 : Int → (List Int) → Int) (g0 : Int → (List Int) → Bool) (k : Int → Option ρ) (a0 : Int) (a1 : (List Int)) : Option ρ := (cond (fit (List.length [(223 : Int)]) (List.length a1)) (cond (g0 a0 (List.append [(223 : Int)] a1)) (k (f0 a0 (List.append [(223 : Int)] a1))) none) none)
theorem ok_spec_TagOf : OracOk Try.prog sigs O_spec_TagOf := (orcX_ok rfl rfl (fun d g => said_spec_KeyedHash d.1 d.2.1 g) nilO_ok)
def A_spec_TagOf : Ann := fun b => ⟨[], []⟩
theorem aP_spec_TagOf (f0 : Int → (List Int) → Int) (g0 : Int → (List Int) → Bool) (n : Nat) (a0 : Int) (a1 : (List Int)) : absF tab sigs (OP_spec_TagOf f0 g0) A_spec_TagOf Try.f104 [((.int .i64), .no)] n [.val (.int .i64) a0, .val (.slice 3 (.int .i64)) a1] = spec_TagOf_P f0 g0 (fun r0 => some [⟨(.int .i64), r0⟩])  a0 a1 := by kernel_rfl
theorem said_spec_TagOf (a0 : Int) (a1 : (List Int)) (g : G.spec_TagOf a0 a1 = true) : Said Try.prog sigs_104 104 [.val (.int .i64) a0, .val (.slice 3 (.int .i64)) a1] [⟨(.int .i64), N.spec_TagOf a0 a1⟩] := said_len (T := tab) (A := A_spec_TagOf) tabOk ok_spec_TagOf tabOk.follows Try.func104 (by kernel_rfl) (by kernel_rfl) (fun hl => ⟨0, (aP_spec_TagOf N.spec_KeyedHash G.spec_KeyedHash 0 a0 a1).trans (spec_TagOf_ok (ρ := Ret) (fun r0 => some [⟨(.int .i64), r0⟩]) a0 a1 hl.2.1 g)⟩)
abbrev G.spec_SignBy (h : List Int) (p : TKeys) (msg : List Int) : Bool := decide (p.1.length ≤ 1048576) && decide (msg.length ≤ 2097000)
abbrev N.spec_SignBy (h : List Int) (p : TKeys) (msg : List Int) : List TSig := signBy h p msg
def spec_SignBy_P_L0 {ρ : Type} (f0 : (List Int) → Int → Bool) (f1 : Int → (List Int) → Int) (g1 : Int → (List Int) → Bool) (k : (List TSig) → Option ρ) (L0 : (List Int) → (List Int) → Int → TKeys → (List TSig) → Option ρ) (v0_0 : (List Int)) (v0_1 : (List Int)) (v0_2 : Int) (v0_3 : TKeys) (v0_4 : (List TSig)) : Option ρ := (cond (decide (v0_2 < (List.length v0_3.1 : Int))) (cond (inRange v0_2 (List.length v0_3.1)) (cond (f0 v0_0 (List.getD v0_3.1 (Int.toNat v0_2) (0 : Int))) (cond (inRange v0_2 (List.length v0_3.1)) (cond (inRange v0_2 (List.length v0_3.1)) (cond (g1 (List.getD v0_3.1 (Int.toNat v0_2) (0 : Int)) v0_1) (cond (fit (List.length v0_4) (List.length [((List.getD v0_3.1 (Int.toNat v0_2) (0 : Int)), (f1 (List.getD v0_3.1 (Int.toNat v0_2) (0 : Int)) v0_1))])) (L0 v0_0 v0_1 (IntKind.wrap .i64 (v0_2 + (1 : Int))) v0_3 (List.append v0_4 [((List.getD v0_3.1 (Int.toNat v0_2) (0 : Int)), (f1 (List.getD v0_3.1 (Int.toNat v0_2) (0 : Int)) v0_1))])) none) none) none) none) (L0 v0_0 v0_1 (IntKind.wrap .i64 (v0_2 + (1 : Int))) v0_3 v0_4)) none) (k v0_4))
def spec_SignBy_P {ρ : Type} (f0 : (List Int) → Int → Bool) (f1 : Int → (List Int) → Int) (g1 : Int → (List Int) → Bool) (k : (List TSig) → Option ρ) (L0 : (List Int) → (List Int) → Int → TKeys → (List TSig) → Option ρ) (a0 : (List Int)) (a1 : TKeys) (a2 : (List Int)) : Option ρ := (L0 a0 a2 (0 : Int) a1 ([] : (List (Int × Int))))
def spec_SignBy_L0 {ρ : Type} (k : (List TSig) → Option ρ) (L0 : (List Int) → (List Int) → Int → TKeys → (List TSig) → Option ρ) (v0_0 : (List Int)) (v0_1 : (List Int)) (v0_2 : Int) (v0_3 : TKeys) (v0_4 : (List TSig)) : Option ρ := spec_SignBy_P_L0 N.spec_l6Has N.spec_TagOf G.spec_TagOf k L0 v0_0 v0_1 v0_2 v0_3 v0_4
def spec_SignBy {ρ : Type} (k : (List TSig) → Option ρ) (L0 : (List Int) → (List Int) → Int → TKeys → (List TSig) → Option ρ) (a0 : (List Int)) (a1 : TKeys) (a2 : (List Int)) : Option ρ := spec_SignBy_P N.spec_l6Has N.spec_TagOf G.spec_TagOf k L0 a0 a1 a2
theorem spec_SignBy_ok {ρ : Type} (k : (List TSig) → Option ρ) (a0 : (List Int)) (a1 : TKeys) (a2 : (List Int)) (l_a0 : lnL (fun _ => True) a0) (l_a1 : (lnL (fun _ => True) a1.1 ∧ True)) (l_a2 : lnL (fun _ => True) a2) (g : G.spec_SignBy a0 a1 a2 = true) : ∃ n0, ∀ n, n0 ≤ n → ∀ (L0 : Nat → (List Int) → (List Int) → Int → TKeys → (List TSig) → Option ρ) (h0 : ∀ ( m : Nat) (v0_0 : (List Int)) (v0_1 : (List Int)) (v0_2 : Int) (v0_3 : TKeys) (v0_4 : (List TSig)), L0 (m + 1) v0_0 v0_1 v0_2 v0_3 v0_4 = spec_SignBy_L0 k (L0 m) v0_0 v0_1 v0_2 v0_3 v0_4), spec_SignBy k (L0 n) a0 a1 a2 = k (N.spec_SignBy a0 a1 a2) := by
  unfold G.spec_SignBy at g
  obtain ⟨g1, g2⟩ := (Bool.and_eq_true _ _).mp g
  have g1 : a1.1.length ≤ 1048576 := of_decide_eq_true g1
  refine ⟨a1.1.length + 1, fun n hn L0 h0 => ?_⟩
  refine raw_filter (a := a1.1) 0 (fun key => match hasInt a0 key with | true => some (key, tagOf key a2) | false => none) 1048576 (k := k) (L := fun m i o => L0 m a0 a2 i a1 o) (R := fun i o c => spec_SignBy_L0 k (fun _ _ i _ o => c i o) a0 a2 i a1 o) (fun m i s => h0 m a0 a2 i a1 s) (fun j o c hj ho => ?_) (fun o c => ?_) g1 hn
  · have hf : fit (List.length o) (List.length [(a1.1.getD j 0, tagOf (a1.1.getD j 0) a2)]) = true := fit_of (by simp; omega)
    simp only [spec_SignBy_L0, spec_SignBy_P_L0, lt_nat, inRange_nat, decide_eq_true hj, cond_true, Int.toNat_natCast, wrap_succ (j := j) (by unfold big; omega), N.spec_l6Has, N.spec_TagOf, G.spec_TagOf, g2, hf]
    cases hasInt a0 (a1.1.getD j 0) <;> rfl
  · simp [spec_SignBy_L0, spec_SignBy_P_L0]
def OP_spec_SignBy (f0 : (List Int) → Int → Bool) (f1 : Int → (List Int) → Int) (g1 : Int → (List Int) → Bool) : Orac := (orcX 104 [.val (.int .i64), .val (.slice 3 (.int .i64))] (fun d => g1 d.1 d.2.1) (fun d => [⟨(.int .i64), f1 d.1 d.2.1⟩]) (orcX 135 [.val (.slice 3 (.int .i64)), .val (.int .i64)] (fun d => true) (fun d => [⟨.bool, f0 d.1 d.2.1⟩]) nilO))
def O_spec_SignBy : Orac := OP_spec_SignBy N.spec_l6Has N.spec_TagOf G.spec_TagOf
theorem ok_spec_SignBy : OracOk Try.prog sigs O_spec_SignBy := (orcX_ok rfl rfl (fun d g => said_spec_TagOf d.1 d.2.1 g) (orcX_ok rfl rfl (fun d g => said_spec_l6Has d.1 d.2.1) nilO_ok))
def A_spec_SignBy : Ann := fun b => cond (Nat.beq b 0) ⟨[(0, false), (2, false), (4, false), (7, true), (8, false)], [(4, false)]⟩ (⟨[], []⟩)
def S_spec_SignBy_0 (v0_0 : (List Int)) (v0_1 : (List Int)) (v0_2 : Int) (v0_3 : TKeys) (v0_4 : (List TSig)) : St := [(kT 0, some (.tv (.v (.slice 3 (.int .i64)) v0_0 .no))), (kT 2, some (.tv (.v (.slice 3 (.int .i64)) v0_1 .no))), (kT 4, some (.tv (.box 4 []))), (kT 7, some (.tv (.v (.slice 64 (.pair (.int .i64) (.int .i64))) [] (.own 56)))), (kT 8, some (.tv (.v (.int .i64) v0_2 .no))), (kB 4, some (.box (.pair (.slice 3 (.int .i64)) (.int .i64)) v0_3 .no)), (kR 56, some (.row 64 (.pair (.int .i64) (.int .i64)) v0_4))]
noncomputable def L_P_spec_SignBy_0 (f0 : (List Int) → Int → Bool) (f1 : Int → (List Int) → Int) (g1 : Int → (List Int) → Bool) (n m : Nat) : St → Option Ret := loopOf tab sigs (OP_spec_SignBy f0 f1 g1) A_spec_SignBy Try.f116 [((.slice 64 (.pair (.int .i64) (.int .i64))), (.own 0))] n (fun _ => 0) 0 m
theorem bP_spec_SignBy_0 (f0 : (List Int) → Int → Bool) (f1 : Int → (List Int) → Int) (g1 : Int → (List Int) → Bool) (n m : Nat) (v0_0 : (List Int)) (v0_1 : (List Int)) (v0_2 : Int) (v0_3 : TKeys) (v0_4 : (List TSig)) : L_P_spec_SignBy_0 f0 f1 g1 n (m + 1) (S_spec_SignBy_0 v0_0 v0_1 v0_2 v0_3 v0_4) = spec_SignBy_P_L0 f0 f1 g1 (fun r0 => some [⟨(.slice 64 (.pair (.int .i64) (.int .i64))), r0⟩]) (fun v0_0 v0_1 v0_2 v0_3 v0_4 => L_P_spec_SignBy_0 f0 f1 g1 n m (S_spec_SignBy_0 v0_0 v0_1 v0_2 v0_3 v0_4)) v0_0 v0_1 v0_2 v0_3 v0_4 := by kernel_rfl
theorem aP_spec_SignBy (f0 : (List Int) → Int → Bool) (f1 : Int → (List Int) → Int) (g1 : Int → (List Int) → Bool) (n : Nat) (a0 : (List Int)) (a1 : TKeys) (a2 : (List Int)) : absF tab sigs (OP_spec_SignBy f0 f1 g1) A_spec_SignBy Try.f116 [((.slice 64 (.pair (.int .i64) (.int .i64))), (.own 0))] n [.val (.slice 3 (.int .i64)) a0, .val (.pair (.slice 3 (.int .i64)) (.int .i64)) a1, .val (.slice 3 (.int .i64)) a2] = spec_SignBy_P f0 f1 g1 (fun r0 => some [⟨(.slice 64 (.pair (.int .i64) (.int .i64))), r0⟩]) (fun v0_0 v0_1 v0_2 v0_3 v0_4 => L_P_spec_SignBy_0 f0 f1 g1 n n (S_spec_SignBy_0 v0_0 v0_1 v0_2 v0_3 v0_4)) a0 a1 a2 := by kernel_rfl
theorem said_spec_SignBy (a0 : (List Int)) (a1 : TKeys) (a2 : (List Int)) (g : G.spec_SignBy a0 a1 a2 = true) : Said Try.prog sigs_116 116 [.val (.slice 3 (.int .i64)) a0, .val (.pair (.slice 3 (.int .i64)) (.int .i64)) a1, .val (.slice 3 (.int .i64)) a2] [⟨(.slice 64 (.pair (.int .i64) (.int .i64))), N.spec_SignBy a0 a1 a2⟩] := said_len (T := tab) (A := A_spec_SignBy) tabOk ok_spec_SignBy tabOk.follows Try.func116 (by kernel_rfl) (by kernel_rfl) (fun hl => let ⟨n, hn⟩ := spec_SignBy_ok (ρ := Ret) (fun r0 => some [⟨(.slice 64 (.pair (.int .i64) (.int .i64))), r0⟩]) a0 a1 a2 hl.1 hl.2.1 hl.2.2.1 g; ⟨n, (aP_spec_SignBy N.spec_l6Has N.spec_TagOf G.spec_TagOf n a0 a1 a2).trans (hn n (Nat.le_refl n) (fun  m v0_0 v0_1 v0_2 v0_3 v0_4 => L_P_spec_SignBy_0 N.spec_l6Has N.spec_TagOf G.spec_TagOf n  m (S_spec_SignBy_0 v0_0 v0_1 v0_2 v0_3 v0_4)) (fun  m v0_0 v0_1 v0_2 v0_3 v0_4 => bP_spec_SignBy_0 N.spec_l6Has N.spec_TagOf G.spec_TagOf n  m v0_0 v0_1 v0_2 v0_3 v0_4))⟩)
abbrev G.spec_l7Sigs (c : TCur) (k : TKeys) (msg : List Int) : Bool := okC c && (decide (k.1.length ≤ 1048576) && decide (msg.length ≤ 2097000))
abbrev N.spec_l7Sigs (c : TCur) (k : TKeys) (msg : List Int) : TCur × List TSig := sigsC c k msg
def spec_l7Sigs_P {ρ : Type} (f0 : TCur → (TCur × (List Int))) (g0 : TCur → Bool) (f1 : (List Int) → TKeys → (List Int) → (List TSig)) (g1 : (List Int) → TKeys → (List Int) → Bool) (f2 : TCur → Int → (TCur × Int)) (g2 : TCur → Int → Bool) (f3 : TCur → (List Int) → (TCur × Int)) (g3 : TCur → (List Int) → Bool) (k : TCur → (List TSig) → Option ρ) (a0 : TCur) (a1 : TKeys) (a2 : (List Int)) : Option ρ := (cond (g0 a0) (cond (g1 (f0 a0).2 a1 a2) (cond (g2 (f0 a0).1 (6 : Int)) (cond ((f2 (f0 a0).1 (6 : Int)).2 == (0 : Int)) (cond (g3 (f2 (f0 a0).1 (6 : Int)).1 [(0 : Int), (1 : Int), (2 : Int), (100 : Int)]) (cond (g2 (f3 (f2 (f0 a0).1 (6 : Int)).1 [(0 : Int), (1 : Int), (2 : Int), (100 : Int)]).1 (9 : Int)) (cond (fit (List.length (f1 (f0 a0).2 a1 a2)) (List.length [((f3 (f2 (f0 a0).1 (6 : Int)).1 [(0 : Int), (1 : Int), (2 : Int), (100 : Int)]).2, (f2 (f3 (f2 (f0 a0).1 (6 : Int)).1 [(0 : Int), (1 : Int), (2 : Int), (100 : Int)]).1 (9 : Int)).2)])) (k (f2 (f3 (f2 (f0 a0).1 (6 : Int)).1 [(0 : Int), (1 : Int), (2 : Int), (100 : Int)]).1 (9 : Int)).1 (List.append (f1 (f0 a0).2 a1 a2) [((f3 (f2 (f0 a0).1 (6 : Int)).1 [(0 : Int), (1 : Int), (2 : Int), (100 : Int)]).2, (f2 (f3 (f2 (f0 a0).1 (6 : Int)).1 [(0 : Int), (1 : Int), (2 : Int), (100 : Int)]).1 (9 : Int)).2)])) none) none) none) (cond ((f2 (f0 a0).1 (6 : Int)).2 == (1 : Int)) (cond (fit (List.length (f1 (f0 a0).2 a1 a2)) (List.length (f1 (f0 a0).2 a1 a2))) (k (f2 (f0 a0).1 (6 : Int)).1 (List.append (f1 (f0 a0).2 a1 a2) (f1 (f0 a0).2 a1 a2))) none) (cond ((f2 (f0 a0).1 (6 : Int)).2 == (2 : Int)) (cond (decide ((List.length (f1 (f0 a0).2 a1 a2) : Int) > (0 : Int))) (cond (inRange (0 : Int) (List.length (f1 (f0 a0).2 a1 a2))) (cond (inRange (0 : Int) (List.length (f1 (f0 a0).2 a1 a2))) (cond (inRange (0 : Int) (List.length (f1 (f0 a0).2 a1 a2))) (cond (inRange (0 : Int) (List.length (f1 (f0 a0).2 a1 a2))) (k (f2 (f0 a0).1 (6 : Int)).1 (List.set (f1 (f0 a0).2 a1 a2) (Int.toNat (0 : Int)) ((List.getD (f1 (f0 a0).2 a1 a2) 0 ((0 : Int), (0 : Int))).1, (IntKind.wrap .i64 ((List.getD (f1 (f0 a0).2 a1 a2) 0 ((0 : Int), (0 : Int))).2 + (1 : Int)))))) none) none) none) none) (k (f2 (f0 a0).1 (6 : Int)).1 (f1 (f0 a0).2 a1 a2))) (k (f2 (f0 a0).1 (6 : Int)).1 (f1 (f0 a0).2 a1 a2))))) none) none) none)
def spec_l7Sigs {ρ : Type} (k : TCur → (List TSig) → Option ρ) (a0 : TCur) (a1 : TKeys) (a2 : (List Int)) : Option ρ := spec_l7Sigs_P N.spec_l6Held G.spec_l6Held N.spec_SignBy G.spec_SignBy N.spec_l1Below G.spec_l1Below N.spec_l1Int G.spec_l1Int k a0 a1 a2
theorem spec_l7Sigs_ok {ρ : Type} (k : TCur → (List TSig) → Option ρ) (a0 : TCur) (a1 : TKeys) (a2 : (List Int)) (l_a0 : (lnL (fun _ => True) a0.1 ∧ (True ∧ True))) (l_a1 : (lnL (fun _ => True) a1.1 ∧ True)) (l_a2 : lnL (fun _ => True) a2) (g : G.spec_l7Sigs a0 a1 a2 = true) : spec_l7Sigs k  a0 a1 a2 = k (N.spec_l7Sigs a0 a1 a2).1 (N.spec_l7Sigs a0 a1 a2).2 := by
  unfold G.spec_l7Sigs at g
  obtain ⟨g1, g2⟩ := (Bool.and_eq_true _ _).mp g
  obtain ⟨g3, g4⟩ := (Bool.and_eq_true _ _).mp g2
  have h1 := okC_held g1
  have h2 := okC_below 6 h1
  have hs := signBy_le (heldC a0).2 a1 a2
  have hk := of_decide_eq_true g3
  simp only [spec_l7Sigs, spec_l7Sigs_P, G.spec_l6Held, N.spec_l6Held, G.spec_SignBy, N.spec_SignBy, G.spec_l1Below, N.spec_l1Below, G.spec_l1Int, N.spec_l1Int, g1, g3, g4, h1, h2, Bool.and_self, okC_int _ h2, cond_true]
  show _ = k (sigsP (heldC a0) a1 a2).1 (sigsP (heldC a0) a1 a2).2
  unfold sigsP
  have f1 : ∀ x : TSig, fit (List.length (signBy (heldC a0).2 a1 a2)) (List.length [x]) = true := fun x => fit_of (by simp; omega)
  have f2 : fit (List.length (signBy (heldC a0).2 a1 a2)) (List.length (signBy (heldC a0).2 a1 a2)) = true := fit_of (by omega)
  cases ((belowC (heldC a0).1 6).2 == 0) with
  | true => simp only [f1, List.length_cons, List.length_nil, Nat.zero_add, Nat.reduceAdd, Nat.reduceLT, decide_true, Bool.and_true, cond_true]; rw [show fit (signBy (heldC a0).2 a1 a2).length 1 = true from f1 (0, 0)]; rfl
  | false =>
    cases ((belowC (heldC a0).1 6).2 == 1) with
    | true => simp only [f2, cond_true, cond_false]
    | false =>
      cases ((belowC (heldC a0).1 6).2 == 2) with
      | false => rfl
      | true =>
        cases hd : decide (((signBy (heldC a0).2 a1 a2).length : Int) > 0) with
        | false => rfl
        | true =>
          have hi : inRange (0 : Int) (List.length (signBy (heldC a0).2 a1 a2)) = true := by
            unfold inRange
            have := of_decide_eq_true hd
            rw [decide_eq_true (show (0 : Int) ≤ 0 by omega), decide_eq_true (show (0 : Int) < ((signBy (heldC a0).2 a1 a2).length : Int) by omega)]
            rfl
          simp only [hi, cond_true, cond_false]
def OP_spec_l7Sigs (f0 : TCur → (TCur × (List Int))) (g0 : TCur → Bool) (f1 : (List Int) → TKeys → (List Int) → (List TSig)) (g1 : (List Int) → TKeys → (List Int) → Bool) (f2 : TCur → Int → (TCur × Int)) (g2 : TCur → Int → Bool) (f3 : TCur → (List Int) → (TCur × Int)) (g3 : TCur → (List Int) → Bool) : Orac := (orcX 49 [.lend (.pair (.slice 5 (.int .u8)) (.pair (.int .i64) (.int .i64))) .no, .val (.slice 3 (.int .i64))] (fun d => g3 d.1 d.2.1) (fun d => [⟨(.pair (.slice 5 (.int .u8)) (.pair (.int .i64) (.int .i64))), (f3 d.1 d.2.1).1⟩, ⟨(.int .i64), (f3 d.1 d.2.1).2⟩]) (orcX 42 [.lend (.pair (.slice 5 (.int .u8)) (.pair (.int .i64) (.int .i64))) .no, .val (.int .i64)] (fun d => g2 d.1 d.2.1) (fun d => [⟨(.pair (.slice 5 (.int .u8)) (.pair (.int .i64) (.int .i64))), (f2 d.1 d.2.1).1⟩, ⟨(.int .i64), (f2 d.1 d.2.1).2⟩]) (orcX 116 [.val (.slice 3 (.int .i64)), .val (.pair (.slice 3 (.int .i64)) (.int .i64)), .val (.slice 3 (.int .i64))] (fun d => g1 d.1 d.2.1 d.2.2.1) (fun d => [⟨(.slice 64 (.pair (.int .i64) (.int .i64))), f1 d.1 d.2.1 d.2.2.1⟩]) (orcX 117 [.lend (.pair (.slice 5 (.int .u8)) (.pair (.int .i64) (.int .i64))) .no] (fun d => g0 d.1) (fun d => [⟨(.pair (.slice 5 (.int .u8)) (.pair (.int .i64) (.int .i64))), (f0 d.1).1⟩, ⟨(.slice 3 (.int .i64)), (f0 d.1).2⟩]) nilO))))
def O_spec_l7Sigs : Orac := OP_spec_l7Sigs N.spec_l6Held G.spec_l6Held N.spec_SignBy G.spec_SignBy N.spec_l1Below G.spec_l1Below N.spec_l1Int G.spec_l1Int
theorem ok_spec_l7Sigs : OracOk Try.prog sigs O_spec_l7Sigs := (orcB_ok rfl (fun d g => said_spec_l1Int d.1 d.2.1 g) (orcB_ok rfl (fun d g => said_spec_l1Below d.1 d.2.1 g) (orcX_ok rfl rfl (fun d g => said_spec_SignBy d.1 d.2.1 d.2.2.1 g) (orcB_ok rfl (fun d g => said_spec_l6Held d.1 g) nilO_ok))))
def A_spec_l7Sigs : Ann := fun b => ⟨[], []⟩
theorem aP_spec_l7Sigs (f0 : TCur → (TCur × (List Int))) (g0 : TCur → Bool) (f1 : (List Int) → TKeys → (List Int) → (List TSig)) (g1 : (List Int) → TKeys → (List Int) → Bool) (f2 : TCur → Int → (TCur × Int)) (g2 : TCur → Int → Bool) (f3 : TCur → (List Int) → (TCur × Int)) (g3 : TCur → (List Int) → Bool) (n : Nat) (a0 : TCur) (a1 : TKeys) (a2 : (List Int)) : absFB tab sigs (OP_spec_l7Sigs f0 g0 f1 g1 f2 g2 f3 g3) A_spec_l7Sigs Try.f100 [((.slice 64 (.pair (.int .i64) (.int .i64))), (.own 0))] n (.pair (.slice 5 (.int .u8)) (.pair (.int .i64) (.int .i64))) a0 [.val (.pair (.slice 3 (.int .i64)) (.int .i64)) a1, .val (.slice 3 (.int .i64)) a2] = spec_l7Sigs_P f0 g0 f1 g1 f2 g2 f3 g3 (fun r0 r1 => some [⟨(.pair (.slice 5 (.int .u8)) (.pair (.int .i64) (.int .i64))), r0⟩, ⟨(.slice 64 (.pair (.int .i64) (.int .i64))), r1⟩])  a0 a1 a2 := by kernel_rfl
theorem said_spec_l7Sigs (a0 : TCur) (a1 : TKeys) (a2 : (List Int)) (g : G.spec_l7Sigs a0 a1 a2 = true) : SaidP Try.prog sigs_100 100 (.pair (.slice 5 (.int .u8)) (.pair (.int .i64) (.int .i64))) a0 [.val (.pair (.slice 3 (.int .i64)) (.int .i64)) a1, .val (.slice 3 (.int .i64)) a2] [⟨(.pair (.slice 5 (.int .u8)) (.pair (.int .i64) (.int .i64))), (N.spec_l7Sigs a0 a1 a2).1⟩, ⟨(.slice 64 (.pair (.int .i64) (.int .i64))), (N.spec_l7Sigs a0 a1 a2).2⟩] := said_lenB (T := tab) (A := A_spec_l7Sigs) tabOk ok_spec_l7Sigs tabOk.follows Try.func100 (by kernel_rfl) (by kernel_rfl) (fun hl => ⟨0, (aP_spec_l7Sigs N.spec_l6Held G.spec_l6Held N.spec_SignBy G.spec_SignBy N.spec_l1Below G.spec_l1Below N.spec_l1Int G.spec_l1Int 0 a0 a1 a2).trans (spec_l7Sigs_ok (ρ := Ret) (fun r0 r1 => some [⟨(.pair (.slice 5 (.int .u8)) (.pair (.int .i64) (.int .i64))), r0⟩, ⟨(.slice 64 (.pair (.int .i64) (.int .i64))), r1⟩]) a0 a1 a2 hl.1 hl.2.1 hl.2.2.1 g)⟩)
abbrev G.spec_DrawCountSigs (l : List Int) : Bool := decide (l.length ≤ 1048576)
abbrev N.spec_DrawCountSigs (l : List Int) : TKeys × (List Int × List TSig) := countD l
def spec_DrawCountSigs_P {ρ : Type} (f0 : (List Int) → TCur) (g0 : (List Int) → Bool) (f1 : TCur → (TCur × TKeys)) (g1 : TCur → Bool) (f2 : TCur → (TCur × (List Int))) (g2 : TCur → Bool) (f3 : TCur → TKeys → (List Int) → (TCur × (List TSig))) (g3 : TCur → TKeys → (List Int) → Bool) (k : TKeys → (List Int) → (List TSig) → Option ρ) (a0 : (List Int)) : Option ρ := (cond (g0 a0) (cond (g1 (f0 a0)) (cond (g2 (f1 (f0 a0)).1) (cond (g3 (f2 (f1 (f0 a0)).1).1 (f1 (f0 a0)).2 (f2 (f1 (f0 a0)).1).2) (k (f1 (f0 a0)).2 (f2 (f1 (f0 a0)).1).2 (f3 (f2 (f1 (f0 a0)).1).1 (f1 (f0 a0)).2 (f2 (f1 (f0 a0)).1).2).2) none) none) none) none)
def spec_DrawCountSigs {ρ : Type} (k : TKeys → (List Int) → (List TSig) → Option ρ) (a0 : (List Int)) : Option ρ := spec_DrawCountSigs_P N.spec_l1New G.spec_l1New N.spec_l6Any G.spec_l6Any N.spec_l7Message G.spec_l7Message N.spec_l7Sigs G.spec_l7Sigs k a0
theorem spec_DrawCountSigs_ok {ρ : Type} (k : TKeys → (List Int) → (List TSig) → Option ρ) (a0 : (List Int)) (l_a0 : lnL (fun _ => True) a0) (g : G.spec_DrawCountSigs a0 = true) : spec_DrawCountSigs k  a0 = k (N.spec_DrawCountSigs a0).1 (N.spec_DrawCountSigs a0).2.1 (N.spec_DrawCountSigs a0).2.2 := by
  unfold G.spec_DrawCountSigs at g
  have h0 := okC_new (of_decide_eq_true g)
  have h1 := okC_anyK h0
  have h2 := okC_msg h1
  have hl := countD_le a0
  have d1 : decide ((anyK (newC a0)).2.1.length ≤ 1048576) = true := decide_eq_true (by have : (anyK (newC a0)).2.1.length ≤ 4 := hl.1; omega)
  have d2 : decide ((msgC (anyK (newC a0)).1).2.length ≤ 2097000) = true := decide_eq_true (by have : (msgC (anyK (newC a0)).1).2.length ≤ 4 := hl.2.1; omega)
  simp only [spec_DrawCountSigs, spec_DrawCountSigs_P, G.spec_l1New, N.spec_l1New, G.spec_l6Any, N.spec_l6Any, G.spec_l7Message, N.spec_l7Message, G.spec_l7Sigs, N.spec_l7Sigs, g, h0, h1, h2, d1, d2, Bool.and_self, cond_true]
  rfl
def OP_spec_DrawCountSigs (f0 : (List Int) → TCur) (g0 : (List Int) → Bool) (f1 : TCur → (TCur × TKeys)) (g1 : TCur → Bool) (f2 : TCur → (TCur × (List Int))) (g2 : TCur → Bool) (f3 : TCur → TKeys → (List Int) → (TCur × (List TSig))) (g3 : TCur → TKeys → (List Int) → Bool) : Orac := (orcX 100 [.lend (.pair (.slice 5 (.int .u8)) (.pair (.int .i64) (.int .i64))) .no, .val (.pair (.slice 3 (.int .i64)) (.int .i64)), .val (.slice 3 (.int .i64))] (fun d => g3 d.1 d.2.1 d.2.2.1) (fun d => [⟨(.pair (.slice 5 (.int .u8)) (.pair (.int .i64) (.int .i64))), (f3 d.1 d.2.1 d.2.2.1).1⟩, ⟨(.slice 64 (.pair (.int .i64) (.int .i64))), (f3 d.1 d.2.1 d.2.2.1).2⟩]) (orcX 99 [.lend (.pair (.slice 5 (.int .u8)) (.pair (.int .i64) (.int .i64))) .no] (fun d => g2 d.1) (fun d => [⟨(.pair (.slice 5 (.int .u8)) (.pair (.int .i64) (.int .i64))), (f2 d.1).1⟩, ⟨(.slice 3 (.int .i64)), (f2 d.1).2⟩]) (orcX 98 [.lend (.pair (.slice 5 (.int .u8)) (.pair (.int .i64) (.int .i64))) .no] (fun d => g1 d.1) (fun d => [⟨(.pair (.slice 5 (.int .u8)) (.pair (.int .i64) (.int .i64))), (f1 d.1).1⟩, ⟨(.pair (.slice 3 (.int .i64)) (.int .i64)), (f1 d.1).2⟩]) (orcX 40 [.lend .bool .nil, .val (.slice 5 (.int .u8))] (fun d => g0 d.2.1) (fun d => [⟨(.pair (.slice 5 (.int .u8)) (.pair (.int .i64) (.int .i64))), f0 d.2.1⟩]) nilO))))
def O_spec_DrawCountSigs : Orac := OP_spec_DrawCountSigs N.spec_l1New G.spec_l1New N.spec_l6Any G.spec_l6Any N.spec_l7Message G.spec_l7Message N.spec_l7Sigs G.spec_l7Sigs
theorem ok_spec_DrawCountSigs : OracOk Try.prog sigs O_spec_DrawCountSigs := (orcB_ok rfl (fun d g => said_spec_l7Sigs d.1 d.2.1 d.2.2.1 g) (orcB_ok rfl (fun d g => said_spec_l7Message d.1 g) (orcB_ok rfl (fun d g => said_spec_l6Any d.1 g) (orcN_ok rfl (fun d g => said_spec_l1New d.2.1 g) nilO_ok))))
def A_spec_DrawCountSigs : Ann := fun b => ⟨[], []⟩
theorem aP_spec_DrawCountSigs (f0 : (List Int) → TCur) (g0 : (List Int) → Bool) (f1 : TCur → (TCur × TKeys)) (g1 : TCur → Bool) (f2 : TCur → (TCur × (List Int))) (g2 : TCur → Bool) (f3 : TCur → TKeys → (List Int) → (TCur × (List TSig))) (g3 : TCur → TKeys → (List Int) → Bool) (n : Nat) (a0 : (List Int)) : absF tab sigs (OP_spec_DrawCountSigs f0 g0 f1 g1 f2 g2 f3 g3) A_spec_DrawCountSigs Try.f72 [((.pair (.slice 3 (.int .i64)) (.int .i64)), .no), ((.slice 3 (.int .i64)), .no), ((.slice 64 (.pair (.int .i64) (.int .i64))), .no)] n [.val (.slice 5 (.int .u8)) a0] = spec_DrawCountSigs_P f0 g0 f1 g1 f2 g2 f3 g3 (fun r0 r1 r2 => some [⟨(.pair (.slice 3 (.int .i64)) (.int .i64)), r0⟩, ⟨(.slice 3 (.int .i64)), r1⟩, ⟨(.slice 64 (.pair (.int .i64) (.int .i64))), r2⟩])  a0 := by kernel_rfl
theorem said_spec_DrawCountSigs (a0 : (List Int)) (g : G.spec_DrawCountSigs a0 = true) : Said Try.prog sigs_72 72 [.val (.slice 5 (.int .u8)) a0] [⟨(.pair (.slice 3 (.int .i64)) (.int .i64)), (N.spec_DrawCountSigs a0).1⟩, ⟨(.slice 3 (.int .i64)), (N.spec_DrawCountSigs a0).2.1⟩, ⟨(.slice 64 (.pair (.int .i64) (.int .i64))), (N.spec_DrawCountSigs a0).2.2⟩] := said_len (T := tab) (A := A_spec_DrawCountSigs) tabOk ok_spec_DrawCountSigs tabOk.follows Try.func72 (by kernel_rfl) (by kernel_rfl) (fun hl => ⟨0, (aP_spec_DrawCountSigs N.spec_l1New G.spec_l1New N.spec_l6Any G.spec_l6Any N.spec_l7Message G.spec_l7Message N.spec_l7Sigs G.spec_l7Sigs 0 a0).trans (spec_DrawCountSigs_ok (ρ := Ret) (fun r0 r1 r2 => some [⟨(.pair (.slice 3 (.int .i64)) (.int .i64)), r0⟩, ⟨(.slice 3 (.int .i64)), r1⟩, ⟨(.slice 64 (.pair (.int .i64) (.int .i64))), r2⟩]) a0 hl.1 g)⟩)
abbrev G.spec_DrawSignersOf (l : List Int) : Bool := decide (l.length ≤ 1048576)
abbrev N.spec_DrawSignersOf (l : List Int) : List Int × List TSig := (countD l).2
def spec_DrawSignersOf {ρ : Type} (k : (List Int) → (List TSig) → Option ρ) (a0 : (List Int)) : Option ρ := (cond (G.spec_DrawCountSigs a0) (k (N.spec_DrawCountSigs a0).2.1 (N.spec_DrawCountSigs a0).2.2) none)
theorem spec_DrawSignersOf_ok {ρ : Type} (k : (List Int) → (List TSig) → Option ρ) (a0 : (List Int)) (l_a0 : lnL (fun _ => True) a0) (g : G.spec_DrawSignersOf a0 = true) : spec_DrawSignersOf k  a0 = k (N.spec_DrawSignersOf a0).1 (N.spec_DrawSignersOf a0).2 := by
  unfold G.spec_DrawSignersOf at g
  simp only [spec_DrawSignersOf, G.spec_DrawCountSigs, N.spec_DrawCountSigs, g, cond_true]
def OP_spec_DrawSignersOf (f0 : (List Int) → (TKeys × (List Int) × (List TSig))) (g0 : (List Int) → Bool) : Orac := (orcX 72 [.val (.slice 5 (.int .u8))] (fun d => g0 d.1) (fun d => [⟨(.pair (.slice 3 (.int .i64)) (.int .i64)), (f0 d.1).1⟩, ⟨(.slice 3 (.int .i64)), (f0 d.1).2.1⟩, ⟨(.slice 64 (.pair (.int .i64) (.int .i64))), (f0 d.1).2.2⟩]) nilO)
def O_spec_DrawSignersOf : Orac := OP_spec_DrawSignersOf N.spec_DrawCountSigs G.spec_DrawCountSigs
def spec_DrawSignersOf_P {ρ : Type} (f0 : (List Int) → (TKeys × (List Int) × (List TSig))) (g0 : (List Int) → Bool) (k : (List Int) → (List TSig) → Option ρ) (a0 : (List Int)) : Option ρ := (cond (g0 a0) (k (f0 a0).2.1 (f0 a0).2.2) none)
theorem ok_spec_DrawSignersOf : OracOk Try.prog sigs O_spec_DrawSignersOf := (orcX_ok rfl rfl (fun d g => said_spec_DrawCountSigs d.1 g) nilO_ok)
def A_spec_DrawSignersOf : Ann := fun b => ⟨[], []⟩
theorem aP_spec_DrawSignersOf (f0 : (List Int) → (TKeys × (List Int) × (List TSig))) (g0 : (List Int) → Bool) (n : Nat) (a0 : (List Int)) : absF tab sigs (OP_spec_DrawSignersOf f0 g0) A_spec_DrawSignersOf Try.f35 [((.slice 3 (.int .i64)), .no), ((.slice 64 (.pair (.int .i64) (.int .i64))), .no)] n [.val (.slice 5 (.int .u8)) a0] = spec_DrawSignersOf_P f0 g0 (fun r0 r1 => some [⟨(.slice 3 (.int .i64)), r0⟩, ⟨(.slice 64 (.pair (.int .i64) (.int .i64))), r1⟩])  a0 := by kernel_rfl
theorem said_spec_DrawSignersOf (a0 : (List Int)) (g : G.spec_DrawSignersOf a0 = true) : Said Try.prog sigs_35 35 [.val (.slice 5 (.int .u8)) a0] [⟨(.slice 3 (.int .i64)), (N.spec_DrawSignersOf a0).1⟩, ⟨(.slice 64 (.pair (.int .i64) (.int .i64))), (N.spec_DrawSignersOf a0).2⟩] := said_len (T := tab) (A := A_spec_DrawSignersOf) tabOk ok_spec_DrawSignersOf tabOk.follows Try.func35 (by kernel_rfl) (by kernel_rfl) (fun hl => ⟨0, (aP_spec_DrawSignersOf N.spec_DrawCountSigs G.spec_DrawCountSigs 0 a0).trans (spec_DrawSignersOf_ok (ρ := Ret) (fun r0 r1 => some [⟨(.slice 3 (.int .i64)), r0⟩, ⟨(.slice 64 (.pair (.int .i64) (.int .i64))), r1⟩]) a0 hl.1 g)⟩)
abbrev N.impl_InRange (n lo hi : Int) : Bool := inR n lo hi
def impl_InRange {ρ : Type} (k : Bool → Option ρ) (a0 : Int) (a1 : Int) (a2 : Int) : Option ρ := (cond (decide (a1 ≤ a0)) (k (decide (a0 ≤ a2))) (k false))
theorem impl_InRange_ok {ρ : Type} (k : Bool → Option ρ) (a0 : Int) (a1 : Int) (a2 : Int) : impl_InRange k  a0 a1 a2 = k (N.impl_InRange a0 a1 a2) := by
  simp only [impl_InRange, inR]
  cases decide (a1 ≤ a0) <;> rfl
def O_impl_InRange : Orac := nilO
theorem ok_impl_InRange : OracOk Try.prog sigs O_impl_InRange := nilO_ok
def A_impl_InRange : Ann := fun b => ⟨[], []⟩
theorem a_impl_InRange (n : Nat) (a0 : Int) (a1 : Int) (a2 : Int) : absF tab sigs O_impl_InRange A_impl_InRange Try.f43 [(.bool, .no)] n [.val (.int .i64) a0, .val (.int .i64) a1, .val (.int .i64) a2] = impl_InRange (fun r0 => some [⟨.bool, r0⟩])  a0 a1 a2 := by kernel_rfl
theorem said_impl_InRange (a0 : Int) (a1 : Int) (a2 : Int) : Said Try.prog sigs_43 43 [.val (.int .i64) a0, .val (.int .i64) a1, .val (.int .i64) a2] [⟨.bool, N.impl_InRange a0 a1 a2⟩] := said_len (T := tab) (A := A_impl_InRange) tabOk ok_impl_InRange tabOk.follows Try.func43 (by kernel_rfl) (by kernel_rfl) (fun hl => ⟨0, (a_impl_InRange 0 a0 a1 a2).trans (impl_InRange_ok (ρ := Ret) (fun r0 => some [⟨.bool, r0⟩]) a0 a1 a2)⟩)
abbrev N.impl_isKey (n : Int) : Bool := isKey n
def impl_isKey {ρ : Type} (k : Bool → Option ρ) (a0 : Int) : Option ρ := (k (N.impl_InRange a0 (1 : Int) (99 : Int)))
theorem impl_isKey_ok {ρ : Type} (k : Bool → Option ρ) (a0 : Int) : impl_isKey k  a0 = k (N.impl_isKey a0) := by
  rfl
def OP_impl_isKey (f0 : Int → Int → Int → Bool) : Orac := (orcX 43 [.val (.int .i64), .val (.int .i64), .val (.int .i64)] (fun d => true) (fun d => [⟨.bool, f0 d.1 d.2.1 d.2.2.1⟩]) nilO)
def O_impl_isKey : Orac := OP_impl_isKey N.impl_InRange
def impl_isKey_P {ρ : Type} (f0 : Int → Int → Int → Bool) (k : Bool → Option ρ) (a0 : Int) : Option ρ := (k (f0 a0 (1 : Int) (99 : Int)))
theorem ok_impl_isKey : OracOk Try.prog sigs O_impl_isKey := (orcX_ok rfl rfl (fun d g => said_impl_InRange d.1 d.2.1 d.2.2.1) nilO_ok)
def A_impl_isKey : Ann := fun b => ⟨[], []⟩
theorem aP_impl_isKey (f0 : Int → Int → Int → Bool) (n : Nat) (a0 : Int) : absF tab sigs (OP_impl_isKey f0) A_impl_isKey Try.f75 [(.bool, .no)] n [.val (.int .i64) a0] = impl_isKey_P f0 (fun r0 => some [⟨.bool, r0⟩])  a0 := by kernel_rfl
theorem said_impl_isKey (a0 : Int) : Said Try.prog sigs_75 75 [.val (.int .i64) a0] [⟨.bool, N.impl_isKey a0⟩] := said_len (T := tab) (A := A_impl_isKey) tabOk ok_impl_isKey tabOk.follows Try.func75 (by kernel_rfl) (by kernel_rfl) (fun hl => ⟨0, (aP_impl_isKey N.impl_InRange 0 a0).trans (impl_isKey_ok (ρ := Ret) (fun r0 => some [⟨.bool, r0⟩]) a0)⟩)
abbrev G.slices_Grow_int__nil (n : Int) : Bool := decide (0 ≤ n) && decide (n ≤ 4194304)
abbrev N.slices_Grow_int__nil (n : Int) : List Int := []
def slices_Grow_int__nil {ρ : Type} (k : (List Int) → Option ρ) (a1 : Int) : Option ρ := (cond (decide (a1 < (0 : Int))) none (cond (decide ((IntKind.wrap .i64 (a1 - (IntKind.wrap .i64 ((0 : Int) - (List.length ([] : (List Int)) : Int))))) > (0 : Int))) (cond (decide (0 ≤ (IntKind.wrap .i64 (a1 - (IntKind.wrap .i64 ((0 : Int) - (List.length ([] : (List Int)) : Int))))))) (cond (fit (List.length ([] : (List Int))) (Int.toNat (IntKind.wrap .i64 (a1 - (IntKind.wrap .i64 ((0 : Int) - (List.length ([] : (List Int)) : Int))))))) (cond (decide (0 ≤ (List.length ([] : (List Int)) : Int)) && decide ((List.length ([] : (List Int)) : Int) ≤ (List.length (List.append ([] : (List Int)) (List.replicate (Int.toNat (IntKind.wrap .i64 (a1 - (IntKind.wrap .i64 ((0 : Int) - (List.length ([] : (List Int)) : Int)))))) (0 : Int))) : Int))) (k (List.take (Int.toNat (List.length ([] : (List Int)) : Int)) (List.append ([] : (List Int)) (List.replicate (Int.toNat (IntKind.wrap .i64 (a1 - (IntKind.wrap .i64 ((0 : Int) - (List.length ([] : (List Int)) : Int)))))) (0 : Int))))) none) none) none) (k [])))
theorem slices_Grow_int__nil_ok {ρ : Type} (k : (List Int) → Option ρ) (a1 : Int) (g : G.slices_Grow_int__nil a1 = true) : slices_Grow_int__nil k  a1 = k (N.slices_Grow_int__nil a1) := by
  unfold G.slices_Grow_int__nil at g
  replace g := (Bool.and_eq_true _ _).mp g
  have g1 : 0 ≤ a1 := of_decide_eq_true g.1
  have g2 : a1 ≤ 4194304 := of_decide_eq_true g.2
  have e0 : IntKind.wrap .i64 ((0 : Int) - (List.length ([] : List Int) : Int)) = 0 := by decide
  have e1 : IntKind.wrap .i64 (a1 - 0) = a1 := by rw [wrap_id (by omega) (by omega)]; omega
  have e2 : decide (a1 < 0) = false := decide_eq_false (by omega)
  simp only [slices_Grow_int__nil, e0, e1, e2, cond_false]
  by_cases h : a1 > 0
  · have e3 : fit (List.length ([] : List Int)) (Int.toNat a1) = true := fit_of (by simp; omega)
    simp only [decide_eq_true h, decide_eq_true g1, e3, cond_true]
    have e4 : decide (0 ≤ max a1 0) = true := decide_eq_true (by omega)
    simp
    rw [e4]
    rfl
  · simp only [decide_eq_false h, cond_false]
def O_slices_Grow_int__nil : Orac := nilO
theorem ok_slices_Grow_int__nil : OracOk Try.prog sigs O_slices_Grow_int__nil := nilO_ok
def A_slices_Grow_int__nil : Ann := fun b => ⟨[], []⟩
theorem a_slices_Grow_int__nil (n : Nat) (a1 : Int) : absF tab sigs O_slices_Grow_int__nil A_slices_Grow_int__nil Try.f142 [((.slice 3 (.int .i64)), (.own 0))] n [.nil 3 (.int .i64), .val (.int .i64) a1] = slices_Grow_int__nil (fun r0 => some [⟨(.slice 3 (.int .i64)), r0⟩])  a1 := by kernel_rfl
theorem said_slices_Grow_int__nil (a1 : Int) (g : G.slices_Grow_int__nil a1 = true) : Said Try.prog sigs_142 142 [.nil 3 (.int .i64), .val (.int .i64) a1] [⟨(.slice 3 (.int .i64)), N.slices_Grow_int__nil a1⟩] := said_len (T := tab) (A := A_slices_Grow_int__nil) tabOk ok_slices_Grow_int__nil tabOk.follows Try.func142 (by kernel_rfl) (by kernel_rfl) (fun hl => ⟨0, (a_slices_Grow_int__nil 0 a1).trans (slices_Grow_int__nil_ok (ρ := Ret) (fun r0 => some [⟨(.slice 3 (.int .i64)), r0⟩]) a1 g)⟩)
abbrev G.slices_Concat_int (l : List (List Int)) : Bool := decide (l.length ≤ 64) && decide (l.flatten.length ≤ 4194304)
abbrev N.slices_Concat_int (l : List (List Int)) : List Int := l.flatten
def slices_Concat_int_P_L2 {ρ : Type} (f0 : Int → (List Int)) (g0 : Int → Bool) (k : (List Int) → Option ρ) (L2 : (List (List Int)) → Int → Int → (List Int) → Option ρ) (v2_0 : (List (List Int))) (v2_1 : Int) (v2_2 : Int) (v2_3 : (List Int)) : Option ρ := (cond (decide (v2_2 < v2_1)) (cond (inRange v2_2 (List.length v2_0)) (cond (fit (List.length v2_3) (List.length (List.getD v2_0 (Int.toNat v2_2) []))) (L2 v2_0 v2_1 (IntKind.wrap .i64 (v2_2 + (1 : Int))) (List.append v2_3 (List.getD v2_0 (Int.toNat v2_2) []))) none) none) (k v2_3))
def slices_Concat_int_P_L0 {ρ : Type} (f0 : Int → (List Int)) (g0 : Int → Bool) (k : (List Int) → Option ρ) (L0 : (List (List Int)) → Int → (List (List Int)) → Int → Int → Option ρ) (L2 : (List (List Int)) → Int → Int → (List Int) → Option ρ) (v0_0 : (List (List Int))) (v0_1 : Int) (v0_2 : (List (List Int))) (v0_3 : Int) (v0_4 : Int) : Option ρ := (cond (decide (v0_4 < v0_3)) (cond (inRange v0_4 (List.length v0_2)) (cond (decide ((IntKind.wrap .i64 (v0_1 + (List.length (List.getD v0_2 (Int.toNat v0_4) []) : Int))) < (0 : Int))) none (L0 v0_0 (IntKind.wrap .i64 (v0_1 + (List.length (List.getD v0_2 (Int.toNat v0_4) []) : Int))) v0_2 v0_3 (IntKind.wrap .i64 (v0_4 + (1 : Int))))) none) (cond (g0 v0_1) (L2 v0_0 (List.length v0_0 : Int) (0 : Int) (f0 v0_1)) none))
def slices_Concat_int_P {ρ : Type} (f0 : Int → (List Int)) (g0 : Int → Bool) (k : (List Int) → Option ρ) (L0 : (List (List Int)) → Int → (List (List Int)) → Int → Int → Option ρ) (a0 : (List (List Int))) : Option ρ := (L0 a0 (0 : Int) a0 (List.length a0 : Int) (0 : Int))
def slices_Concat_int_L2 {ρ : Type} (k : (List Int) → Option ρ) (L2 : (List (List Int)) → Int → Int → (List Int) → Option ρ) (v2_0 : (List (List Int))) (v2_1 : Int) (v2_2 : Int) (v2_3 : (List Int)) : Option ρ := slices_Concat_int_P_L2 N.slices_Grow_int__nil G.slices_Grow_int__nil k L2 v2_0 v2_1 v2_2 v2_3
def slices_Concat_int_L0 {ρ : Type} (k : (List Int) → Option ρ) (L0 : (List (List Int)) → Int → (List (List Int)) → Int → Int → Option ρ) (L2 : (List (List Int)) → Int → Int → (List Int) → Option ρ) (v0_0 : (List (List Int))) (v0_1 : Int) (v0_2 : (List (List Int))) (v0_3 : Int) (v0_4 : Int) : Option ρ := slices_Concat_int_P_L0 N.slices_Grow_int__nil G.slices_Grow_int__nil k L0 L2 v0_0 v0_1 v0_2 v0_3 v0_4
def slices_Concat_int {ρ : Type} (k : (List Int) → Option ρ) (L0 : (List (List Int)) → Int → (List (List Int)) → Int → Int → Option ρ) (a0 : (List (List Int))) : Option ρ := slices_Concat_int_P N.slices_Grow_int__nil G.slices_Grow_int__nil k L0 a0
theorem slices_Concat_int_ok {ρ : Type} (k : (List Int) → Option ρ) (a0 : (List (List Int))) (l_a0 : lnL (fun y => lnL (fun _ => True) y) a0) (g : G.slices_Concat_int a0 = true) : ∃ n0, ∀ n, n0 ≤ n → ∀ (L0 : Nat → (List (List Int)) → Int → (List (List Int)) → Int → Int → Option ρ) (L2 : Nat → (List (List Int)) → Int → Int → (List Int) → Option ρ) (h0 : ∀ ( m : Nat) (v0_0 : (List (List Int))) (v0_1 : Int) (v0_2 : (List (List Int))) (v0_3 : Int) (v0_4 : Int), L0 (m + 1) v0_0 v0_1 v0_2 v0_3 v0_4 = slices_Concat_int_L0 k (L0 m) (L2 n) v0_0 v0_1 v0_2 v0_3 v0_4) (h2 : ∀ ( m : Nat) (v2_0 : (List (List Int))) (v2_1 : Int) (v2_2 : Int) (v2_3 : (List Int)), L2 (m + 1) v2_0 v2_1 v2_2 v2_3 = slices_Concat_int_L2 k (L2 m) v2_0 v2_1 v2_2 v2_3), slices_Concat_int k (L0 n) a0 = k (N.slices_Concat_int a0) := by
  unfold G.slices_Concat_int at g
  replace g := (Bool.and_eq_true _ _).mp g
  have g1 : a0.length ≤ 64 := of_decide_eq_true g.1
  have g2 : a0.flatten.length ≤ 4194304 := of_decide_eq_true g.2
  refine ⟨a0.length + 1, fun n hn L0 L2 h0 h2 => ?_⟩
  have hrun := raw_run0 (σ := Int) (s := 0) (L := fun m i s => L0 m a0 s a0 (a0.length : Int) i) (R := fun i s c => slices_Concat_int_L0 k (fun _ s _ _ i => c i s) (L2 n) a0 s a0 (a0.length : Int) i) (fun m i s => h0 m a0 s a0 (a0.length : Int) i) a0.length (fun j s => s = ((a0.take j).flatten.length : Int)) (fun j s => L2 n a0 (a0.length : Int) 0 []) (fun j s c hj hI hc => ?_) (fun s c hI => ?_) hn (by simp)
  · refine hrun.trans ?_
    refine (raw_foldl (a := a0) [] (fun o x => o ++ x) (k := k) (s := []) (L := fun m i s => L2 m a0 (a0.length : Int) i s) (R := fun i s c => slices_Concat_int_L2 k (fun _ _ i s => c i s) a0 (a0.length : Int) i s) (fun m i s => h2 m a0 (a0.length : Int) i s) (fun j o => o.length = (a0.take j).flatten.length) (fun j s c hj hI => ?_) (fun j s hj hI => ?_) (fun s c => ?_) hn (by simp)).trans (by rw [foldl_flat]; rfl)
    · have hs := take_flat_succ a0 j hj
      have hle := take_flat_le a0 (j + 1)
      have e3 : fit s.length (a0.getD j []).length = true := fit_of (by omega)
      simp only [slices_Concat_int_L2, slices_Concat_int_P_L2, lt_nat, inRange_nat, decide_eq_true hj, cond_true, Int.toNat_natCast, e3, wrap_succ (j := j) (by unfold big; omega), List.append_eq]
    · rw [List.length_append, take_flat_succ a0 j hj, hI]
    · simp [slices_Concat_int_L2, slices_Concat_int_P_L2]
  · have hs := take_flat_succ a0 j hj
    have hle := take_flat_le a0 (j + 1)
    have e1 : IntKind.wrap .i64 (s + ((a0.getD j []).length : Int)) = ((a0.take (j + 1)).flatten.length : Int) := by rw [hI, wrap_id (by omega) (by omega)]; omega
    have e2 : decide ((((a0.take (j + 1)).flatten.length : Nat) : Int) < 0) = false := decide_eq_false (by omega)
    have := hc _ rfl
    simp only [slices_Concat_int_L0, slices_Concat_int_P_L0, lt_nat, inRange_nat, decide_eq_true hj, cond_true, cond_false, Int.toNat_natCast, e1, e2, wrap_succ (j := j) (by unfold big; omega), this]
  · rw [List.take_length] at hI
    have e1 : G.slices_Grow_int__nil s = true := by
      unfold G.slices_Grow_int__nil
      rw [decide_eq_true (by omega), decide_eq_true (by omega)]
      rfl
    simp only [slices_Concat_int_L0, slices_Concat_int_P_L0, lt_nat, Nat.lt_irrefl, decide_false, cond_false, e1, cond_true]
def OP_slices_Concat_int (f0 : Int → (List Int)) (g0 : Int → Bool) : Orac := (orcX 142 [.nil 3 (.int .i64), .val (.int .i64)] (fun d => g0 d.2.1) (fun d => [⟨(.slice 3 (.int .i64)), f0 d.2.1⟩]) nilO)
def O_slices_Concat_int : Orac := OP_slices_Concat_int N.slices_Grow_int__nil G.slices_Grow_int__nil
theorem ok_slices_Concat_int : OracOk Try.prog sigs O_slices_Concat_int := (orcX_ok rfl rfl (fun d g => said_slices_Grow_int__nil d.2.1 g) nilO_ok)
def A_slices_Concat_int : Ann := fun b => cond (Nat.beq b 2) ⟨[(6, true), (25, false), (26, false), (27, false)], []⟩ (cond (Nat.beq b 0) ⟨[(0, false), (3, false), (9, false), (10, false), (11, false)], []⟩ (⟨[], []⟩))
def S_slices_Concat_int_0 (v0_0 : (List (List Int))) (v0_1 : Int) (v0_2 : (List (List Int))) (v0_3 : Int) (v0_4 : Int) : St := [(kT 0, some (.tv (.v (.slice 24 (.slice 3 (.int .i64))) v0_0 .no))), (kT 3, some (.tv (.v (.int .i64) v0_1 .no))), (kT 9, some (.tv (.v (.slice 24 (.slice 3 (.int .i64))) v0_2 .no))), (kT 10, some (.tv (.v (.int .i64) v0_3 .no))), (kT 11, some (.tv (.v (.int .i64) v0_4 .no)))]
noncomputable def L_P_slices_Concat_int_0 (f0 : Int → (List Int)) (g0 : Int → Bool) (n m : Nat) : St → Option Ret := loopOf tab sigs (OP_slices_Concat_int f0 g0) A_slices_Concat_int Try.f129 [((.slice 3 (.int .i64)), (.own 0))] n (fun _ => 0) 0 m
def S_slices_Concat_int_2 (v2_0 : (List (List Int))) (v2_1 : Int) (v2_2 : Int) (v2_3 : (List Int)) : St := [(kT 6, some (.tv (.v (.slice 3 (.int .i64)) [] (.own 48)))), (kT 25, some (.tv (.v (.slice 24 (.slice 3 (.int .i64))) v2_0 .no))), (kT 26, some (.tv (.v (.int .i64) v2_1 .no))), (kT 27, some (.tv (.v (.int .i64) v2_2 .no))), (kR 48, some (.row 3 (.int .i64) v2_3))]
noncomputable def L_P_slices_Concat_int_2 (f0 : Int → (List Int)) (g0 : Int → Bool) (n m : Nat) : St → Option Ret := loopOf tab sigs (OP_slices_Concat_int f0 g0) A_slices_Concat_int Try.f129 [((.slice 3 (.int .i64)), (.own 0))] n (fun _ => 0) 2 m
theorem bP_slices_Concat_int_0 (f0 : Int → (List Int)) (g0 : Int → Bool) (n m : Nat) (v0_0 : (List (List Int))) (v0_1 : Int) (v0_2 : (List (List Int))) (v0_3 : Int) (v0_4 : Int) : L_P_slices_Concat_int_0 f0 g0 n (m + 1) (S_slices_Concat_int_0 v0_0 v0_1 v0_2 v0_3 v0_4) = slices_Concat_int_P_L0 f0 g0 (fun r0 => some [⟨(.slice 3 (.int .i64)), r0⟩]) (fun v0_0 v0_1 v0_2 v0_3 v0_4 => L_P_slices_Concat_int_0 f0 g0 n m (S_slices_Concat_int_0 v0_0 v0_1 v0_2 v0_3 v0_4)) (fun v2_0 v2_1 v2_2 v2_3 => L_P_slices_Concat_int_2 f0 g0 n n (S_slices_Concat_int_2 v2_0 v2_1 v2_2 v2_3)) v0_0 v0_1 v0_2 v0_3 v0_4 := by kernel_rfl
theorem bP_slices_Concat_int_2 (f0 : Int → (List Int)) (g0 : Int → Bool) (n m : Nat) (v2_0 : (List (List Int))) (v2_1 : Int) (v2_2 : Int) (v2_3 : (List Int)) : L_P_slices_Concat_int_2 f0 g0 n (m + 1) (S_slices_Concat_int_2 v2_0 v2_1 v2_2 v2_3) = slices_Concat_int_P_L2 f0 g0 (fun r0 => some [⟨(.slice 3 (.int .i64)), r0⟩]) (fun v2_0 v2_1 v2_2 v2_3 => L_P_slices_Concat_int_2 f0 g0 n m (S_slices_Concat_int_2 v2_0 v2_1 v2_2 v2_3)) v2_0 v2_1 v2_2 v2_3 := by kernel_rfl
theorem aP_slices_Concat_int (f0 : Int → (List Int)) (g0 : Int → Bool) (n : Nat) (a0 : (List (List Int))) : absF tab sigs (OP_slices_Concat_int f0 g0) A_slices_Concat_int Try.f129 [((.slice 3 (.int .i64)), (.own 0))] n [.val (.slice 24 (.slice 3 (.int .i64))) a0] = slices_Concat_int_P f0 g0 (fun r0 => some [⟨(.slice 3 (.int .i64)), r0⟩]) (fun v0_0 v0_1 v0_2 v0_3 v0_4 => L_P_slices_Concat_int_0 f0 g0 n n (S_slices_Concat_int_0 v0_0 v0_1 v0_2 v0_3 v0_4)) a0 := by kernel_rfl
theorem said_slices_Concat_int (a0 : (List (List Int))) (g : G.slices_Concat_int a0 = true) : Said Try.prog sigs_129 129 [.val (.slice 24 (.slice 3 (.int .i64))) a0] [⟨(.slice 3 (.int .i64)), N.slices_Concat_int a0⟩] := said_len (T := tab) (A := A_slices_Concat_int) tabOk ok_slices_Concat_int tabOk.follows Try.func129 (by kernel_rfl) (by kernel_rfl) (fun hl => let ⟨n, hn⟩ := slices_Concat_int_ok (ρ := Ret) (fun r0 => some [⟨(.slice 3 (.int .i64)), r0⟩]) a0 hl.1 g; ⟨n, (aP_slices_Concat_int N.slices_Grow_int__nil G.slices_Grow_int__nil n a0).trans (hn n (Nat.le_refl n) (fun  m v0_0 v0_1 v0_2 v0_3 v0_4 => L_P_slices_Concat_int_0 N.slices_Grow_int__nil G.slices_Grow_int__nil n  m (S_slices_Concat_int_0 v0_0 v0_1 v0_2 v0_3 v0_4)) (fun  m v2_0 v2_1 v2_2 v2_3 => L_P_slices_Concat_int_2 N.slices_Grow_int__nil G.slices_Grow_int__nil n  m (S_slices_Concat_int_2 v2_0 v2_1 v2_2 v2_3)) (fun  m v0_0 v0_1 v0_2 v0_3 v0_4 => bP_slices_Concat_int_0 N.slices_Grow_int__nil G.slices_Grow_int__nil n  m v0_0 v0_1 v0_2 v0_3 v0_4) (fun  m v2_0 v2_1 v2_2 v2_3 => bP_slices_Concat_int_2 N.slices_Grow_int__nil G.slices_Grow_int__nil n  m v2_0 v2_1 v2_2 v2_3))⟩)
end Go.Proofs.Ythgbcbnmdioknaa.Ref
