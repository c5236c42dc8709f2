/- Functions of the program: what each computes, and that it does so.
   Conditions: as each theorem states. -/
import Derived.Test.YthgbcbnmdioknaaSA
set_option linter.unusedVariables false
set_option linter.unusedSimpArgs false
set_option maxRecDepth 100000
namespace Go.Proofs.Ythgbcbnmdioknaa.Ref
open Go.RowKit Go.Proofs.YthgbcbnmdioknaaW.PrintWords Go.Proofs.YthgbcbnmdioknaaW.PrintLast
abbrev N.laws_big (l : List Int) : Bool := decide ((l.length : Int) > 1048576)
def laws_big {ρ : Type} (k : Bool → Option ρ) (a0 : (List Int)) : Option ρ := (k (decide ((List.length a0 : Int) > (1048576 : Int))))
theorem laws_big_ok {ρ : Type} (k : Bool → Option ρ) (a0 : (List Int)) (l_a0 : lnL (fun _ => True) a0) : laws_big k  a0 = k (N.laws_big a0) := by
  rfl
def O_laws_big : Orac := nilO
theorem ok_laws_big : OracOk Try.prog sigs O_laws_big := nilO_ok
def A_laws_big : Ann := fun b => ⟨[], []⟩
theorem a_laws_big (n : Nat) (a0 : (List Int)) : absF tab sigs O_laws_big A_laws_big Try.f6 [(.bool, .no)] n [.val (.slice 5 (.int .u8)) a0] = laws_big (fun r0 => some [⟨.bool, r0⟩])  a0 := by kernel_rfl
theorem said_laws_big (a0 : (List Int)) : Said Try.prog sigs_6 6 [.val (.slice 5 (.int .u8)) a0] [⟨.bool, N.laws_big a0⟩] := said_len (T := tab) (A := A_laws_big) tabOk ok_laws_big tabOk.follows Try.func6 (by kernel_rfl) (by kernel_rfl) (fun hl => ⟨0, (a_laws_big 0 a0).trans (laws_big_ok (ρ := Ret) (fun r0 => some [⟨.bool, r0⟩]) a0 hl.1)⟩)
abbrev G.spec_l1New (l : List Int) : Bool := decide (l.length ≤ 1048576)
abbrev N.spec_l1New (l : List Int) : TCur := newC l
def spec_l1New_L0 {ρ : Type} (k : TCur → Option ρ) (L0 : (List Int) → Int → Int → Option ρ) (v0_0 : (List Int)) (v0_1 : Int) (v0_2 : Int) : Option ρ := (cond (decide (v0_2 < (List.length v0_0 : Int))) (cond (decide (v0_2 < (4000 : Int))) (cond (inRange v0_2 (List.length v0_0)) (L0 v0_0 (andI .i64 (IntKind.wrap .i64 ((IntKind.wrap .i64 ((IntKind.wrap .i64 (v0_1 * (137 : Int))) + (IntKind.wrap .i64 (List.getD v0_0 (Int.toNat v0_2) (0 : Int))))) + (11 : Int))) (1073741823 : Int)) (IntKind.wrap .i64 (v0_2 + (1 : Int)))) none) (k (v0_0, ((0 : Int), v0_1)))) (k (v0_0, ((0 : Int), v0_1))))
def spec_l1New {ρ : Type} (k : TCur → Option ρ) (L0 : (List Int) → Int → Int → Option ρ) (a0 : (List Int)) : Option ρ := (L0 a0 (IntKind.wrap .i64 ((193017 : Int) + (List.length a0 : Int))) (0 : Int))
theorem spec_l1New_ok {ρ : Type} (k : TCur → Option ρ) (a0 : (List Int)) (l_a0 : lnL (fun _ => True) a0) (g : G.spec_l1New a0 = true) : ∃ n0, ∀ n, n0 ≤ n → ∀ (L0 : Nat → (List Int) → Int → Int → Option ρ) (h0 : ∀ ( m : Nat) (v0_0 : (List Int)) (v0_1 : Int) (v0_2 : Int), L0 (m + 1) v0_0 v0_1 v0_2 = spec_l1New_L0 k (L0 m) v0_0 v0_1 v0_2), spec_l1New k (L0 n) a0 = k (N.spec_l1New a0) := by
  unfold G.spec_l1New at g
  refine ⟨a0.length + 1, fun n hn L0 h0 => ?_⟩
  have := raw_new (l := a0) (k := fun h => k (a0, (0, h))) (L := fun m h i => L0 m a0 h i) l_a0.1 (fun m h i => by
    show L0 (m + 1) a0 h i = _
    rw [h0]
    rfl) a0.length n 0 (IntKind.wrap .i64 (193017 + (a0.length : Int))) (by omega) hn
  exact this
def O_spec_l1New : Orac := nilO
theorem ok_spec_l1New : OracOk Try.prog sigs O_spec_l1New := nilO_ok
def A_spec_l1New : Ann := fun b => cond (Nat.beq b 0) ⟨[(0, false), (3, false), (4, false)], []⟩ (⟨[], []⟩)
def S_spec_l1New_0 (v0_0 : (List Int)) (v0_1 : Int) (v0_2 : Int) : St := [(kT 0, some (.tv (.v (.slice 5 (.int .u8)) v0_0 .no))), (kT 3, some (.tv (.v (.int .i64) v0_1 .no))), (kT 4, some (.tv (.v (.int .i64) v0_2 .no)))]
noncomputable def L_spec_l1New_0 (n m : Nat) : St → Option Ret := loopOfN tab sigs O_spec_l1New A_spec_l1New Try.f40 (.pair (.slice 5 (.int .u8)) (.pair (.int .i64) (.int .i64))) n (fun _ => 0) 0 m
theorem b_spec_l1New_0 (n m : Nat) (v0_0 : (List Int)) (v0_1 : Int) (v0_2 : Int) : L_spec_l1New_0 n (m + 1) (S_spec_l1New_0 v0_0 v0_1 v0_2) = spec_l1New_L0 (fun r0 => some [⟨(.pair (.slice 5 (.int .u8)) (.pair (.int .i64) (.int .i64))), r0⟩]) (fun v0_0 v0_1 v0_2 => L_spec_l1New_0 n m (S_spec_l1New_0 v0_0 v0_1 v0_2)) v0_0 v0_1 v0_2 := by kernel_rfl
theorem a_spec_l1New (n : Nat) (a0 : (List Int)) : absFN tab sigs O_spec_l1New A_spec_l1New Try.f40 n (.pair (.slice 5 (.int .u8)) (.pair (.int .i64) (.int .i64))) [.val (.slice 5 (.int .u8)) a0] = spec_l1New (fun r0 => some [⟨(.pair (.slice 5 (.int .u8)) (.pair (.int .i64) (.int .i64))), r0⟩]) (fun v0_0 v0_1 v0_2 => L_spec_l1New_0 n n (S_spec_l1New_0 v0_0 v0_1 v0_2)) a0 := by kernel_rfl
theorem said_spec_l1New (a0 : (List Int)) (g : G.spec_l1New a0 = true) : SaidV Try.prog 40 [.val (.slice 5 (.int .u8)) a0] [⟨(.pair (.slice 5 (.int .u8)) (.pair (.int .i64) (.int .i64))), N.spec_l1New a0⟩] := said_lenN (T := tab) (A := A_spec_l1New) tabOk ok_spec_l1New tabOk.follows Try.func40 (by kernel_rfl) (by kernel_rfl) (fun hl => let ⟨n, hn⟩ := spec_l1New_ok (ρ := Ret) (fun r0 => some [⟨(.pair (.slice 5 (.int .u8)) (.pair (.int .i64) (.int .i64))), r0⟩]) a0 hl.1 g; ⟨n, (a_spec_l1New n a0).trans (hn n (Nat.le_refl n) (fun  m v0_0 v0_1 v0_2 => L_spec_l1New_0 n  m (S_spec_l1New_0 v0_0 v0_1 v0_2)) (fun  m v0_0 v0_1 v0_2 => b_spec_l1New_0 n  m v0_0 v0_1 v0_2))⟩)
abbrev G.spec_l1Byte (c : TCur) : Bool := okC c
abbrev N.spec_l1Byte (c : TCur) : TCur × Int := byteC c
def spec_l1Byte {ρ : Type} (k : TCur → Int → Option ρ) (a0 : TCur) : Option ρ := (cond (decide (a0.2.1 < (List.length a0.1 : Int))) (cond (inRange a0.2.1 (List.length a0.1)) (k (a0.1, ((IntKind.wrap .i64 (a0.2.1 + (1 : Int))), (IntKind.wrap .i64 ((IntKind.wrap .i64 (a0.2.2 * (6364136223846793005 : Int))) + (1442695040888963407 : Int))))) (andI .i64 (IntKind.wrap .i64 ((andI .i64 (xorI .i64 ((IntKind.wrap .i64 ((IntKind.wrap .i64 (a0.2.2 * (6364136223846793005 : Int))) + (1442695040888963407 : Int))) / (2 : Int) ^ 33) ((IntKind.wrap .i64 ((IntKind.wrap .i64 (a0.2.2 * (6364136223846793005 : Int))) + (1442695040888963407 : Int))) / (2 : Int) ^ 47)) (255 : Int)) + (IntKind.wrap .i64 (List.getD a0.1 (Int.toNat a0.2.1) (0 : Int))))) (255 : Int))) none) (k (a0.1, (a0.2.1, (IntKind.wrap .i64 ((IntKind.wrap .i64 (a0.2.2 * (6364136223846793005 : Int))) + (1442695040888963407 : Int))))) (andI .i64 (xorI .i64 ((IntKind.wrap .i64 ((IntKind.wrap .i64 (a0.2.2 * (6364136223846793005 : Int))) + (1442695040888963407 : Int))) / (2 : Int) ^ 33) ((IntKind.wrap .i64 ((IntKind.wrap .i64 (a0.2.2 * (6364136223846793005 : Int))) + (1442695040888963407 : Int))) / (2 : Int) ^ 47)) (255 : Int))))
theorem spec_l1Byte_ok {ρ : Type} (k : TCur → Int → Option ρ) (a0 : TCur) (l_a0 : (lnL (fun _ => True) a0.1 ∧ (True ∧ True))) (g : G.spec_l1Byte a0 = true) : spec_l1Byte k  a0 = k (N.spec_l1Byte a0).1 (N.spec_l1Byte a0).2 := by
  unfold G.spec_l1Byte at g
  show spec_l1Byte k a0 = k (byteC a0).1 (byteC a0).2
  have g' : 0 ≤ a0.2.1 := of_decide_eq_true ((Bool.and_eq_true _ _).mp g).1
  unfold spec_l1Byte byteC
  cases hc : decide (a0.2.1 < (a0.1.length : Int)) with
  | false => rfl
  | true =>
    have h1 : inRange a0.2.1 a0.1.length = true := by
      unfold inRange
      rw [hc, decide_eq_true g']
      rfl
    rw [h1]
    rfl
def O_spec_l1Byte : Orac := nilO
theorem ok_spec_l1Byte : OracOk Try.prog sigs O_spec_l1Byte := nilO_ok
def A_spec_l1Byte : Ann := fun b => ⟨[], []⟩
theorem a_spec_l1Byte (n : Nat) (a0 : TCur) : absFB tab sigs O_spec_l1Byte A_spec_l1Byte Try.f78 [((.int .i64), .no)] n (.pair (.slice 5 (.int .u8)) (.pair (.int .i64) (.int .i64))) a0 [] = spec_l1Byte (fun r0 r1 => some [⟨(.pair (.slice 5 (.int .u8)) (.pair (.int .i64) (.int .i64))), r0⟩, ⟨(.int .i64), r1⟩])  a0 := by kernel_rfl
theorem said_spec_l1Byte (a0 : TCur) (g : G.spec_l1Byte a0 = true) : SaidP Try.prog sigs_78 78 (.pair (.slice 5 (.int .u8)) (.pair (.int .i64) (.int .i64))) a0 [] [⟨(.pair (.slice 5 (.int .u8)) (.pair (.int .i64) (.int .i64))), (N.spec_l1Byte a0).1⟩, ⟨(.int .i64), (N.spec_l1Byte a0).2⟩] := said_lenB (T := tab) (A := A_spec_l1Byte) tabOk ok_spec_l1Byte tabOk.follows Try.func78 (by kernel_rfl) (by kernel_rfl) (fun hl => ⟨0, (a_spec_l1Byte 0 a0).trans (spec_l1Byte_ok (ρ := Ret) (fun r0 r1 => some [⟨(.pair (.slice 5 (.int .u8)) (.pair (.int .i64) (.int .i64))), r0⟩, ⟨(.int .i64), r1⟩]) a0 hl.1 g)⟩)
abbrev G.spec_l1Below (c : TCur) (n : Int) : Bool := okC c
abbrev N.spec_l1Below (c : TCur) (n : Int) : TCur × Int := belowC c n
def spec_l1Below {ρ : Type} (k : TCur → Int → Option ρ) (a0 : TCur) (a1 : Int) : Option ρ := (cond (decide (a1 ≤ (0 : Int))) (k a0 (0 : Int)) (cond (decide (a1 ≤ (256 : Int))) (cond (G.spec_l1Byte a0) (cond (!(decide (a1 = 0))) (k (N.spec_l1Byte a0).1 (Int.tmod (N.spec_l1Byte a0).2 a1)) none) none) (cond (G.spec_l1Byte a0) (cond (G.spec_l1Byte (N.spec_l1Byte a0).1) (cond (G.spec_l1Byte (N.spec_l1Byte (N.spec_l1Byte a0).1).1) (cond (!(decide (a1 = 0))) (k (N.spec_l1Byte (N.spec_l1Byte (N.spec_l1Byte a0).1).1).1 (Int.tmod (IntKind.wrap .i64 ((IntKind.wrap .i64 ((IntKind.wrap .i64 ((N.spec_l1Byte a0).2 * (65536 : Int))) + (IntKind.wrap .i64 ((N.spec_l1Byte (N.spec_l1Byte a0).1).2 * (256 : Int))))) + (N.spec_l1Byte (N.spec_l1Byte (N.spec_l1Byte a0).1).1).2)) a1)) none) none) none) none)))
theorem spec_l1Below_ok {ρ : Type} (k : TCur → Int → Option ρ) (a0 : TCur) (a1 : Int) (l_a0 : (lnL (fun _ => True) a0.1 ∧ (True ∧ True))) (g : G.spec_l1Below a0 a1 = true) : spec_l1Below k  a0 a1 = k (N.spec_l1Below a0 a1).1 (N.spec_l1Below a0 a1).2 := by
  unfold G.spec_l1Below at g
  show spec_l1Below k a0 a1 = k (belowC a0 a1).1 (belowC a0 a1).2
  unfold belowC
  cases h1 : decide (a1 ≤ 0) with
  | true => simp only [spec_l1Below, h1, cond_true]
  | false =>
    have h0 : decide (a1 = 0) = false := decide_eq_false (by have := of_decide_eq_false h1; omega)
    cases h2 : decide (a1 ≤ 256) with
    | true => simp only [spec_l1Below, G.spec_l1Byte, N.spec_l1Byte, h1, h2, h0, g, cond_true, cond_false, Bool.not_false]
    | false => simp only [spec_l1Below, G.spec_l1Byte, N.spec_l1Byte, h1, h2, h0, g, okC_byte g, okC_byte (okC_byte g), cond_true, cond_false, Bool.not_false]
def OP_spec_l1Below (f_spec_l1Byte : TCur → (TCur × Int)) (g_spec_l1Byte : TCur → Bool) : Orac := (orcX 78 [.lend (.pair (.slice 5 (.int .u8)) (.pair (.int .i64) (.int .i64))) .no] (fun d => g_spec_l1Byte d.1) (fun d => [⟨(.pair (.slice 5 (.int .u8)) (.pair (.int .i64) (.int .i64))), (f_spec_l1Byte d.1).1⟩, ⟨(.int .i64), (f_spec_l1Byte d.1).2⟩]) nilO)
def O_spec_l1Below : Orac := OP_spec_l1Below N.spec_l1Byte G.spec_l1Byte
def spec_l1Below_P {ρ : Type} (f_spec_l1Byte : TCur → (TCur × Int)) (g_spec_l1Byte : TCur → Bool) (k : TCur → Int → Option ρ) (a0 : TCur) (a1 : Int) : Option ρ := (cond (decide (a1 ≤ (0 : Int))) (k a0 (0 : Int)) (cond (decide (a1 ≤ (256 : Int))) (cond (g_spec_l1Byte a0) (cond (!(decide (a1 = 0))) (k (f_spec_l1Byte a0).1 (Int.tmod (f_spec_l1Byte a0).2 a1)) none) none) (cond (g_spec_l1Byte a0) (cond (g_spec_l1Byte (f_spec_l1Byte a0).1) (cond (g_spec_l1Byte (f_spec_l1Byte (f_spec_l1Byte a0).1).1) (cond (!(decide (a1 = 0))) (k (f_spec_l1Byte (f_spec_l1Byte (f_spec_l1Byte a0).1).1).1 (Int.tmod (IntKind.wrap .i64 ((IntKind.wrap .i64 ((IntKind.wrap .i64 ((f_spec_l1Byte a0).2 * (65536 : Int))) + (IntKind.wrap .i64 ((f_spec_l1Byte (f_spec_l1Byte a0).1).2 * (256 : Int))))) + (f_spec_l1Byte (f_spec_l1Byte (f_spec_l1Byte a0).1).1).2)) a1)) none) none) none) none)))
theorem ok_spec_l1Below : OracOk Try.prog sigs O_spec_l1Below := (orcB_ok rfl (fun d g => said_spec_l1Byte d.1 g) nilO_ok)
def A_spec_l1Below : Ann := fun b => ⟨[], []⟩
theorem aP_spec_l1Below (f_spec_l1Byte : TCur → (TCur × Int)) (g_spec_l1Byte : TCur → Bool) (n : Nat) (a0 : TCur) (a1 : Int) : absFB tab sigs (OP_spec_l1Below f_spec_l1Byte g_spec_l1Byte) A_spec_l1Below Try.f42 [((.int .i64), .no)] n (.pair (.slice 5 (.int .u8)) (.pair (.int .i64) (.int .i64))) a0 [.val (.int .i64) a1] = spec_l1Below_P f_spec_l1Byte g_spec_l1Byte (fun r0 r1 => some [⟨(.pair (.slice 5 (.int .u8)) (.pair (.int .i64) (.int .i64))), r0⟩, ⟨(.int .i64), r1⟩])  a0 a1 := by kernel_rfl
theorem a_spec_l1Below (n : Nat) (a0 : TCur) (a1 : Int) : absFB tab sigs O_spec_l1Below A_spec_l1Below Try.f42 [((.int .i64), .no)] n (.pair (.slice 5 (.int .u8)) (.pair (.int .i64) (.int .i64))) a0 [.val (.int .i64) a1] = spec_l1Below (fun r0 r1 => some [⟨(.pair (.slice 5 (.int .u8)) (.pair (.int .i64) (.int .i64))), r0⟩, ⟨(.int .i64), r1⟩])  a0 a1 := aP_spec_l1Below N.spec_l1Byte G.spec_l1Byte n a0 a1
theorem said_spec_l1Below (a0 : TCur) (a1 : Int) (g : G.spec_l1Below a0 a1 = true) : SaidP Try.prog sigs_42 42 (.pair (.slice 5 (.int .u8)) (.pair (.int .i64) (.int .i64))) a0 [.val (.int .i64) a1] [⟨(.pair (.slice 5 (.int .u8)) (.pair (.int .i64) (.int .i64))), (N.spec_l1Below a0 a1).1⟩, ⟨(.int .i64), (N.spec_l1Below a0 a1).2⟩] := said_lenB (T := tab) (A := A_spec_l1Below) tabOk ok_spec_l1Below tabOk.follows Try.func42 (by kernel_rfl) (by kernel_rfl) (fun hl => ⟨0, (a_spec_l1Below 0 a0 a1).trans (spec_l1Below_ok (ρ := Ret) (fun r0 r1 => some [⟨(.pair (.slice 5 (.int .u8)) (.pair (.int .i64) (.int .i64))), r0⟩, ⟨(.int .i64), r1⟩]) a0 a1 hl.1 g)⟩)
abbrev G.spec_l10Leaves (c : TCur) : Bool := okC c
abbrev N.spec_l10Leaves (c : TCur) : TCur × List Int := leavesC c
def spec_l10Leaves_L0 {ρ : Type} (k : TCur → (List Int) → Option ρ) (L0 : Int → TCur → (List Int) → Option ρ) (v0_0 : Int) (v0_1 : TCur) (v0_2 : (List Int)) : Option ρ := (cond (decide (v0_0 > (0 : Int))) (cond (G.spec_l1Below v0_1 (100 : Int)) (cond (fit (List.length v0_2) (List.length [(N.spec_l1Below v0_1 (100 : Int)).2])) (L0 (IntKind.wrap .i64 (v0_0 - (1 : Int))) (N.spec_l1Below v0_1 (100 : Int)).1 (List.append v0_2 [(N.spec_l1Below v0_1 (100 : Int)).2])) none) none) (k v0_1 v0_2))
def spec_l10Leaves {ρ : Type} (k : TCur → (List Int) → Option ρ) (L0 : Int → TCur → (List Int) → Option ρ) (a0 : TCur) : Option ρ := (cond (G.spec_l1Below a0 (13 : Int)) (L0 (N.spec_l1Below a0 (13 : Int)).2 (N.spec_l1Below a0 (13 : Int)).1 ([] : (List Int))) none)
theorem spec_l10Leaves_ok {ρ : Type} (k : TCur → (List Int) → Option ρ) (a0 : TCur) (l_a0 : (lnL (fun _ => True) a0.1 ∧ (True ∧ True))) (g : G.spec_l10Leaves a0 = true) : ∃ n0, ∀ n, n0 ≤ n → ∀ (L0 : Nat → Int → TCur → (List Int) → Option ρ) (h0 : ∀ ( m : Nat) (v0_0 : Int) (v0_1 : TCur) (v0_2 : (List Int)), L0 (m + 1) v0_0 v0_1 v0_2 = spec_l10Leaves_L0 k (L0 m) v0_0 v0_1 v0_2), spec_l10Leaves k (L0 n) a0 = k (N.spec_l10Leaves a0).1 (N.spec_l10Leaves a0).2 := by
  unfold G.spec_l10Leaves at g
  have hr := below_range a0 (n := 13) (by omega)
  refine ⟨20, fun n hn L0 h0 => ?_⟩
  have go : ∀ (d n : Nat) (c : TCur) (o : List Int), okC c = true → d < n → d ≤ 13 → o.length + d ≤ 100 → L0 n (d : Int) c o = k (leavesGo d c o).1 (leavesGo d c o).2 := by
    intro d
    induction d with
    | zero =>
      intro n c o hc hn _ _
      obtain ⟨m, rfl⟩ : ∃ m, n = m + 1 := ⟨n - 1, by omega⟩
      rw [h0]
      rfl
    | succ d ih =>
      intro n c o hc hn h3 ho
      obtain ⟨m, rfl⟩ : ∃ m, n = m + 1 := ⟨n - 1, by omega⟩
      have e1 : decide (((d + 1 : Nat) : Int) > 0) = true := decide_eq_true (by omega)
      have e2 : IntKind.wrap .i64 (((d + 1 : Nat) : Int) - 1) = (d : Int) := by rw [wrap_id (by omega) (by omega)]; omega
      have hf : ∀ x : Int, fit (List.length o) (List.length [x]) = true := fun x => fit_of (by simp; omega)
      rw [h0]
      simp only [spec_l10Leaves_L0, G.spec_l1Below, N.spec_l1Below, e1, e2, hc, hf, cond_true]
      exact ih m (belowC c 100).1 (o ++ [_]) (okC_below _ hc) (by omega) (by omega) (by simp; omega)
  have e3 : (belowC a0 13).2 = (((belowC a0 13).2.toNat : Nat) : Int) := by omega
  simp only [spec_l10Leaves, G.spec_l1Below, N.spec_l1Below, g, cond_true]
  rw [e3]
  exact go _ n _ [] (okC_below 13 g) (by omega) (by omega) (by simp; omega)
def OP_spec_l10Leaves (f_spec_l1Below : TCur → Int → (TCur × Int)) (g_spec_l1Below : TCur → Int → Bool) : Orac := (orcX 42 [.lend (.pair (.slice 5 (.int .u8)) (.pair (.int .i64) (.int .i64))) .no, .val (.int .i64)] (fun d => g_spec_l1Below d.1 d.2.1) (fun d => [⟨(.pair (.slice 5 (.int .u8)) (.pair (.int .i64) (.int .i64))), (f_spec_l1Below d.1 d.2.1).1⟩, ⟨(.int .i64), (f_spec_l1Below d.1 d.2.1).2⟩]) nilO)
def O_spec_l10Leaves : Orac := OP_spec_l10Leaves N.spec_l1Below G.spec_l1Below
def spec_l10Leaves_P_L0 {ρ : Type} (f_spec_l1Below : TCur → Int → (TCur × Int)) (g_spec_l1Below : TCur → Int → Bool) (k : TCur → (List Int) → Option ρ) (L0 : Int → TCur → (List Int) → Option ρ) (v0_0 : Int) (v0_1 : TCur) (v0_2 : (List Int)) : Option ρ := (cond (decide (v0_0 > (0 : Int))) (cond (g_spec_l1Below v0_1 (100 : Int)) (cond (fit (List.length v0_2) (List.length [(f_spec_l1Below v0_1 (100 : Int)).2])) (L0 (IntKind.wrap .i64 (v0_0 - (1 : Int))) (f_spec_l1Below v0_1 (100 : Int)).1 (List.append v0_2 [(f_spec_l1Below v0_1 (100 : Int)).2])) none) none) (k v0_1 v0_2))
def spec_l10Leaves_P {ρ : Type} (f_spec_l1Below : TCur → Int → (TCur × Int)) (g_spec_l1Below : TCur → Int → Bool) (k : TCur → (List Int) → Option ρ) (L0 : Int → TCur → (List Int) → Option ρ) (a0 : TCur) : Option ρ := (cond (g_spec_l1Below a0 (13 : Int)) (L0 (f_spec_l1Below a0 (13 : Int)).2 (f_spec_l1Below a0 (13 : Int)).1 ([] : (List Int))) none)
theorem ok_spec_l10Leaves : OracOk Try.prog sigs O_spec_l10Leaves := (orcB_ok rfl (fun d g => said_spec_l1Below d.1 d.2.1 g) nilO_ok)
def A_spec_l10Leaves : Ann := fun b => cond (Nat.beq b 0) ⟨[(0, false), (3, true), (4, false)], [(0, false)]⟩ (⟨[], []⟩)
def S_spec_l10Leaves_0 (v0_0 : Int) (v0_1 : TCur) (v0_2 : (List Int)) : St := [(kT 0, some (.tv (.box 0 []))), (kT 3, some (.tv (.v (.slice 3 (.int .i64)) [] (.own 24)))), (kT 4, some (.tv (.v (.int .i64) v0_0 .no))), (kB 0, some (.box (.pair (.slice 5 (.int .u8)) (.pair (.int .i64) (.int .i64))) v0_1 .no)), (kR 24, some (.row 3 (.int .i64) v0_2))]
noncomputable def L_P_spec_l10Leaves_0 (f_spec_l1Below : TCur → Int → (TCur × Int)) (g_spec_l1Below : TCur → Int → Bool) (n m : Nat) : St → Option Ret := loopOfB tab sigs (OP_spec_l10Leaves f_spec_l1Below g_spec_l1Below) A_spec_l10Leaves Try.f41 [((.slice 3 (.int .i64)), (.own 0))] (.pair (.slice 5 (.int .u8)) (.pair (.int .i64) (.int .i64))) n (fun _ => 0) 0 m
noncomputable def L_spec_l10Leaves_0 (n m : Nat) : St → Option Ret := L_P_spec_l10Leaves_0 N.spec_l1Below G.spec_l1Below n m
theorem bP_spec_l10Leaves_0 (f_spec_l1Below : TCur → Int → (TCur × Int)) (g_spec_l1Below : TCur → Int → Bool) (n m : Nat) (v0_0 : Int) (v0_1 : TCur) (v0_2 : (List Int)) : L_P_spec_l10Leaves_0 f_spec_l1Below g_spec_l1Below n (m + 1) (S_spec_l10Leaves_0 v0_0 v0_1 v0_2) = spec_l10Leaves_P_L0 f_spec_l1Below g_spec_l1Below (fun r0 r1 => some [⟨(.pair (.slice 5 (.int .u8)) (.pair (.int .i64) (.int .i64))), r0⟩, ⟨(.slice 3 (.int .i64)), r1⟩]) (fun v0_0 v0_1 v0_2 => L_P_spec_l10Leaves_0 f_spec_l1Below g_spec_l1Below n m (S_spec_l10Leaves_0 v0_0 v0_1 v0_2)) v0_0 v0_1 v0_2 := by kernel_rfl
theorem b_spec_l10Leaves_0 (n m : Nat) (v0_0 : Int) (v0_1 : TCur) (v0_2 : (List Int)) : L_spec_l10Leaves_0 n (m + 1) (S_spec_l10Leaves_0 v0_0 v0_1 v0_2) = spec_l10Leaves_L0 (fun r0 r1 => some [⟨(.pair (.slice 5 (.int .u8)) (.pair (.int .i64) (.int .i64))), r0⟩, ⟨(.slice 3 (.int .i64)), r1⟩]) (fun v0_0 v0_1 v0_2 => L_spec_l10Leaves_0 n m (S_spec_l10Leaves_0 v0_0 v0_1 v0_2)) v0_0 v0_1 v0_2 := bP_spec_l10Leaves_0 N.spec_l1Below G.spec_l1Below n m v0_0 v0_1 v0_2
theorem aP_spec_l10Leaves (f_spec_l1Below : TCur → Int → (TCur × Int)) (g_spec_l1Below : TCur → Int → Bool) (n : Nat) (a0 : TCur) : absFB tab sigs (OP_spec_l10Leaves f_spec_l1Below g_spec_l1Below) A_spec_l10Leaves Try.f41 [((.slice 3 (.int .i64)), (.own 0))] n (.pair (.slice 5 (.int .u8)) (.pair (.int .i64) (.int .i64))) a0 [] = spec_l10Leaves_P f_spec_l1Below g_spec_l1Below (fun r0 r1 => some [⟨(.pair (.slice 5 (.int .u8)) (.pair (.int .i64) (.int .i64))), r0⟩, ⟨(.slice 3 (.int .i64)), r1⟩]) (fun v0_0 v0_1 v0_2 => L_P_spec_l10Leaves_0 f_spec_l1Below g_spec_l1Below n n (S_spec_l10Leaves_0 v0_0 v0_1 v0_2)) a0 := by kernel_rfl
theorem a_spec_l10Leaves (n : Nat) (a0 : TCur) : absFB tab sigs O_spec_l10Leaves A_spec_l10Leaves Try.f41 [((.slice 3 (.int .i64)), (.own 0))] n (.pair (.slice 5 (.int .u8)) (.pair (.int .i64) (.int .i64))) a0 [] = spec_l10Leaves (fun r0 r1 => some [⟨(.pair (.slice 5 (.int .u8)) (.pair (.int .i64) (.int .i64))), r0⟩, ⟨(.slice 3 (.int .i64)), r1⟩]) (fun v0_0 v0_1 v0_2 => L_spec_l10Leaves_0 n n (S_spec_l10Leaves_0 v0_0 v0_1 v0_2)) a0 := aP_spec_l10Leaves N.spec_l1Below G.spec_l1Below n a0
theorem said_spec_l10Leaves (a0 : TCur) (g : G.spec_l10Leaves a0 = true) : SaidP Try.prog sigs_41 41 (.pair (.slice 5 (.int .u8)) (.pair (.int .i64) (.int .i64))) a0 [] [⟨(.pair (.slice 5 (.int .u8)) (.pair (.int .i64) (.int .i64))), (N.spec_l10Leaves a0).1⟩, ⟨(.slice 3 (.int .i64)), (N.spec_l10Leaves a0).2⟩] := said_lenB (T := tab) (A := A_spec_l10Leaves) tabOk ok_spec_l10Leaves tabOk.follows Try.func41 (by kernel_rfl) (by kernel_rfl) (fun hl => let ⟨n, hn⟩ := spec_l10Leaves_ok (ρ := Ret) (fun r0 r1 => some [⟨(.pair (.slice 5 (.int .u8)) (.pair (.int .i64) (.int .i64))), r0⟩, ⟨(.slice 3 (.int .i64)), r1⟩]) a0 hl.1 g; ⟨n, (a_spec_l10Leaves n a0).trans (hn n (Nat.le_refl n) (fun  m v0_0 v0_1 v0_2 => L_spec_l10Leaves_0 n  m (S_spec_l10Leaves_0 v0_0 v0_1 v0_2)) (fun  m v0_0 v0_1 v0_2 => b_spec_l10Leaves_0 n  m v0_0 v0_1 v0_2))⟩)
abbrev G.spec_DrawPathFor (l : List Int) : Bool := decide (l.length ≤ 1048576)
abbrev N.spec_DrawPathFor (l : List Int) : List Int × Int := placeD l
def spec_DrawPathFor {ρ : Type} (k : (List Int) → Int → Option ρ) (a0 : (List Int)) : Option ρ := (cond (G.spec_l1New a0) (cond (G.spec_l10Leaves (N.spec_l1New a0)) (cond (G.spec_l1Below (N.spec_l10Leaves (N.spec_l1New a0)).1 (IntKind.wrap .i64 ((List.length (N.spec_l10Leaves (N.spec_l1New a0)).2 : Int) + (2 : Int)))) (k (N.spec_l10Leaves (N.spec_l1New a0)).2 (IntKind.wrap .i64 ((N.spec_l1Below (N.spec_l10Leaves (N.spec_l1New a0)).1 (IntKind.wrap .i64 ((List.length (N.spec_l10Leaves (N.spec_l1New a0)).2 : Int) + (2 : Int)))).2 - (1 : Int)))) none) none) none)
theorem spec_DrawPathFor_ok {ρ : Type} (k : (List Int) → Int → Option ρ) (a0 : (List Int)) (l_a0 : lnL (fun _ => True) a0) (g : G.spec_DrawPathFor a0 = true) : spec_DrawPathFor k  a0 = k (N.spec_DrawPathFor a0).1 (N.spec_DrawPathFor a0).2 := by
  unfold G.spec_DrawPathFor at g
  have h0 := okC_new (of_decide_eq_true g)
  have h1 := okC_leaves h0
  simp only [spec_DrawPathFor, G.spec_l1New, N.spec_l1New, G.spec_l10Leaves, N.spec_l10Leaves, G.spec_l1Below, N.spec_l1Below, g, h0, h1, cond_true]
  rfl
def OP_spec_DrawPathFor (f_spec_l1New : (List Int) → TCur) (g_spec_l1New : (List Int) → Bool) (f_spec_l10Leaves : TCur → (TCur × (List Int))) (g_spec_l10Leaves : TCur → Bool) (f_spec_l1Below : TCur → Int → (TCur × Int)) (g_spec_l1Below : TCur → Int → Bool) : Orac := (orcX 42 [.lend (.pair (.slice 5 (.int .u8)) (.pair (.int .i64) (.int .i64))) .no, .val (.int .i64)] (fun d => g_spec_l1Below d.1 d.2.1) (fun d => [⟨(.pair (.slice 5 (.int .u8)) (.pair (.int .i64) (.int .i64))), (f_spec_l1Below d.1 d.2.1).1⟩, ⟨(.int .i64), (f_spec_l1Below d.1 d.2.1).2⟩]) (orcX 41 [.lend (.pair (.slice 5 (.int .u8)) (.pair (.int .i64) (.int .i64))) .no] (fun d => g_spec_l10Leaves d.1) (fun d => [⟨(.pair (.slice 5 (.int .u8)) (.pair (.int .i64) (.int .i64))), (f_spec_l10Leaves d.1).1⟩, ⟨(.slice 3 (.int .i64)), (f_spec_l10Leaves d.1).2⟩]) (orcX 40 [.lend .bool .nil, .val (.slice 5 (.int .u8))] (fun d => g_spec_l1New d.2.1) (fun d => [⟨(.pair (.slice 5 (.int .u8)) (.pair (.int .i64) (.int .i64))), f_spec_l1New d.2.1⟩]) nilO)))
def O_spec_DrawPathFor : Orac := OP_spec_DrawPathFor N.spec_l1New G.spec_l1New N.spec_l10Leaves G.spec_l10Leaves N.spec_l1Below G.spec_l1Below
def spec_DrawPathFor_P {ρ : Type} (f_spec_l1New : (List Int) → TCur) (g_spec_l1New : (List Int) → Bool) (f_spec_l10Leaves : TCur → (TCur × (List Int))) (g_spec_l10Leaves : TCur → Bool) (f_spec_l1Below : TCur → Int → (TCur × Int)) (g_spec_l1Below : TCur → Int → Bool) (k : (List Int) → Int → Option ρ) (a0 : (List Int)) : Option ρ := (cond (g_spec_l1New a0) (cond (g_spec_l10Leaves (f_spec_l1New a0)) (cond (g_spec_l1Below (f_spec_l10Leaves (f_spec_l1New a0)).1 (IntKind.wrap .i64 ((List.length (f_spec_l10Leaves (f_spec_l1New a0)).2 : Int) + (2 : Int)))) (k (f_spec_l10Leaves (f_spec_l1New a0)).2 (IntKind.wrap .i64 ((f_spec_l1Below (f_spec_l10Leaves (f_spec_l1New a0)).1 (IntKind.wrap .i64 ((List.length (f_spec_l10Leaves (f_spec_l1New a0)).2 : Int) + (2 : Int)))).2 - (1 : Int)))) none) none) none)
theorem ok_spec_DrawPathFor : OracOk Try.prog sigs O_spec_DrawPathFor := (orcB_ok rfl (fun d g => said_spec_l1Below d.1 d.2.1 g) (orcB_ok rfl (fun d g => said_spec_l10Leaves d.1 g) (orcN_ok rfl (fun d g => said_spec_l1New d.2.1 g) nilO_ok)))
def A_spec_DrawPathFor : Ann := fun b => ⟨[], []⟩
theorem aP_spec_DrawPathFor (f_spec_l1New : (List Int) → TCur) (g_spec_l1New : (List Int) → Bool) (f_spec_l10Leaves : TCur → (TCur × (List Int))) (g_spec_l10Leaves : TCur → Bool) (f_spec_l1Below : TCur → Int → (TCur × Int)) (g_spec_l1Below : TCur → Int → Bool) (n : Nat) (a0 : (List Int)) : absF tab sigs (OP_spec_DrawPathFor f_spec_l1New g_spec_l1New f_spec_l10Leaves g_spec_l10Leaves f_spec_l1Below g_spec_l1Below) A_spec_DrawPathFor Try.f7 [((.slice 3 (.int .i64)), (.own 0)), ((.int .i64), .no)] n [.val (.slice 5 (.int .u8)) a0] = spec_DrawPathFor_P f_spec_l1New g_spec_l1New f_spec_l10Leaves g_spec_l10Leaves f_spec_l1Below g_spec_l1Below (fun r0 r1 => some [⟨(.slice 3 (.int .i64)), r0⟩, ⟨(.int .i64), r1⟩])  a0 := by kernel_rfl
theorem a_spec_DrawPathFor (n : Nat) (a0 : (List Int)) : absF tab sigs O_spec_DrawPathFor A_spec_DrawPathFor Try.f7 [((.slice 3 (.int .i64)), (.own 0)), ((.int .i64), .no)] n [.val (.slice 5 (.int .u8)) a0] = spec_DrawPathFor (fun r0 r1 => some [⟨(.slice 3 (.int .i64)), r0⟩, ⟨(.int .i64), r1⟩])  a0 := aP_spec_DrawPathFor N.spec_l1New G.spec_l1New N.spec_l10Leaves G.spec_l10Leaves N.spec_l1Below G.spec_l1Below n a0
theorem said_spec_DrawPathFor (a0 : (List Int)) (g : G.spec_DrawPathFor a0 = true) : Said Try.prog sigs_7 7 [.val (.slice 5 (.int .u8)) a0] [⟨(.slice 3 (.int .i64)), (N.spec_DrawPathFor a0).1⟩, ⟨(.int .i64), (N.spec_DrawPathFor a0).2⟩] := said_len (T := tab) (A := A_spec_DrawPathFor) tabOk ok_spec_DrawPathFor tabOk.follows Try.func7 (by kernel_rfl) (by kernel_rfl) (fun hl => ⟨0, (a_spec_DrawPathFor 0 a0).trans (spec_DrawPathFor_ok (ρ := Ret) (fun r0 r1 => some [⟨(.slice 3 (.int .i64)), r0⟩, ⟨(.int .i64), r1⟩]) a0 hl.1 g)⟩)
abbrev N.impl_InRange (n lo hi : Int) : Bool := inR n lo hi
def impl_InRange {ρ : Type} (k : Bool → Option ρ) (a0 : Int) (a1 : Int) (a2 : Int) : Option ρ := (cond (decide (a1 ≤ a0)) (k (decide (a0 ≤ a2))) (k false))
theorem impl_InRange_ok {ρ : Type} (k : Bool → Option ρ) (a0 : Int) (a1 : Int) (a2 : Int) : impl_InRange k  a0 a1 a2 = k (N.impl_InRange a0 a1 a2) := by
  simp only [impl_InRange, inR]
  cases decide (a1 ≤ a0) <;> rfl
def O_impl_InRange : Orac := nilO
theorem ok_impl_InRange : OracOk Try.prog sigs O_impl_InRange := nilO_ok
def A_impl_InRange : Ann := fun b => ⟨[], []⟩
theorem a_impl_InRange (n : Nat) (a0 : Int) (a1 : Int) (a2 : Int) : absF tab sigs O_impl_InRange A_impl_InRange Try.f43 [(.bool, .no)] n [.val (.int .i64) a0, .val (.int .i64) a1, .val (.int .i64) a2] = impl_InRange (fun r0 => some [⟨.bool, r0⟩])  a0 a1 a2 := by kernel_rfl
theorem said_impl_InRange (a0 : Int) (a1 : Int) (a2 : Int) : Said Try.prog sigs_43 43 [.val (.int .i64) a0, .val (.int .i64) a1, .val (.int .i64) a2] [⟨.bool, N.impl_InRange a0 a1 a2⟩] := said_len (T := tab) (A := A_impl_InRange) tabOk ok_impl_InRange tabOk.follows Try.func43 (by kernel_rfl) (by kernel_rfl) (fun hl => ⟨0, (a_impl_InRange 0 a0 a1 a2).trans (impl_InRange_ok (ρ := Ret) (fun r0 => some [⟨.bool, r0⟩]) a0 a1 a2)⟩)
abbrev N.spec_l1In (n lo hi : Int) : Bool := inR n lo hi
def spec_l1In {ρ : Type} (k : Bool → Option ρ) (a0 : Int) (a1 : Int) (a2 : Int) : Option ρ := (cond (decide (a0 ≥ a1)) (k (decide (a0 ≤ a2))) (k false))
theorem spec_l1In_ok {ρ : Type} (k : Bool → Option ρ) (a0 : Int) (a1 : Int) (a2 : Int) : spec_l1In k  a0 a1 a2 = k (N.spec_l1In a0 a1 a2) := by
  simp only [spec_l1In, inR, ge_iff_le]
  cases decide (a1 ≤ a0) <;> rfl
def O_spec_l1In : Orac := nilO
theorem ok_spec_l1In : OracOk Try.prog sigs O_spec_l1In := nilO_ok
def A_spec_l1In : Ann := fun b => ⟨[], []⟩
theorem a_spec_l1In (n : Nat) (a0 : Int) (a1 : Int) (a2 : Int) : absF tab sigs O_spec_l1In A_spec_l1In Try.f45 [(.bool, .no)] n [.val (.int .i64) a0, .val (.int .i64) a1, .val (.int .i64) a2] = spec_l1In (fun r0 => some [⟨.bool, r0⟩])  a0 a1 a2 := by kernel_rfl
theorem said_spec_l1In (a0 : Int) (a1 : Int) (a2 : Int) : Said Try.prog sigs_45 45 [.val (.int .i64) a0, .val (.int .i64) a1, .val (.int .i64) a2] [⟨.bool, N.spec_l1In a0 a1 a2⟩] := said_len (T := tab) (A := A_spec_l1In) tabOk ok_spec_l1In tabOk.follows Try.func45 (by kernel_rfl) (by kernel_rfl) (fun hl => ⟨0, (a_spec_l1In 0 a0 a1 a2).trans (spec_l1In_ok (ρ := Ret) (fun r0 => some [⟨.bool, r0⟩]) a0 a1 a2)⟩)
abbrev N.spec_Mod (n m : Int) : Int := modM n m
def spec_Mod {ρ : Type} (k : Int → Option ρ) (a0 : Int) (a1 : Int) : Option ρ := (cond (!(N.spec_l1In a1 (1 : Int) (1000000000000 : Int))) (k (0 : Int)) (cond (!(decide (a1 = 0))) (cond (!(decide (a1 = 0))) (k (Int.tmod (IntKind.wrap .i64 ((Int.tmod a0 a1) + a1)) a1)) none) none))
theorem spec_Mod_ok {ρ : Type} (k : Int → Option ρ) (a0 : Int) (a1 : Int) : spec_Mod k  a0 a1 = k (N.spec_Mod a0 a1) := by
  simp only [spec_Mod, N.spec_l1In, modM]
  cases h : inR a1 1 1000000000000
  · rfl
  · have h1 : 1 ≤ a1 := by
      unfold inR at h
      simp only [Bool.and_eq_true, decide_eq_true_eq] at h
      exact h.1
    have h2 : decide (a1 = 0) = false := by simp; omega
    simp [h2]
def OP_spec_Mod (f_spec_l1In : Int → Int → Int → Bool) : Orac := (orcX 45 [.val (.int .i64), .val (.int .i64), .val (.int .i64)] (fun d => true) (fun d => [⟨.bool, f_spec_l1In d.1 d.2.1 d.2.2.1⟩]) nilO)
def O_spec_Mod : Orac := OP_spec_Mod N.spec_l1In
def spec_Mod_P {ρ : Type} (f_spec_l1In : Int → Int → Int → Bool) (k : Int → Option ρ) (a0 : Int) (a1 : Int) : Option ρ := (cond (!(f_spec_l1In a1 (1 : Int) (1000000000000 : Int))) (k (0 : Int)) (cond (!(decide (a1 = 0))) (cond (!(decide (a1 = 0))) (k (Int.tmod (IntKind.wrap .i64 ((Int.tmod a0 a1) + a1)) a1)) none) none))
theorem ok_spec_Mod : OracOk Try.prog sigs O_spec_Mod := (orcX_ok rfl rfl (fun d g => said_spec_l1In d.1 d.2.1 d.2.2.1) nilO_ok)
def A_spec_Mod : Ann := fun b => ⟨[], []⟩
theorem aP_spec_Mod (f_spec_l1In : Int → Int → Int → Bool) (n : Nat) (a0 : Int) (a1 : Int) : absF tab sigs (OP_spec_Mod f_spec_l1In) A_spec_Mod Try.f80 [((.int .i64), .no)] n [.val (.int .i64) a0, .val (.int .i64) a1] = spec_Mod_P f_spec_l1In (fun r0 => some [⟨(.int .i64), r0⟩])  a0 a1 := by kernel_rfl
theorem a_spec_Mod (n : Nat) (a0 : Int) (a1 : Int) : absF tab sigs O_spec_Mod A_spec_Mod Try.f80 [((.int .i64), .no)] n [.val (.int .i64) a0, .val (.int .i64) a1] = spec_Mod (fun r0 => some [⟨(.int .i64), r0⟩])  a0 a1 := aP_spec_Mod N.spec_l1In n a0 a1
theorem said_spec_Mod (a0 : Int) (a1 : Int) : Said Try.prog sigs_80 80 [.val (.int .i64) a0, .val (.int .i64) a1] [⟨(.int .i64), N.spec_Mod a0 a1⟩] := said_len (T := tab) (A := A_spec_Mod) tabOk ok_spec_Mod tabOk.follows Try.func80 (by kernel_rfl) (by kernel_rfl) (fun hl => ⟨0, (a_spec_Mod 0 a0 a1).trans (spec_Mod_ok (ρ := Ret) (fun r0 => some [⟨(.int .i64), r0⟩]) a0 a1)⟩)
abbrev N.spec_Hash (l : List Int) : Int := hash l
def spec_Hash_L0 {ρ : Type} (k : Int → Option ρ) (L0 : (List Int) → Int → Int → Option ρ) (v0_0 : (List Int)) (v0_1 : Int) (v0_2 : Int) : Option ρ := (cond (decide (v0_2 < (List.length v0_0 : Int))) (cond (inRange v0_2 (List.length v0_0)) (L0 v0_0 (Int.tmod (IntKind.wrap .i64 ((IntKind.wrap .i64 ((IntKind.wrap .i64 (v0_1 * (1000003 : Int))) + (N.spec_Mod (List.getD v0_0 (Int.toNat v0_2) (0 : Int)) (2147483647 : Int)))) + (13 : Int))) (2147483647 : Int)) (IntKind.wrap .i64 (v0_2 + (1 : Int)))) none) (k v0_1))
def spec_Hash {ρ : Type} (k : Int → Option ρ) (L0 : (List Int) → Int → Int → Option ρ) (a0 : (List Int)) : Option ρ := (L0 a0 (11 : Int) (0 : Int))
theorem spec_Hash_ok {ρ : Type} (k : Int → Option ρ) (a0 : (List Int)) (l_a0 : lnL (fun _ => True) a0) : ∃ n0, ∀ n, n0 ≤ n → ∀ (L0 : Nat → (List Int) → Int → Int → Option ρ) (h0 : ∀ ( m : Nat) (v0_0 : (List Int)) (v0_1 : Int) (v0_2 : Int), L0 (m + 1) v0_0 v0_1 v0_2 = spec_Hash_L0 k (L0 m) v0_0 v0_1 v0_2), spec_Hash k (L0 n) a0 = k (N.spec_Hash a0) := by
  refine ⟨a0.length + 1, fun n hn L0 h0 => ?_⟩
  refine raw_foldl (a := a0) 0 hashStep (k := k) (L := fun m i s => L0 m a0 s i) (R := fun i s c => spec_Hash_L0 k (fun _ s i => c i s) a0 s i) (fun m i s => h0 m a0 s i) (fun _ _ => True) (fun j s c hj _ => ?_) (fun _ _ _ _ => trivial) (fun s c => ?_) hn trivial
  · have : j < big := by have := l_a0.1; omega
    simp [spec_Hash_L0, lt_nat, inRange_nat, hj, wrap_succ this, hashStep]
  · simp [spec_Hash_L0]
def OP_spec_Hash (f_spec_Mod : Int → Int → Int) : Orac := (orcX 80 [.val (.int .i64), .val (.int .i64)] (fun d => true) (fun d => [⟨(.int .i64), f_spec_Mod d.1 d.2.1⟩]) nilO)
def O_spec_Hash : Orac := OP_spec_Hash N.spec_Mod
def spec_Hash_P_L0 {ρ : Type} (f_spec_Mod : Int → Int → Int) (k : Int → Option ρ) (L0 : (List Int) → Int → Int → Option ρ) (v0_0 : (List Int)) (v0_1 : Int) (v0_2 : Int) : Option ρ := (cond (decide (v0_2 < (List.length v0_0 : Int))) (cond (inRange v0_2 (List.length v0_0)) (L0 v0_0 (Int.tmod (IntKind.wrap .i64 ((IntKind.wrap .i64 ((IntKind.wrap .i64 (v0_1 * (1000003 : Int))) + (f_spec_Mod (List.getD v0_0 (Int.toNat v0_2) (0 : Int)) (2147483647 : Int)))) + (13 : Int))) (2147483647 : Int)) (IntKind.wrap .i64 (v0_2 + (1 : Int)))) none) (k v0_1))
def spec_Hash_P {ρ : Type} (f_spec_Mod : Int → Int → Int) (k : Int → Option ρ) (L0 : (List Int) → Int → Int → Option ρ) (a0 : (List Int)) : Option ρ := (L0 a0 (11 : Int) (0 : Int))
theorem ok_spec_Hash : OracOk Try.prog sigs O_spec_Hash := (orcX_ok rfl rfl (fun d g => said_spec_Mod d.1 d.2.1) nilO_ok)
def A_spec_Hash : Ann := fun b => cond (Nat.beq b 0) ⟨[(0, false), (3, false), (4, false)], []⟩ (⟨[], []⟩)
def S_spec_Hash_0 (v0_0 : (List Int)) (v0_1 : Int) (v0_2 : Int) : St := [(kT 0, some (.tv (.v (.slice 3 (.int .i64)) v0_0 .no))), (kT 3, some (.tv (.v (.int .i64) v0_1 .no))), (kT 4, some (.tv (.v (.int .i64) v0_2 .no)))]
noncomputable def L_P_spec_Hash_0 (f_spec_Mod : Int → Int → Int) (n m : Nat) : St → Option Ret := loopOf tab sigs (OP_spec_Hash f_spec_Mod) A_spec_Hash Try.f48 [((.int .i64), .no)] n (fun _ => 0) 0 m
noncomputable def L_spec_Hash_0 (n m : Nat) : St → Option Ret := L_P_spec_Hash_0 N.spec_Mod n m
theorem bP_spec_Hash_0 (f_spec_Mod : Int → Int → Int) (n m : Nat) (v0_0 : (List Int)) (v0_1 : Int) (v0_2 : Int) : L_P_spec_Hash_0 f_spec_Mod n (m + 1) (S_spec_Hash_0 v0_0 v0_1 v0_2) = spec_Hash_P_L0 f_spec_Mod (fun r0 => some [⟨(.int .i64), r0⟩]) (fun v0_0 v0_1 v0_2 => L_P_spec_Hash_0 f_spec_Mod n m (S_spec_Hash_0 v0_0 v0_1 v0_2)) v0_0 v0_1 v0_2 := by kernel_rfl
theorem b_spec_Hash_0 (n m : Nat) (v0_0 : (List Int)) (v0_1 : Int) (v0_2 : Int) : L_spec_Hash_0 n (m + 1) (S_spec_Hash_0 v0_0 v0_1 v0_2) = spec_Hash_L0 (fun r0 => some [⟨(.int .i64), r0⟩]) (fun v0_0 v0_1 v0_2 => L_spec_Hash_0 n m (S_spec_Hash_0 v0_0 v0_1 v0_2)) v0_0 v0_1 v0_2 := bP_spec_Hash_0 N.spec_Mod n m v0_0 v0_1 v0_2
theorem aP_spec_Hash (f_spec_Mod : Int → Int → Int) (n : Nat) (a0 : (List Int)) : absF tab sigs (OP_spec_Hash f_spec_Mod) A_spec_Hash Try.f48 [((.int .i64), .no)] n [.val (.slice 3 (.int .i64)) a0] = spec_Hash_P f_spec_Mod (fun r0 => some [⟨(.int .i64), r0⟩]) (fun v0_0 v0_1 v0_2 => L_P_spec_Hash_0 f_spec_Mod n n (S_spec_Hash_0 v0_0 v0_1 v0_2)) a0 := by kernel_rfl
theorem a_spec_Hash (n : Nat) (a0 : (List Int)) : absF tab sigs O_spec_Hash A_spec_Hash Try.f48 [((.int .i64), .no)] n [.val (.slice 3 (.int .i64)) a0] = spec_Hash (fun r0 => some [⟨(.int .i64), r0⟩]) (fun v0_0 v0_1 v0_2 => L_spec_Hash_0 n n (S_spec_Hash_0 v0_0 v0_1 v0_2)) a0 := aP_spec_Hash N.spec_Mod n a0
theorem said_spec_Hash (a0 : (List Int)) : Said Try.prog sigs_48 48 [.val (.slice 3 (.int .i64)) a0] [⟨(.int .i64), N.spec_Hash a0⟩] := said_len (T := tab) (A := A_spec_Hash) tabOk ok_spec_Hash tabOk.follows Try.func48 (by kernel_rfl) (by kernel_rfl) (fun hl => let ⟨n, hn⟩ := spec_Hash_ok (ρ := Ret) (fun r0 => some [⟨(.int .i64), r0⟩]) a0 hl.1; ⟨n, (a_spec_Hash n a0).trans (hn n (Nat.le_refl n) (fun  m v0_0 v0_1 v0_2 => L_spec_Hash_0 n  m (S_spec_Hash_0 v0_0 v0_1 v0_2)) (fun  m v0_0 v0_1 v0_2 => b_spec_Hash_0 n  m v0_0 v0_1 v0_2))⟩)
abbrev N.spec_NodeOf (a b : Int) : Int := nodeOf a b
def spec_NodeOf {ρ : Type} (k : Int → Option ρ) (a0 : Int) (a1 : Int) : Option ρ := (k (N.spec_Hash [(229 : Int), a0, a1]))
theorem spec_NodeOf_ok {ρ : Type} (k : Int → Option ρ) (a0 : Int) (a1 : Int) : spec_NodeOf k  a0 a1 = k (N.spec_NodeOf a0 a1) := by
  rfl
def OP_spec_NodeOf (f_spec_Hash : (List Int) → Int) : Orac := (orcX 48 [.val (.slice 3 (.int .i64))] (fun d => true) (fun d => [⟨(.int .i64), f_spec_Hash d.1⟩]) nilO)
def O_spec_NodeOf : Orac := OP_spec_NodeOf N.spec_Hash
def spec_NodeOf_P {ρ : Type} (f_spec_Hash : (List Int) → Int) (k : Int → Option ρ) (a0 : Int) (a1 : Int) : Option ρ := (k (f_spec_Hash [(229 : Int), a0, a1]))
theorem ok_spec_NodeOf : OracOk Try.prog sigs O_spec_NodeOf := (orcX_ok rfl rfl (fun d g => said_spec_Hash d.1) nilO_ok)
def A_spec_NodeOf : Ann := fun b => ⟨[], []⟩
theorem aP_spec_NodeOf (f_spec_Hash : (List Int) → Int) (n : Nat) (a0 : Int) (a1 : Int) : absF tab sigs (OP_spec_NodeOf f_spec_Hash) A_spec_NodeOf Try.f50 [((.int .i64), .no)] n [.val (.int .i64) a0, .val (.int .i64) a1] = spec_NodeOf_P f_spec_Hash (fun r0 => some [⟨(.int .i64), r0⟩])  a0 a1 := by kernel_rfl
theorem a_spec_NodeOf (n : Nat) (a0 : Int) (a1 : Int) : absF tab sigs O_spec_NodeOf A_spec_NodeOf Try.f50 [((.int .i64), .no)] n [.val (.int .i64) a0, .val (.int .i64) a1] = spec_NodeOf (fun r0 => some [⟨(.int .i64), r0⟩])  a0 a1 := aP_spec_NodeOf N.spec_Hash n a0 a1
theorem said_spec_NodeOf (a0 : Int) (a1 : Int) : Said Try.prog sigs_50 50 [.val (.int .i64) a0, .val (.int .i64) a1] [⟨(.int .i64), N.spec_NodeOf a0 a1⟩] := said_len (T := tab) (A := A_spec_NodeOf) tabOk ok_spec_NodeOf tabOk.follows Try.func50 (by kernel_rfl) (by kernel_rfl) (fun hl => ⟨0, (a_spec_NodeOf 0 a0 a1).trans (spec_NodeOf_ok (ρ := Ret) (fun r0 => some [⟨(.int .i64), r0⟩]) a0 a1)⟩)
abbrev G.spec_l10Up (l : List Int) : Bool := decide (l.length ≤ 1048576)
abbrev N.spec_l10Up (l : List Int) : List Int := up l
def spec_l10Up_P_L0 {ρ : Type} (f_spec_NodeOf : Int → Int → Int) (k : (List Int) → Option ρ) (L0 : (List Int) → Int → (List Int) → Option ρ) (v0_0 : (List Int)) (v0_1 : Int) (v0_2 : (List Int)) : Option ρ := (cond (decide (v0_1 < (List.length v0_0 : Int))) (cond (decide ((IntKind.wrap .i64 (v0_1 + (1 : Int))) < (List.length v0_0 : Int))) (cond (inRange v0_1 (List.length v0_0)) (cond (inRange (IntKind.wrap .i64 (v0_1 + (1 : Int))) (List.length v0_0)) (cond (fit (List.length v0_2) (List.length [(f_spec_NodeOf (List.getD v0_0 (Int.toNat v0_1) (0 : Int)) (List.getD v0_0 (Int.toNat (IntKind.wrap .i64 (v0_1 + (1 : Int)))) (0 : Int)))])) (L0 v0_0 (IntKind.wrap .i64 (v0_1 + (2 : Int))) (List.append v0_2 [(f_spec_NodeOf (List.getD v0_0 (Int.toNat v0_1) (0 : Int)) (List.getD v0_0 (Int.toNat (IntKind.wrap .i64 (v0_1 + (1 : Int)))) (0 : Int)))])) none) none) none) (cond (inRange v0_1 (List.length v0_0)) (cond (fit (List.length v0_2) (List.length [(List.getD v0_0 (Int.toNat v0_1) (0 : Int))])) (L0 v0_0 (IntKind.wrap .i64 (v0_1 + (2 : Int))) (List.append v0_2 [(List.getD v0_0 (Int.toNat v0_1) (0 : Int))])) none) none)) (k v0_2))
def spec_l10Up_P {ρ : Type} (f_spec_NodeOf : Int → Int → Int) (k : (List Int) → Option ρ) (L0 : (List Int) → Int → (List Int) → Option ρ) (a0 : (List Int)) : Option ρ := (L0 a0 (0 : Int) ([] : (List Int)))
def spec_l10Up_L0 {ρ : Type} (k : (List Int) → Option ρ) (L0 : (List Int) → Int → (List Int) → Option ρ) (v0_0 : (List Int)) (v0_1 : Int) (v0_2 : (List Int)) : Option ρ := spec_l10Up_P_L0 N.spec_NodeOf k L0 v0_0 v0_1 v0_2
def spec_l10Up {ρ : Type} (k : (List Int) → Option ρ) (L0 : (List Int) → Int → (List Int) → Option ρ) (a0 : (List Int)) : Option ρ := spec_l10Up_P N.spec_NodeOf k L0 a0
theorem spec_l10Up_ok {ρ : Type} (k : (List Int) → Option ρ) (a0 : (List Int)) (l_a0 : lnL (fun _ => True) a0) (g : G.spec_l10Up a0 = true) : ∃ n0, ∀ n, n0 ≤ n → ∀ (L0 : Nat → (List Int) → Int → (List Int) → Option ρ) (h0 : ∀ ( m : Nat) (v0_0 : (List Int)) (v0_1 : Int) (v0_2 : (List Int)), L0 (m + 1) v0_0 v0_1 v0_2 = spec_l10Up_L0 k (L0 m) v0_0 v0_1 v0_2), spec_l10Up k (L0 n) a0 = k (N.spec_l10Up a0) := by
  unfold G.spec_l10Up at g
  have hlen : a0.length ≤ 1048576 := of_decide_eq_true g
  refine ⟨a0.length + 1, fun n hn L0 h0 => ?_⟩
  refine (raw_meas (σ := Int × List Int) (L := fun m s => L0 m a0 s.1 s.2) (R := fun s c => spec_l10Up_L0 k (fun _ i out => c (i, out)) a0 s.1 s.2) (fun m s => h0 m a0 s.1 s.2) (fun s => 0 ≤ s.1 ∧ s.2.length + s.1 ≤ 2097160 ∧ s.1 ≤ a0.length + 1 ∧ s.2.length ≤ s.1) (fun s => a0.length - s.1.toNat) (fun s => k (s.2 ++ up (a0.drop s.1.toNat))) (fun s c hI hc => ?_) n (0, []) ⟨by simp, by simp, by simp; omega, by simp⟩ (by simp; omega)).trans (by simp)
  obtain ⟨j, out⟩ := s
  obtain ⟨hj0, hj1, hj2, hj3⟩ := hI
  dsimp only at hj0 hj1 hj2 hj3 hc ⊢
  obtain ⟨j, rfl⟩ := Int.eq_ofNat_of_zero_le hj0
  rw [Int.toNat_natCast]
  by_cases h : j < a0.length
  · have e1 : IntKind.wrap .i64 ((j : Int) + 2) = ((j + 2 : Nat) : Int) := by rw [wrap_id (by omega) (by omega)]; omega
    have e2 : IntKind.wrap .i64 ((j : Int) + 1) = ((j + 1 : Nat) : Int) := wrap_succ (by unfold big; omega)
    have e3 : fit out.length 1 = true := fit_of (by omega)
    by_cases h2 : j + 1 < a0.length
    · have hd : a0.drop j = a0.getD j 0 :: a0.getD (j + 1) 0 :: a0.drop (j + 2) := by rw [drop_cons 0 h, drop_cons 0 h2]
      have := hc (((j + 2 : Nat) : Int), out ++ [nodeOf (a0.getD j 0) (a0.getD (j + 1) 0)]) ⟨by simp; omega, by simp; omega, by simp; omega, by simp; omega⟩ (by simp; omega)
      dsimp only at this
      rw [Int.toNat_natCast] at this
      simp only [spec_l10Up_L0, spec_l10Up_P_L0, e1, e2, lt_nat, inRange_nat, decide_eq_true h, decide_eq_true h2, cond_true, Int.toNat_natCast, List.length_singleton, Int.natCast_one, e3, List.append_eq, this, hd]
      simp [up]
    · have hd : a0.drop j = [a0.getD j 0] := by rw [drop_cons 0 h, List.drop_of_length_le (by omega)]
      have := hc (((j + 2 : Nat) : Int), out ++ [a0.getD j 0]) ⟨by simp; omega, by simp; omega, by simp; omega, by simp; omega⟩ (by simp; omega)
      dsimp only at this
      rw [Int.toNat_natCast, List.drop_of_length_le (by omega)] at this
      simp only [spec_l10Up_L0, spec_l10Up_P_L0, e1, e2, lt_nat, inRange_nat, decide_eq_true h, decide_eq_false h2, cond_true, cond_false, Int.toNat_natCast, List.length_singleton, Int.natCast_one, e3, List.append_eq, this, hd]
      simp [up]
  · simp [spec_l10Up_L0, spec_l10Up_P_L0, lt_nat, h, List.drop_of_length_le (Nat.not_lt.1 h), up]
def OP_spec_l10Up (f_spec_NodeOf : Int → Int → Int) : Orac := (orcX 50 [.val (.int .i64), .val (.int .i64)] (fun d => true) (fun d => [⟨(.int .i64), f_spec_NodeOf d.1 d.2.1⟩]) nilO)
def O_spec_l10Up : Orac := OP_spec_l10Up N.spec_NodeOf
theorem ok_spec_l10Up : OracOk Try.prog sigs O_spec_l10Up := (orcX_ok rfl rfl (fun d g => said_spec_NodeOf d.1 d.2.1) nilO_ok)
def A_spec_l10Up : Ann := fun b => cond (Nat.beq b 0) ⟨[(0, false), (3, true), (4, false)], []⟩ (⟨[], []⟩)
def S_spec_l10Up_0 (v0_0 : (List Int)) (v0_1 : Int) (v0_2 : (List Int)) : St := [(kT 0, some (.tv (.v (.slice 3 (.int .i64)) v0_0 .no))), (kT 3, some (.tv (.v (.slice 3 (.int .i64)) [] (.own 24)))), (kT 4, some (.tv (.v (.int .i64) v0_1 .no))), (kR 24, some (.row 3 (.int .i64) v0_2))]
noncomputable def L_P_spec_l10Up_0 (f_spec_NodeOf : Int → Int → Int) (n m : Nat) : St → Option Ret := loopOf tab sigs (OP_spec_l10Up f_spec_NodeOf) A_spec_l10Up Try.f46 [((.slice 3 (.int .i64)), (.own 0))] n (fun _ => 0) 0 m
noncomputable def L_spec_l10Up_0 (n m : Nat) : St → Option Ret := L_P_spec_l10Up_0 N.spec_NodeOf n m
theorem bP_spec_l10Up_0 (f_spec_NodeOf : Int → Int → Int) (n m : Nat) (v0_0 : (List Int)) (v0_1 : Int) (v0_2 : (List Int)) : L_P_spec_l10Up_0 f_spec_NodeOf n (m + 1) (S_spec_l10Up_0 v0_0 v0_1 v0_2) = spec_l10Up_P_L0 f_spec_NodeOf (fun r0 => some [⟨(.slice 3 (.int .i64)), r0⟩]) (fun v0_0 v0_1 v0_2 => L_P_spec_l10Up_0 f_spec_NodeOf n m (S_spec_l10Up_0 v0_0 v0_1 v0_2)) v0_0 v0_1 v0_2 := by kernel_rfl
theorem b_spec_l10Up_0 (n m : Nat) (v0_0 : (List Int)) (v0_1 : Int) (v0_2 : (List Int)) : L_spec_l10Up_0 n (m + 1) (S_spec_l10Up_0 v0_0 v0_1 v0_2) = spec_l10Up_L0 (fun r0 => some [⟨(.slice 3 (.int .i64)), r0⟩]) (fun v0_0 v0_1 v0_2 => L_spec_l10Up_0 n m (S_spec_l10Up_0 v0_0 v0_1 v0_2)) v0_0 v0_1 v0_2 := bP_spec_l10Up_0 N.spec_NodeOf n m v0_0 v0_1 v0_2
theorem aP_spec_l10Up (f_spec_NodeOf : Int → Int → Int) (n : Nat) (a0 : (List Int)) : absF tab sigs (OP_spec_l10Up f_spec_NodeOf) A_spec_l10Up Try.f46 [((.slice 3 (.int .i64)), (.own 0))] n [.val (.slice 3 (.int .i64)) a0] = spec_l10Up_P f_spec_NodeOf (fun r0 => some [⟨(.slice 3 (.int .i64)), r0⟩]) (fun v0_0 v0_1 v0_2 => L_P_spec_l10Up_0 f_spec_NodeOf n n (S_spec_l10Up_0 v0_0 v0_1 v0_2)) a0 := by kernel_rfl
theorem a_spec_l10Up (n : Nat) (a0 : (List Int)) : absF tab sigs O_spec_l10Up A_spec_l10Up Try.f46 [((.slice 3 (.int .i64)), (.own 0))] n [.val (.slice 3 (.int .i64)) a0] = spec_l10Up (fun r0 => some [⟨(.slice 3 (.int .i64)), r0⟩]) (fun v0_0 v0_1 v0_2 => L_spec_l10Up_0 n n (S_spec_l10Up_0 v0_0 v0_1 v0_2)) a0 := aP_spec_l10Up N.spec_NodeOf n a0
theorem said_spec_l10Up (a0 : (List Int)) (g : G.spec_l10Up a0 = true) : Said Try.prog sigs_46 46 [.val (.slice 3 (.int .i64)) a0] [⟨(.slice 3 (.int .i64)), N.spec_l10Up a0⟩] := said_len (T := tab) (A := A_spec_l10Up) tabOk ok_spec_l10Up tabOk.follows Try.func46 (by kernel_rfl) (by kernel_rfl) (fun hl => let ⟨n, hn⟩ := spec_l10Up_ok (ρ := Ret) (fun r0 => some [⟨(.slice 3 (.int .i64)), r0⟩]) a0 hl.1 g; ⟨n, (a_spec_l10Up n a0).trans (hn n (Nat.le_refl n) (fun  m v0_0 v0_1 v0_2 => L_spec_l10Up_0 n  m (S_spec_l10Up_0 v0_0 v0_1 v0_2)) (fun  m v0_0 v0_1 v0_2 => b_spec_l10Up_0 n  m v0_0 v0_1 v0_2))⟩)
abbrev N.impl_Mod (n m : Int) : Int := modM n m
def impl_Mod {ρ : Type} (k : Int → Option ρ) (a0 : Int) (a1 : Int) : Option ρ := (cond (!(N.impl_InRange a1 (1 : Int) (1000000000000 : Int))) (k (0 : Int)) (cond (!(decide (a1 = 0))) (cond (!(decide (a1 = 0))) (k (Int.tmod (IntKind.wrap .i64 ((Int.tmod a0 a1) + a1)) a1)) none) none))
theorem impl_Mod_ok {ρ : Type} (k : Int → Option ρ) (a0 : Int) (a1 : Int) : impl_Mod k  a0 a1 = k (N.impl_Mod a0 a1) := by
  simp only [impl_Mod, N.impl_InRange, modM]
  cases h : inR a1 1 1000000000000
  · rfl
  · have h1 : 1 ≤ a1 := by
      unfold inR at h
      simp only [Bool.and_eq_true, decide_eq_true_eq] at h
      exact h.1
    have h2 : decide (a1 = 0) = false := by simp; omega
    simp [h2]
def OP_impl_Mod (f_impl_InRange : Int → Int → Int → Bool) : Orac := (orcX 43 [.val (.int .i64), .val (.int .i64), .val (.int .i64)] (fun d => true) (fun d => [⟨.bool, f_impl_InRange d.1 d.2.1 d.2.2.1⟩]) nilO)
def O_impl_Mod : Orac := OP_impl_Mod N.impl_InRange
def impl_Mod_P {ρ : Type} (f_impl_InRange : Int → Int → Int → Bool) (k : Int → Option ρ) (a0 : Int) (a1 : Int) : Option ρ := (cond (!(f_impl_InRange a1 (1 : Int) (1000000000000 : Int))) (k (0 : Int)) (cond (!(decide (a1 = 0))) (cond (!(decide (a1 = 0))) (k (Int.tmod (IntKind.wrap .i64 ((Int.tmod a0 a1) + a1)) a1)) none) none))
theorem ok_impl_Mod : OracOk Try.prog sigs O_impl_Mod := (orcX_ok rfl rfl (fun d g => said_impl_InRange d.1 d.2.1 d.2.2.1) nilO_ok)
def A_impl_Mod : Ann := fun b => ⟨[], []⟩
theorem aP_impl_Mod (f_impl_InRange : Int → Int → Int → Bool) (n : Nat) (a0 : Int) (a1 : Int) : absF tab sigs (OP_impl_Mod f_impl_InRange) A_impl_Mod Try.f105 [((.int .i64), .no)] n [.val (.int .i64) a0, .val (.int .i64) a1] = impl_Mod_P f_impl_InRange (fun r0 => some [⟨(.int .i64), r0⟩])  a0 a1 := by kernel_rfl
theorem a_impl_Mod (n : Nat) (a0 : Int) (a1 : Int) : absF tab sigs O_impl_Mod A_impl_Mod Try.f105 [((.int .i64), .no)] n [.val (.int .i64) a0, .val (.int .i64) a1] = impl_Mod (fun r0 => some [⟨(.int .i64), r0⟩])  a0 a1 := aP_impl_Mod N.impl_InRange n a0 a1
theorem said_impl_Mod (a0 : Int) (a1 : Int) : Said Try.prog sigs_105 105 [.val (.int .i64) a0, .val (.int .i64) a1] [⟨(.int .i64), N.impl_Mod a0 a1⟩] := said_len (T := tab) (A := A_impl_Mod) tabOk ok_impl_Mod tabOk.follows Try.func105 (by kernel_rfl) (by kernel_rfl) (fun hl => ⟨0, (a_impl_Mod 0 a0 a1).trans (impl_Mod_ok (ρ := Ret) (fun r0 => some [⟨(.int .i64), r0⟩]) a0 a1)⟩)
abbrev N.impl_Hash (l : List Int) : Int := hash l
def impl_Hash_L0 {ρ : Type} (k : Int → Option ρ) (L0 : Int → (List Int) → Int → Int → Option ρ) (v0_0 : Int) (v0_1 : (List Int)) (v0_2 : Int) (v0_3 : Int) : Option ρ := (cond (decide (v0_3 < v0_2)) (cond (inRange v0_3 (List.length v0_1)) (L0 (Int.tmod (IntKind.wrap .i64 ((IntKind.wrap .i64 ((IntKind.wrap .i64 (v0_0 * (1000003 : Int))) + (N.impl_Mod (List.getD v0_1 (Int.toNat v0_3) (0 : Int)) (2147483647 : Int)))) + (13 : Int))) (2147483647 : Int)) v0_1 v0_2 (IntKind.wrap .i64 (v0_3 + (1 : Int)))) none) (k v0_0))
def impl_Hash {ρ : Type} (k : Int → Option ρ) (L0 : Int → (List Int) → Int → Int → Option ρ) (a0 : (List Int)) : Option ρ := (L0 (11 : Int) a0 (List.length a0 : Int) (0 : Int))
theorem impl_Hash_ok {ρ : Type} (k : Int → Option ρ) (a0 : (List Int)) (l_a0 : lnL (fun _ => True) a0) : ∃ n0, ∀ n, n0 ≤ n → ∀ (L0 : Nat → Int → (List Int) → Int → Int → Option ρ) (h0 : ∀ ( m : Nat) (v0_0 : Int) (v0_1 : (List Int)) (v0_2 : Int) (v0_3 : Int), L0 (m + 1) v0_0 v0_1 v0_2 v0_3 = impl_Hash_L0 k (L0 m) v0_0 v0_1 v0_2 v0_3), impl_Hash k (L0 n) a0 = k (N.impl_Hash a0) := by
  refine ⟨a0.length + 1, fun n hn L0 h0 => ?_⟩
  refine raw_foldl (a := a0) 0 hashStep (k := k) (L := fun m i s => L0 m s a0 (a0.length : Int) i) (R := fun i s c => impl_Hash_L0 k (fun s _ _ i => c i s) s a0 (a0.length : Int) i) (fun m i s => h0 m s a0 (a0.length : Int) i) (fun _ _ => True) (fun j s c hj _ => ?_) (fun _ _ _ _ => trivial) (fun s c => ?_) hn trivial
  · have : j < big := by have := l_a0.1; omega
    simp [impl_Hash_L0, lt_nat, inRange_nat, hj, wrap_succ this, hashStep]
  · simp [impl_Hash_L0]
def OP_impl_Hash (f_impl_Mod : Int → Int → Int) : Orac := (orcX 105 [.val (.int .i64), .val (.int .i64)] (fun d => true) (fun d => [⟨(.int .i64), f_impl_Mod d.1 d.2.1⟩]) nilO)
def O_impl_Hash : Orac := OP_impl_Hash N.impl_Mod
def impl_Hash_P_L0 {ρ : Type} (f_impl_Mod : Int → Int → Int) (k : Int → Option ρ) (L0 : Int → (List Int) → Int → Int → Option ρ) (v0_0 : Int) (v0_1 : (List Int)) (v0_2 : Int) (v0_3 : Int) : Option ρ := (cond (decide (v0_3 < v0_2)) (cond (inRange v0_3 (List.length v0_1)) (L0 (Int.tmod (IntKind.wrap .i64 ((IntKind.wrap .i64 ((IntKind.wrap .i64 (v0_0 * (1000003 : Int))) + (f_impl_Mod (List.getD v0_1 (Int.toNat v0_3) (0 : Int)) (2147483647 : Int)))) + (13 : Int))) (2147483647 : Int)) v0_1 v0_2 (IntKind.wrap .i64 (v0_3 + (1 : Int)))) none) (k v0_0))
def impl_Hash_P {ρ : Type} (f_impl_Mod : Int → Int → Int) (k : Int → Option ρ) (L0 : Int → (List Int) → Int → Int → Option ρ) (a0 : (List Int)) : Option ρ := (L0 (11 : Int) a0 (List.length a0 : Int) (0 : Int))
theorem ok_impl_Hash : OracOk Try.prog sigs O_impl_Hash := (orcX_ok rfl rfl (fun d g => said_impl_Mod d.1 d.2.1) nilO_ok)
def A_impl_Hash : Ann := fun b => cond (Nat.beq b 0) ⟨[(3, false), (6, false), (7, false), (8, false)], []⟩ (⟨[], []⟩)
def S_impl_Hash_0 (v0_0 : Int) (v0_1 : (List Int)) (v0_2 : Int) (v0_3 : Int) : St := [(kT 3, some (.tv (.v (.int .i64) v0_0 .no))), (kT 6, some (.tv (.v (.slice 3 (.int .i64)) v0_1 .no))), (kT 7, some (.tv (.v (.int .i64) v0_2 .no))), (kT 8, some (.tv (.v (.int .i64) v0_3 .no)))]
noncomputable def L_P_impl_Hash_0 (f_impl_Mod : Int → Int → Int) (n m : Nat) : St → Option Ret := loopOf tab sigs (OP_impl_Hash f_impl_Mod) A_impl_Hash Try.f79 [((.int .i64), .no)] n (fun _ => 0) 0 m
noncomputable def L_impl_Hash_0 (n m : Nat) : St → Option Ret := L_P_impl_Hash_0 N.impl_Mod n m
theorem bP_impl_Hash_0 (f_impl_Mod : Int → Int → Int) (n m : Nat) (v0_0 : Int) (v0_1 : (List Int)) (v0_2 : Int) (v0_3 : Int) : L_P_impl_Hash_0 f_impl_Mod n (m + 1) (S_impl_Hash_0 v0_0 v0_1 v0_2 v0_3) = impl_Hash_P_L0 f_impl_Mod (fun r0 => some [⟨(.int .i64), r0⟩]) (fun v0_0 v0_1 v0_2 v0_3 => L_P_impl_Hash_0 f_impl_Mod n m (S_impl_Hash_0 v0_0 v0_1 v0_2 v0_3)) v0_0 v0_1 v0_2 v0_3 := by kernel_rfl
theorem b_impl_Hash_0 (n m : Nat) (v0_0 : Int) (v0_1 : (List Int)) (v0_2 : Int) (v0_3 : Int) : L_impl_Hash_0 n (m + 1) (S_impl_Hash_0 v0_0 v0_1 v0_2 v0_3) = impl_Hash_L0 (fun r0 => some [⟨(.int .i64), r0⟩]) (fun v0_0 v0_1 v0_2 v0_3 => L_impl_Hash_0 n m (S_impl_Hash_0 v0_0 v0_1 v0_2 v0_3)) v0_0 v0_1 v0_2 v0_3 := bP_impl_Hash_0 N.impl_Mod n m v0_0 v0_1 v0_2 v0_3
theorem aP_impl_Hash (f_impl_Mod : Int → Int → Int) (n : Nat) (a0 : (List Int)) : absF tab sigs (OP_impl_Hash f_impl_Mod) A_impl_Hash Try.f79 [((.int .i64), .no)] n [.val (.slice 3 (.int .i64)) a0] = impl_Hash_P f_impl_Mod (fun r0 => some [⟨(.int .i64), r0⟩]) (fun v0_0 v0_1 v0_2 v0_3 => L_P_impl_Hash_0 f_impl_Mod n n (S_impl_Hash_0 v0_0 v0_1 v0_2 v0_3)) a0 := by kernel_rfl
theorem a_impl_Hash (n : Nat) (a0 : (List Int)) : absF tab sigs O_impl_Hash A_impl_Hash Try.f79 [((.int .i64), .no)] n [.val (.slice 3 (.int .i64)) a0] = impl_Hash (fun r0 => some [⟨(.int .i64), r0⟩]) (fun v0_0 v0_1 v0_2 v0_3 => L_impl_Hash_0 n n (S_impl_Hash_0 v0_0 v0_1 v0_2 v0_3)) a0 := aP_impl_Hash N.impl_Mod n a0
theorem said_impl_Hash (a0 : (List Int)) : Said Try.prog sigs_79 79 [.val (.slice 3 (.int .i64)) a0] [⟨(.int .i64), N.impl_Hash a0⟩] := said_len (T := tab) (A := A_impl_Hash) tabOk ok_impl_Hash tabOk.follows Try.func79 (by kernel_rfl) (by kernel_rfl) (fun hl => let ⟨n, hn⟩ := impl_Hash_ok (ρ := Ret) (fun r0 => some [⟨(.int .i64), r0⟩]) a0 hl.1; ⟨n, (a_impl_Hash n a0).trans (hn n (Nat.le_refl n) (fun  m v0_0 v0_1 v0_2 v0_3 => L_impl_Hash_0 n  m (S_impl_Hash_0 v0_0 v0_1 v0_2 v0_3)) (fun  m v0_0 v0_1 v0_2 v0_3 => b_impl_Hash_0 n  m v0_0 v0_1 v0_2 v0_3))⟩)
abbrev N.impl_hash (l : List Int) : Int := hash l
def impl_hash {ρ : Type} (k : Int → Option ρ) (a0 : (List Int)) : Option ρ := (k (N.impl_Hash a0))
theorem impl_hash_ok {ρ : Type} (k : Int → Option ρ) (a0 : (List Int)) (l_a0 : lnL (fun _ => True) a0) : impl_hash k  a0 = k (N.impl_hash a0) := by
  rfl
def OP_impl_hash (f_impl_Hash : (List Int) → Int) : Orac := (orcX 79 [.val (.slice 3 (.int .i64))] (fun d => true) (fun d => [⟨(.int .i64), f_impl_Hash d.1⟩]) nilO)
def O_impl_hash : Orac := OP_impl_hash N.impl_Hash
def impl_hash_P {ρ : Type} (f_impl_Hash : (List Int) → Int) (k : Int → Option ρ) (a0 : (List Int)) : Option ρ := (k (f_impl_Hash a0))
theorem ok_impl_hash : OracOk Try.prog sigs O_impl_hash := (orcX_ok rfl rfl (fun d g => said_impl_Hash d.1) nilO_ok)
def A_impl_hash : Ann := fun b => ⟨[], []⟩
theorem aP_impl_hash (f_impl_Hash : (List Int) → Int) (n : Nat) (a0 : (List Int)) : absF tab sigs (OP_impl_hash f_impl_Hash) A_impl_hash Try.f47 [((.int .i64), .no)] n [.val (.slice 3 (.int .i64)) a0] = impl_hash_P f_impl_Hash (fun r0 => some [⟨(.int .i64), r0⟩])  a0 := by kernel_rfl
theorem a_impl_hash (n : Nat) (a0 : (List Int)) : absF tab sigs O_impl_hash A_impl_hash Try.f47 [((.int .i64), .no)] n [.val (.slice 3 (.int .i64)) a0] = impl_hash (fun r0 => some [⟨(.int .i64), r0⟩])  a0 := aP_impl_hash N.impl_Hash n a0
theorem said_impl_hash (a0 : (List Int)) : Said Try.prog sigs_47 47 [.val (.slice 3 (.int .i64)) a0] [⟨(.int .i64), N.impl_hash a0⟩] := said_len (T := tab) (A := A_impl_hash) tabOk ok_impl_hash tabOk.follows Try.func47 (by kernel_rfl) (by kernel_rfl) (fun hl => ⟨0, (a_impl_hash 0 a0).trans (impl_hash_ok (ρ := Ret) (fun r0 => some [⟨(.int .i64), r0⟩]) a0 hl.1)⟩)
abbrev N.impl_NodeOf (a b : Int) : Int := nodeOf a b
def impl_NodeOf {ρ : Type} (k : Int → Option ρ) (a0 : Int) (a1 : Int) : Option ρ := (k (N.impl_hash [(229 : Int), a0, a1]))
theorem impl_NodeOf_ok {ρ : Type} (k : Int → Option ρ) (a0 : Int) (a1 : Int) : impl_NodeOf k  a0 a1 = k (N.impl_NodeOf a0 a1) := by
  rfl
def OP_impl_NodeOf (f_impl_hash : (List Int) → Int) : Orac := (orcX 47 [.val (.slice 3 (.int .i64))] (fun d => true) (fun d => [⟨(.int .i64), f_impl_hash d.1⟩]) nilO)
def O_impl_NodeOf : Orac := OP_impl_NodeOf N.impl_hash
def impl_NodeOf_P {ρ : Type} (f_impl_hash : (List Int) → Int) (k : Int → Option ρ) (a0 : Int) (a1 : Int) : Option ρ := (k (f_impl_hash [(229 : Int), a0, a1]))
theorem ok_impl_NodeOf : OracOk Try.prog sigs O_impl_NodeOf := (orcX_ok rfl rfl (fun d g => said_impl_hash d.1) nilO_ok)
def A_impl_NodeOf : Ann := fun b => ⟨[], []⟩
theorem aP_impl_NodeOf (f_impl_hash : (List Int) → Int) (n : Nat) (a0 : Int) (a1 : Int) : absF tab sigs (OP_impl_NodeOf f_impl_hash) A_impl_NodeOf Try.f19 [((.int .i64), .no)] n [.val (.int .i64) a0, .val (.int .i64) a1] = impl_NodeOf_P f_impl_hash (fun r0 => some [⟨(.int .i64), r0⟩])  a0 a1 := by kernel_rfl
theorem a_impl_NodeOf (n : Nat) (a0 : Int) (a1 : Int) : absF tab sigs O_impl_NodeOf A_impl_NodeOf Try.f19 [((.int .i64), .no)] n [.val (.int .i64) a0, .val (.int .i64) a1] = impl_NodeOf (fun r0 => some [⟨(.int .i64), r0⟩])  a0 a1 := aP_impl_NodeOf N.impl_hash n a0 a1
theorem said_impl_NodeOf (a0 : Int) (a1 : Int) : Said Try.prog sigs_19 19 [.val (.int .i64) a0, .val (.int .i64) a1] [⟨(.int .i64), N.impl_NodeOf a0 a1⟩] := said_len (T := tab) (A := A_impl_NodeOf) tabOk ok_impl_NodeOf tabOk.follows Try.func19 (by kernel_rfl) (by kernel_rfl) (fun hl => ⟨0, (a_impl_NodeOf 0 a0 a1).trans (impl_NodeOf_ok (ρ := Ret) (fun r0 => some [⟨(.int .i64), r0⟩]) a0 a1)⟩)
abbrev G.impl_above (l : List Int) : Bool := decide (l.length ≤ 1048576)
abbrev N.impl_above (l : List Int) : List Int := up l
def impl_above_P_L0 {ρ : Type} (f_impl_NodeOf : Int → Int → Int) (k : (List Int) → Option ρ) (L0 : (List Int) → Int → (List Int) → Option ρ) (v0_0 : (List Int)) (v0_1 : Int) (v0_2 : (List Int)) : Option ρ := (cond (decide (v0_1 < (List.length v0_0 : Int))) (cond (decide ((IntKind.wrap .i64 (v0_1 + (1 : Int))) < (List.length v0_0 : Int))) (cond (inRange v0_1 (List.length v0_0)) (cond (inRange (IntKind.wrap .i64 (v0_1 + (1 : Int))) (List.length v0_0)) (cond (fit (List.length v0_2) (List.length [(f_impl_NodeOf (List.getD v0_0 (Int.toNat v0_1) (0 : Int)) (List.getD v0_0 (Int.toNat (IntKind.wrap .i64 (v0_1 + (1 : Int)))) (0 : Int)))])) (L0 v0_0 (IntKind.wrap .i64 (v0_1 + (2 : Int))) (List.append v0_2 [(f_impl_NodeOf (List.getD v0_0 (Int.toNat v0_1) (0 : Int)) (List.getD v0_0 (Int.toNat (IntKind.wrap .i64 (v0_1 + (1 : Int)))) (0 : Int)))])) none) none) none) (cond (inRange v0_1 (List.length v0_0)) (cond (fit (List.length v0_2) (List.length [(List.getD v0_0 (Int.toNat v0_1) (0 : Int))])) (L0 v0_0 (IntKind.wrap .i64 (v0_1 + (2 : Int))) (List.append v0_2 [(List.getD v0_0 (Int.toNat v0_1) (0 : Int))])) none) none)) (k v0_2))
def impl_above_P {ρ : Type} (f_impl_NodeOf : Int → Int → Int) (k : (List Int) → Option ρ) (L0 : (List Int) → Int → (List Int) → Option ρ) (a0 : (List Int)) : Option ρ := (L0 a0 (0 : Int) ([] : (List Int)))
def impl_above_L0 {ρ : Type} (k : (List Int) → Option ρ) (L0 : (List Int) → Int → (List Int) → Option ρ) (v0_0 : (List Int)) (v0_1 : Int) (v0_2 : (List Int)) : Option ρ := impl_above_P_L0 N.impl_NodeOf k L0 v0_0 v0_1 v0_2
def impl_above {ρ : Type} (k : (List Int) → Option ρ) (L0 : (List Int) → Int → (List Int) → Option ρ) (a0 : (List Int)) : Option ρ := impl_above_P N.impl_NodeOf k L0 a0
theorem impl_above_ok {ρ : Type} (k : (List Int) → Option ρ) (a0 : (List Int)) (l_a0 : lnL (fun _ => True) a0) (g : G.impl_above a0 = true) : ∃ n0, ∀ n, n0 ≤ n → ∀ (L0 : Nat → (List Int) → Int → (List Int) → Option ρ) (h0 : ∀ ( m : Nat) (v0_0 : (List Int)) (v0_1 : Int) (v0_2 : (List Int)), L0 (m + 1) v0_0 v0_1 v0_2 = impl_above_L0 k (L0 m) v0_0 v0_1 v0_2), impl_above k (L0 n) a0 = k (N.impl_above a0) := by
  unfold G.impl_above at g
  exact spec_l10Up_ok k a0 l_a0 g
def OP_impl_above (f_impl_NodeOf : Int → Int → Int) : Orac := (orcX 19 [.val (.int .i64), .val (.int .i64)] (fun d => true) (fun d => [⟨(.int .i64), f_impl_NodeOf d.1 d.2.1⟩]) nilO)
def O_impl_above : Orac := OP_impl_above N.impl_NodeOf
theorem ok_impl_above : OracOk Try.prog sigs O_impl_above := (orcX_ok rfl rfl (fun d g => said_impl_NodeOf d.1 d.2.1) nilO_ok)
def A_impl_above : Ann := fun b => cond (Nat.beq b 0) ⟨[(0, false), (3, true), (4, false)], []⟩ (⟨[], []⟩)
def S_impl_above_0 (v0_0 : (List Int)) (v0_1 : Int) (v0_2 : (List Int)) : St := [(kT 0, some (.tv (.v (.slice 3 (.int .i64)) v0_0 .no))), (kT 3, some (.tv (.v (.slice 3 (.int .i64)) [] (.own 24)))), (kT 4, some (.tv (.v (.int .i64) v0_1 .no))), (kR 24, some (.row 3 (.int .i64) v0_2))]
noncomputable def L_P_impl_above_0 (f_impl_NodeOf : Int → Int → Int) (n m : Nat) : St → Option Ret := loopOf tab sigs (OP_impl_above f_impl_NodeOf) A_impl_above Try.f44 [((.slice 3 (.int .i64)), (.own 0))] n (fun _ => 0) 0 m
noncomputable def L_impl_above_0 (n m : Nat) : St → Option Ret := L_P_impl_above_0 N.impl_NodeOf n m
theorem bP_impl_above_0 (f_impl_NodeOf : Int → Int → Int) (n m : Nat) (v0_0 : (List Int)) (v0_1 : Int) (v0_2 : (List Int)) : L_P_impl_above_0 f_impl_NodeOf n (m + 1) (S_impl_above_0 v0_0 v0_1 v0_2) = impl_above_P_L0 f_impl_NodeOf (fun r0 => some [⟨(.slice 3 (.int .i64)), r0⟩]) (fun v0_0 v0_1 v0_2 => L_P_impl_above_0 f_impl_NodeOf n m (S_impl_above_0 v0_0 v0_1 v0_2)) v0_0 v0_1 v0_2 := by kernel_rfl
theorem b_impl_above_0 (n m : Nat) (v0_0 : (List Int)) (v0_1 : Int) (v0_2 : (List Int)) : L_impl_above_0 n (m + 1) (S_impl_above_0 v0_0 v0_1 v0_2) = impl_above_L0 (fun r0 => some [⟨(.slice 3 (.int .i64)), r0⟩]) (fun v0_0 v0_1 v0_2 => L_impl_above_0 n m (S_impl_above_0 v0_0 v0_1 v0_2)) v0_0 v0_1 v0_2 := bP_impl_above_0 N.impl_NodeOf n m v0_0 v0_1 v0_2
theorem aP_impl_above (f_impl_NodeOf : Int → Int → Int) (n : Nat) (a0 : (List Int)) : absF tab sigs (OP_impl_above f_impl_NodeOf) A_impl_above Try.f44 [((.slice 3 (.int .i64)), (.own 0))] n [.val (.slice 3 (.int .i64)) a0] = impl_above_P f_impl_NodeOf (fun r0 => some [⟨(.slice 3 (.int .i64)), r0⟩]) (fun v0_0 v0_1 v0_2 => L_P_impl_above_0 f_impl_NodeOf n n (S_impl_above_0 v0_0 v0_1 v0_2)) a0 := by kernel_rfl
theorem a_impl_above (n : Nat) (a0 : (List Int)) : absF tab sigs O_impl_above A_impl_above Try.f44 [((.slice 3 (.int .i64)), (.own 0))] n [.val (.slice 3 (.int .i64)) a0] = impl_above (fun r0 => some [⟨(.slice 3 (.int .i64)), r0⟩]) (fun v0_0 v0_1 v0_2 => L_impl_above_0 n n (S_impl_above_0 v0_0 v0_1 v0_2)) a0 := aP_impl_above N.impl_NodeOf n a0
theorem said_impl_above (a0 : (List Int)) (g : G.impl_above a0 = true) : Said Try.prog sigs_44 44 [.val (.slice 3 (.int .i64)) a0] [⟨(.slice 3 (.int .i64)), N.impl_above a0⟩] := said_len (T := tab) (A := A_impl_above) tabOk ok_impl_above tabOk.follows Try.func44 (by kernel_rfl) (by kernel_rfl) (fun hl => let ⟨n, hn⟩ := impl_above_ok (ρ := Ret) (fun r0 => some [⟨(.slice 3 (.int .i64)), r0⟩]) a0 hl.1 g; ⟨n, (a_impl_above n a0).trans (hn n (Nat.le_refl n) (fun  m v0_0 v0_1 v0_2 => L_impl_above_0 n  m (S_impl_above_0 v0_0 v0_1 v0_2)) (fun  m v0_0 v0_1 v0_2 => b_impl_above_0 n  m v0_0 v0_1 v0_2))⟩)
abbrev G.impl_PathFor (l : List Int) (i : Int) : Bool := decide (l.length ≤ 1048576)
abbrev N.impl_PathFor (l : List Int) (i : Int) : List Int := pathFor l i
def impl_PathFor_P_L0 {ρ : Type} (f_impl_InRange : Int → Int → Int → Bool) (f_impl_above : (List Int) → (List Int)) (g_impl_above : (List Int) → Bool) (k : (List Int) → Option ρ) (L0 : (List Int) → Int → (List Int) → Option ρ) (v0_0 : (List Int)) (v0_1 : Int) (v0_2 : (List Int)) : Option ρ := (cond (decide ((List.length v0_0 : Int) > (1 : Int))) (cond (decide ((xorI .i64 v0_1 (1 : Int)) < (List.length v0_0 : Int))) (cond (inRange (xorI .i64 v0_1 (1 : Int)) (List.length v0_0)) (cond (fit (List.length v0_2) (List.length [(List.getD v0_0 (Int.toNat (xorI .i64 v0_1 (1 : Int))) (0 : Int))])) (cond (g_impl_above v0_0) (L0 (f_impl_above v0_0) (IntKind.wrap .i64 (Int.tdiv v0_1 (2 : Int))) (List.append v0_2 [(List.getD v0_0 (Int.toNat (xorI .i64 v0_1 (1 : Int))) (0 : Int))])) none) none) none) (cond (g_impl_above v0_0) (L0 (f_impl_above v0_0) (IntKind.wrap .i64 (Int.tdiv v0_1 (2 : Int))) v0_2) none)) (k v0_2))
def impl_PathFor_P {ρ : Type} (f_impl_InRange : Int → Int → Int → Bool) (f_impl_above : (List Int) → (List Int)) (g_impl_above : (List Int) → Bool) (k : (List Int) → Option ρ) (L0 : (List Int) → Int → (List Int) → Option ρ) (a0 : (List Int)) (a1 : Int) : Option ρ := (cond (!(f_impl_InRange a1 (0 : Int) (IntKind.wrap .i64 ((List.length a0 : Int) - (1 : Int))))) (k ([] : (List Int))) (L0 a0 a1 ([] : (List Int))))
def impl_PathFor_L0 {ρ : Type} (k : (List Int) → Option ρ) (L0 : (List Int) → Int → (List Int) → Option ρ) (v0_0 : (List Int)) (v0_1 : Int) (v0_2 : (List Int)) : Option ρ := impl_PathFor_P_L0 N.impl_InRange N.impl_above G.impl_above k L0 v0_0 v0_1 v0_2
def impl_PathFor {ρ : Type} (k : (List Int) → Option ρ) (L0 : (List Int) → Int → (List Int) → Option ρ) (a0 : (List Int)) (a1 : Int) : Option ρ := impl_PathFor_P N.impl_InRange N.impl_above G.impl_above k L0 a0 a1
theorem impl_PathFor_ok {ρ : Type} (k : (List Int) → Option ρ) (a0 : (List Int)) (a1 : Int) (l_a0 : lnL (fun _ => True) a0) (g : G.impl_PathFor a0 a1 = true) : ∃ n0, ∀ n, n0 ≤ n → ∀ (L0 : Nat → (List Int) → Int → (List Int) → Option ρ) (h0 : ∀ ( m : Nat) (v0_0 : (List Int)) (v0_1 : Int) (v0_2 : (List Int)), L0 (m + 1) v0_0 v0_1 v0_2 = impl_PathFor_L0 k (L0 m) v0_0 v0_1 v0_2), impl_PathFor k (L0 n) a0 a1 = k (N.impl_PathFor a0 a1) := by
  unfold G.impl_PathFor at g
  have hlen : a0.length ≤ 1048576 := of_decide_eq_true g
  refine ⟨a0.length + 1, fun n hn L0 h0 => ?_⟩
  show impl_PathFor k (L0 n) a0 a1 = k (pathFor a0 a1)
  unfold impl_PathFor impl_PathFor_P pathFor
  dsimp only [N.impl_InRange]
  rw [wrap_id (n := (a0.length : Int) - 1) (by omega) (by omega)]
  cases hi1 : inR a1 0 ((a0.length : Int) - 1) with
  | false => rfl
  | true =>
    have hi2 : 0 ≤ a1 ∧ a1 ≤ (a0.length : Int) - 1 := by simpa [inR] using hi1
    show L0 n a0 a1 [] = k (pathN a0.length a1.toNat a0)
    refine (raw_meas (σ := Int × List Int × List Int) (L := fun m s => L0 m s.2.1 s.1 s.2.2) (R := fun s c => impl_PathFor_L0 k (fun l i o => c (i, l, o)) s.2.1 s.1 s.2.2)
      (fun m s => h0 m _ _ _) (fun s => 0 ≤ s.1 ∧ s.1 < s.2.1.length ∧ s.2.2.length + s.2.1.length ≤ 1048576) (fun s => s.2.1.length) (fun s => k (s.2.2 ++ pathN s.2.1.length s.1.toNat s.2.1)) (fun s c hI hc => ?_) n (a1, a0, []) ⟨hi2.1, by dsimp only; omega, by simp; omega⟩ (by dsimp only; omega)).trans (by simp)
    obtain ⟨i, l, o⟩ := s
    obtain ⟨b0, b1, b2⟩ := hI
    dsimp only at b0 b1 b2 hc ⊢
    obtain ⟨i, rfl⟩ := Int.eq_ofNat_of_zero_le b0
    simp only [Int.toNat_natCast] at hc ⊢
    by_cases h1 : 1 < l.length
    · obtain ⟨f, hf⟩ : ∃ f, l.length = f + 1 := ⟨l.length - 1, by omega⟩
      have hu := up_len l
      have e1 : decide ((l.length : Int) > 1) = true := by simp; omega
      have hx : xorI .i64 (i : Int) 1 = ((sib i : Nat) : Int) := xor_sib (by omega)
      have g1 : decide (l.length ≤ 1048576) = true := by simp; omega
      have step : ∀ o', o'.length ≤ o.length + 1 → c (((i / 2 : Nat) : Int), up l, o') = k (o' ++ pathN f (i / 2) (up l)) := by
        intro o' ho'
        have := hc (((i / 2 : Nat) : Int), up l, o') ⟨by simp; omega, by simp; omega, by simp; omega⟩ (by simp; omega)
        simp only [Int.toNat_natCast] at this
        rw [this, pathN_more _ f _ _ (by omega) (by omega)]
      rw [hf]
      unfold pathN
      rw [decide_eq_true h1]
      by_cases hs : sib i < l.length
      · have e3 : fit o.length 1 = true := fit_of (by omega)
        simp only [impl_PathFor_L0, impl_PathFor_P_L0, e1, hx, lt_nat, inRange_nat, decide_eq_true hs, cond_true, Int.toNat_natCast, List.length_singleton, e3, List.append_eq, tdiv2 (i := i) (by omega), G.impl_above, g1, N.impl_above]
        rw [step _ (by simp)]
        simp
      · simp only [impl_PathFor_L0, impl_PathFor_P_L0, e1, hx, lt_nat, inRange_nat, decide_eq_false hs, cond_true, cond_false, tdiv2 (i := i) (by omega), G.impl_above, g1, N.impl_above]
        rw [step _ (by omega)]
        simp
    · have e1 : decide ((l.length : Int) > 1) = false := by simp; omega
      obtain ⟨f, hf⟩ : ∃ f, l.length = f + 1 := ⟨l.length - 1, by omega⟩
      rw [hf]
      unfold pathN
      rw [decide_eq_false h1]
      simp [impl_PathFor_L0, impl_PathFor_P_L0, e1]
def OP_impl_PathFor (f_impl_InRange : Int → Int → Int → Bool) (f_impl_above : (List Int) → (List Int)) (g_impl_above : (List Int) → Bool) : Orac := (orcX 44 [.val (.slice 3 (.int .i64))] (fun d => g_impl_above d.1) (fun d => [⟨(.slice 3 (.int .i64)), f_impl_above d.1⟩]) (orcX 43 [.val (.int .i64), .val (.int .i64), .val (.int .i64)] (fun d => true) (fun d => [⟨.bool, f_impl_InRange d.1 d.2.1 d.2.2.1⟩]) nilO))
def O_impl_PathFor : Orac := OP_impl_PathFor N.impl_InRange N.impl_above G.impl_above
theorem ok_impl_PathFor : OracOk Try.prog sigs O_impl_PathFor := (orcX_ok rfl rfl (fun d g => said_impl_above d.1 g) (orcX_ok rfl rfl (fun d g => said_impl_InRange d.1 d.2.1 d.2.2.1) nilO_ok))
def A_impl_PathFor : Ann := fun b => cond (Nat.beq b 0) ⟨[(0, false), (1, false), (5, true)], []⟩ (⟨[], []⟩)
def S_impl_PathFor_0 (v0_0 : (List Int)) (v0_1 : Int) (v0_2 : (List Int)) : St := [(kT 0, some (.tv (.v (.slice 3 (.int .i64)) v0_0 .no))), (kT 1, some (.tv (.v (.int .i64) v0_1 .no))), (kT 5, some (.tv (.v (.slice 3 (.int .i64)) [] (.own 40)))), (kR 40, some (.row 3 (.int .i64) v0_2))]
noncomputable def L_P_impl_PathFor_0 (f_impl_InRange : Int → Int → Int → Bool) (f_impl_above : (List Int) → (List Int)) (g_impl_above : (List Int) → Bool) (n m : Nat) : St → Option Ret := loopOf tab sigs (OP_impl_PathFor f_impl_InRange f_impl_above g_impl_above) A_impl_PathFor Try.f8 [((.slice 3 (.int .i64)), (.own 0))] n (fun _ => 0) 0 m
noncomputable def L_impl_PathFor_0 (n m : Nat) : St → Option Ret := L_P_impl_PathFor_0 N.impl_InRange N.impl_above G.impl_above n m
theorem bP_impl_PathFor_0 (f_impl_InRange : Int → Int → Int → Bool) (f_impl_above : (List Int) → (List Int)) (g_impl_above : (List Int) → Bool) (n m : Nat) (v0_0 : (List Int)) (v0_1 : Int) (v0_2 : (List Int)) : L_P_impl_PathFor_0 f_impl_InRange f_impl_above g_impl_above n (m + 1) (S_impl_PathFor_0 v0_0 v0_1 v0_2) = impl_PathFor_P_L0 f_impl_InRange f_impl_above g_impl_above (fun r0 => some [⟨(.slice 3 (.int .i64)), r0⟩]) (fun v0_0 v0_1 v0_2 => L_P_impl_PathFor_0 f_impl_InRange f_impl_above g_impl_above n m (S_impl_PathFor_0 v0_0 v0_1 v0_2)) v0_0 v0_1 v0_2 := by kernel_rfl
theorem b_impl_PathFor_0 (n m : Nat) (v0_0 : (List Int)) (v0_1 : Int) (v0_2 : (List Int)) : L_impl_PathFor_0 n (m + 1) (S_impl_PathFor_0 v0_0 v0_1 v0_2) = impl_PathFor_L0 (fun r0 => some [⟨(.slice 3 (.int .i64)), r0⟩]) (fun v0_0 v0_1 v0_2 => L_impl_PathFor_0 n m (S_impl_PathFor_0 v0_0 v0_1 v0_2)) v0_0 v0_1 v0_2 := bP_impl_PathFor_0 N.impl_InRange N.impl_above G.impl_above n m v0_0 v0_1 v0_2
theorem aP_impl_PathFor (f_impl_InRange : Int → Int → Int → Bool) (f_impl_above : (List Int) → (List Int)) (g_impl_above : (List Int) → Bool) (n : Nat) (a0 : (List Int)) (a1 : Int) : absF tab sigs (OP_impl_PathFor f_impl_InRange f_impl_above g_impl_above) A_impl_PathFor Try.f8 [((.slice 3 (.int .i64)), (.own 0))] n [.val (.slice 3 (.int .i64)) a0, .val (.int .i64) a1] = impl_PathFor_P f_impl_InRange f_impl_above g_impl_above (fun r0 => some [⟨(.slice 3 (.int .i64)), r0⟩]) (fun v0_0 v0_1 v0_2 => L_P_impl_PathFor_0 f_impl_InRange f_impl_above g_impl_above n n (S_impl_PathFor_0 v0_0 v0_1 v0_2)) a0 a1 := by kernel_rfl
theorem a_impl_PathFor (n : Nat) (a0 : (List Int)) (a1 : Int) : absF tab sigs O_impl_PathFor A_impl_PathFor Try.f8 [((.slice 3 (.int .i64)), (.own 0))] n [.val (.slice 3 (.int .i64)) a0, .val (.int .i64) a1] = impl_PathFor (fun r0 => some [⟨(.slice 3 (.int .i64)), r0⟩]) (fun v0_0 v0_1 v0_2 => L_impl_PathFor_0 n n (S_impl_PathFor_0 v0_0 v0_1 v0_2)) a0 a1 := aP_impl_PathFor N.impl_InRange N.impl_above G.impl_above n a0 a1
theorem said_impl_PathFor (a0 : (List Int)) (a1 : Int) (g : G.impl_PathFor a0 a1 = true) : Said Try.prog sigs_8 8 [.val (.slice 3 (.int .i64)) a0, .val (.int .i64) a1] [⟨(.slice 3 (.int .i64)), N.impl_PathFor a0 a1⟩] := said_len (T := tab) (A := A_impl_PathFor) tabOk ok_impl_PathFor tabOk.follows Try.func8 (by kernel_rfl) (by kernel_rfl) (fun hl => let ⟨n, hn⟩ := impl_PathFor_ok (ρ := Ret) (fun r0 => some [⟨(.slice 3 (.int .i64)), r0⟩]) a0 a1 hl.1 g; ⟨n, (a_impl_PathFor n a0 a1).trans (hn n (Nat.le_refl n) (fun  m v0_0 v0_1 v0_2 => L_impl_PathFor_0 n  m (S_impl_PathFor_0 v0_0 v0_1 v0_2)) (fun  m v0_0 v0_1 v0_2 => b_impl_PathFor_0 n  m v0_0 v0_1 v0_2))⟩)
abbrev G.spec_PathFor (l : List Int) (i : Int) : Bool := decide (l.length ≤ 1048576)
abbrev N.spec_PathFor (l : List Int) (i : Int) : List Int := pathFor l i
def spec_PathFor_P_L0 {ρ : Type} (f_spec_l1In : Int → Int → Int → Bool) (f_spec_l10Up : (List Int) → (List Int)) (g_spec_l10Up : (List Int) → Bool) (k : (List Int) → Option ρ) (L0 : Int → (List Int) → (List Int) → Option ρ) (v0_0 : Int) (v0_1 : (List Int)) (v0_2 : (List Int)) : Option ρ := (cond (decide ((List.length v0_1 : Int) > (1 : Int))) (cond (decide ((IntKind.wrap .i64 ((IntKind.wrap .i64 (v0_0 + (1 : Int))) - (IntKind.wrap .i64 ((2 : Int) * (Int.tmod v0_0 (2 : Int)))))) < (List.length v0_1 : Int))) (cond (inRange (IntKind.wrap .i64 ((IntKind.wrap .i64 (v0_0 + (1 : Int))) - (IntKind.wrap .i64 ((2 : Int) * (Int.tmod v0_0 (2 : Int)))))) (List.length v0_1)) (cond (fit (List.length v0_2) (List.length [(List.getD v0_1 (Int.toNat (IntKind.wrap .i64 ((IntKind.wrap .i64 (v0_0 + (1 : Int))) - (IntKind.wrap .i64 ((2 : Int) * (Int.tmod v0_0 (2 : Int))))))) (0 : Int))])) (cond (g_spec_l10Up v0_1) (L0 (IntKind.wrap .i64 (Int.tdiv v0_0 (2 : Int))) (f_spec_l10Up v0_1) (List.append v0_2 [(List.getD v0_1 (Int.toNat (IntKind.wrap .i64 ((IntKind.wrap .i64 (v0_0 + (1 : Int))) - (IntKind.wrap .i64 ((2 : Int) * (Int.tmod v0_0 (2 : Int))))))) (0 : Int))])) none) none) none) (cond (g_spec_l10Up v0_1) (L0 (IntKind.wrap .i64 (Int.tdiv v0_0 (2 : Int))) (f_spec_l10Up v0_1) v0_2) none)) (k v0_2))
def spec_PathFor_P {ρ : Type} (f_spec_l1In : Int → Int → Int → Bool) (f_spec_l10Up : (List Int) → (List Int)) (g_spec_l10Up : (List Int) → Bool) (k : (List Int) → Option ρ) (L0 : Int → (List Int) → (List Int) → Option ρ) (a0 : (List Int)) (a1 : Int) : Option ρ := (cond (!(f_spec_l1In a1 (0 : Int) (IntKind.wrap .i64 ((List.length a0 : Int) - (1 : Int))))) (k ([] : (List Int))) (L0 a1 a0 ([] : (List Int))))
def spec_PathFor_L0 {ρ : Type} (k : (List Int) → Option ρ) (L0 : Int → (List Int) → (List Int) → Option ρ) (v0_0 : Int) (v0_1 : (List Int)) (v0_2 : (List Int)) : Option ρ := spec_PathFor_P_L0 N.spec_l1In N.spec_l10Up G.spec_l10Up k L0 v0_0 v0_1 v0_2
def spec_PathFor {ρ : Type} (k : (List Int) → Option ρ) (L0 : Int → (List Int) → (List Int) → Option ρ) (a0 : (List Int)) (a1 : Int) : Option ρ := spec_PathFor_P N.spec_l1In N.spec_l10Up G.spec_l10Up k L0 a0 a1
theorem spec_PathFor_ok {ρ : Type} (k : (List Int) → Option ρ) (a0 : (List Int)) (a1 : Int) (l_a0 : lnL (fun _ => True) a0) (g : G.spec_PathFor a0 a1 = true) : ∃ n0, ∀ n, n0 ≤ n → ∀ (L0 : Nat → Int → (List Int) → (List Int) → Option ρ) (h0 : ∀ ( m : Nat) (v0_0 : Int) (v0_1 : (List Int)) (v0_2 : (List Int)), L0 (m + 1) v0_0 v0_1 v0_2 = spec_PathFor_L0 k (L0 m) v0_0 v0_1 v0_2), spec_PathFor k (L0 n) a0 a1 = k (N.spec_PathFor a0 a1) := by
  unfold G.spec_PathFor at g
  have hlen : a0.length ≤ 1048576 := of_decide_eq_true g
  refine ⟨a0.length + 1, fun n hn L0 h0 => ?_⟩
  show spec_PathFor k (L0 n) a0 a1 = k (pathFor a0 a1)
  unfold spec_PathFor spec_PathFor_P pathFor
  dsimp only [N.spec_l1In]
  rw [wrap_id (n := (a0.length : Int) - 1) (by omega) (by omega)]
  cases hi1 : inR a1 0 ((a0.length : Int) - 1) with
  | false => rfl
  | true =>
    have hi2 : 0 ≤ a1 ∧ a1 ≤ (a0.length : Int) - 1 := by simpa [inR] using hi1
    show L0 n a1 a0 [] = k (pathN a0.length a1.toNat a0)
    refine (raw_meas (σ := Int × List Int × List Int) (L := fun m s => L0 m s.1 s.2.1 s.2.2) (R := fun s c => spec_PathFor_L0 k (fun i l o => c (i, l, o)) s.1 s.2.1 s.2.2)
      (fun m s => h0 m _ _ _) (fun s => 0 ≤ s.1 ∧ s.1 < s.2.1.length ∧ s.2.2.length + s.2.1.length ≤ 1048576) (fun s => s.2.1.length) (fun s => k (s.2.2 ++ pathN s.2.1.length s.1.toNat s.2.1)) (fun s c hI hc => ?_) n (a1, a0, []) ⟨hi2.1, by dsimp only; omega, by simp; omega⟩ (by dsimp only; omega)).trans (by simp)
    obtain ⟨i, l, o⟩ := s
    obtain ⟨b0, b1, b2⟩ := hI
    dsimp only at b0 b1 b2 hc ⊢
    obtain ⟨i, rfl⟩ := Int.eq_ofNat_of_zero_le b0
    simp only [Int.toNat_natCast] at hc ⊢
    by_cases h1 : 1 < l.length
    · obtain ⟨f, hf⟩ : ∃ f, l.length = f + 1 := ⟨l.length - 1, by omega⟩
      have hu := up_len l
      have e1 : decide ((l.length : Int) > 1) = true := by simp; omega
      have hx : IntKind.wrap .i64 (IntKind.wrap .i64 ((i : Int) + 1) - IntKind.wrap .i64 (2 * Int.tmod (i : Int) 2)) = ((sib i : Nat) : Int) := by
        rw [tmod2, wrap_succ (by unfold big; omega), wrap_id (n := 2 * ((i % 2 : Nat) : Int)) (by omega) (by omega), wrap_id (by omega) (by omega)]
        unfold sib
        split <;> omega
      have g1 : decide (l.length ≤ 1048576) = true := by simp; omega
      have step : ∀ o', o'.length ≤ o.length + 1 → c (((i / 2 : Nat) : Int), up l, o') = k (o' ++ pathN f (i / 2) (up l)) := by
        intro o' ho'
        have := hc (((i / 2 : Nat) : Int), up l, o') ⟨by simp; omega, by simp; omega, by simp; omega⟩ (by simp; omega)
        simp only [Int.toNat_natCast] at this
        rw [this, pathN_more _ f _ _ (by omega) (by omega)]
      rw [hf]
      unfold pathN
      rw [decide_eq_true h1]
      by_cases hs : sib i < l.length
      · have e3 : fit o.length 1 = true := fit_of (by omega)
        simp only [spec_PathFor_L0, spec_PathFor_P_L0, e1, hx, lt_nat, inRange_nat, decide_eq_true hs, cond_true, Int.toNat_natCast, List.length_singleton, e3, List.append_eq, tdiv2 (i := i) (by omega), G.spec_l10Up, g1, N.spec_l10Up]
        rw [step _ (by simp)]
        simp
      · simp only [spec_PathFor_L0, spec_PathFor_P_L0, e1, hx, lt_nat, inRange_nat, decide_eq_false hs, cond_true, cond_false, tdiv2 (i := i) (by omega), G.spec_l10Up, g1, N.spec_l10Up]
        rw [step _ (by omega)]
        simp
    · have e1 : decide ((l.length : Int) > 1) = false := by simp; omega
      obtain ⟨f, hf⟩ : ∃ f, l.length = f + 1 := ⟨l.length - 1, by omega⟩
      rw [hf]
      unfold pathN
      rw [decide_eq_false h1]
      simp [spec_PathFor_L0, spec_PathFor_P_L0, e1]
def OP_spec_PathFor (f_spec_l1In : Int → Int → Int → Bool) (f_spec_l10Up : (List Int) → (List Int)) (g_spec_l10Up : (List Int) → Bool) : Orac := (orcX 46 [.val (.slice 3 (.int .i64))] (fun d => g_spec_l10Up d.1) (fun d => [⟨(.slice 3 (.int .i64)), f_spec_l10Up d.1⟩]) (orcX 45 [.val (.int .i64), .val (.int .i64), .val (.int .i64)] (fun d => true) (fun d => [⟨.bool, f_spec_l1In d.1 d.2.1 d.2.2.1⟩]) nilO))
def O_spec_PathFor : Orac := OP_spec_PathFor N.spec_l1In N.spec_l10Up G.spec_l10Up
theorem ok_spec_PathFor : OracOk Try.prog sigs O_spec_PathFor := (orcX_ok rfl rfl (fun d g => said_spec_l10Up d.1 g) (orcX_ok rfl rfl (fun d g => said_spec_l1In d.1 d.2.1 d.2.2.1) nilO_ok))
def A_spec_PathFor : Ann := fun b => cond (Nat.beq b 0) ⟨[(1, false), (5, true), (6, false)], []⟩ (⟨[], []⟩)
def S_spec_PathFor_0 (v0_0 : Int) (v0_1 : (List Int)) (v0_2 : (List Int)) : St := [(kT 1, some (.tv (.v (.int .i64) v0_0 .no))), (kT 5, some (.tv (.v (.slice 3 (.int .i64)) [] (.own 40)))), (kT 6, some (.tv (.v (.slice 3 (.int .i64)) v0_1 .no))), (kR 40, some (.row 3 (.int .i64) v0_2))]
noncomputable def L_P_spec_PathFor_0 (f_spec_l1In : Int → Int → Int → Bool) (f_spec_l10Up : (List Int) → (List Int)) (g_spec_l10Up : (List Int) → Bool) (n m : Nat) : St → Option Ret := loopOf tab sigs (OP_spec_PathFor f_spec_l1In f_spec_l10Up g_spec_l10Up) A_spec_PathFor Try.f10 [((.slice 3 (.int .i64)), (.own 0))] n (fun _ => 0) 0 m
noncomputable def L_spec_PathFor_0 (n m : Nat) : St → Option Ret := L_P_spec_PathFor_0 N.spec_l1In N.spec_l10Up G.spec_l10Up n m
theorem bP_spec_PathFor_0 (f_spec_l1In : Int → Int → Int → Bool) (f_spec_l10Up : (List Int) → (List Int)) (g_spec_l10Up : (List Int) → Bool) (n m : Nat) (v0_0 : Int) (v0_1 : (List Int)) (v0_2 : (List Int)) : L_P_spec_PathFor_0 f_spec_l1In f_spec_l10Up g_spec_l10Up n (m + 1) (S_spec_PathFor_0 v0_0 v0_1 v0_2) = spec_PathFor_P_L0 f_spec_l1In f_spec_l10Up g_spec_l10Up (fun r0 => some [⟨(.slice 3 (.int .i64)), r0⟩]) (fun v0_0 v0_1 v0_2 => L_P_spec_PathFor_0 f_spec_l1In f_spec_l10Up g_spec_l10Up n m (S_spec_PathFor_0 v0_0 v0_1 v0_2)) v0_0 v0_1 v0_2 := by kernel_rfl
theorem b_spec_PathFor_0 (n m : Nat) (v0_0 : Int) (v0_1 : (List Int)) (v0_2 : (List Int)) : L_spec_PathFor_0 n (m + 1) (S_spec_PathFor_0 v0_0 v0_1 v0_2) = spec_PathFor_L0 (fun r0 => some [⟨(.slice 3 (.int .i64)), r0⟩]) (fun v0_0 v0_1 v0_2 => L_spec_PathFor_0 n m (S_spec_PathFor_0 v0_0 v0_1 v0_2)) v0_0 v0_1 v0_2 := bP_spec_PathFor_0 N.spec_l1In N.spec_l10Up G.spec_l10Up n m v0_0 v0_1 v0_2
theorem aP_spec_PathFor (f_spec_l1In : Int → Int → Int → Bool) (f_spec_l10Up : (List Int) → (List Int)) (g_spec_l10Up : (List Int) → Bool) (n : Nat) (a0 : (List Int)) (a1 : Int) : absF tab sigs (OP_spec_PathFor f_spec_l1In f_spec_l10Up g_spec_l10Up) A_spec_PathFor Try.f10 [((.slice 3 (.int .i64)), (.own 0))] n [.val (.slice 3 (.int .i64)) a0, .val (.int .i64) a1] = spec_PathFor_P f_spec_l1In f_spec_l10Up g_spec_l10Up (fun r0 => some [⟨(.slice 3 (.int .i64)), r0⟩]) (fun v0_0 v0_1 v0_2 => L_P_spec_PathFor_0 f_spec_l1In f_spec_l10Up g_spec_l10Up n n (S_spec_PathFor_0 v0_0 v0_1 v0_2)) a0 a1 := by kernel_rfl
theorem a_spec_PathFor (n : Nat) (a0 : (List Int)) (a1 : Int) : absF tab sigs O_spec_PathFor A_spec_PathFor Try.f10 [((.slice 3 (.int .i64)), (.own 0))] n [.val (.slice 3 (.int .i64)) a0, .val (.int .i64) a1] = spec_PathFor (fun r0 => some [⟨(.slice 3 (.int .i64)), r0⟩]) (fun v0_0 v0_1 v0_2 => L_spec_PathFor_0 n n (S_spec_PathFor_0 v0_0 v0_1 v0_2)) a0 a1 := aP_spec_PathFor N.spec_l1In N.spec_l10Up G.spec_l10Up n a0 a1
theorem said_spec_PathFor (a0 : (List Int)) (a1 : Int) (g : G.spec_PathFor a0 a1 = true) : Said Try.prog sigs_10 10 [.val (.slice 3 (.int .i64)) a0, .val (.int .i64) a1] [⟨(.slice 3 (.int .i64)), N.spec_PathFor a0 a1⟩] := said_len (T := tab) (A := A_spec_PathFor) tabOk ok_spec_PathFor tabOk.follows Try.func10 (by kernel_rfl) (by kernel_rfl) (fun hl => let ⟨n, hn⟩ := spec_PathFor_ok (ρ := Ret) (fun r0 => some [⟨(.slice 3 (.int .i64)), r0⟩]) a0 a1 hl.1 g; ⟨n, (a_spec_PathFor n a0 a1).trans (hn n (Nat.le_refl n) (fun  m v0_0 v0_1 v0_2 => L_spec_PathFor_0 n  m (S_spec_PathFor_0 v0_0 v0_1 v0_2)) (fun  m v0_0 v0_1 v0_2 => b_spec_PathFor_0 n  m v0_0 v0_1 v0_2))⟩)
abbrev N.laws_sameInts (a b : List Int) : Bool := eqInts a b
def laws_sameInts_L0 {ρ : Type} (k : Bool → Option ρ) (L0 : (List Int) → (List Int) → Int → Option ρ) (v0_0 : (List Int)) (v0_1 : (List Int)) (v0_2 : Int) : Option ρ := (cond (decide (v0_2 < (List.length v0_0 : Int))) (cond (inRange v0_2 (List.length v0_0)) (cond (inRange v0_2 (List.length v0_1)) (cond ((List.getD v0_0 (Int.toNat v0_2) (0 : Int)) != (List.getD v0_1 (Int.toNat v0_2) (0 : Int))) (k false) (L0 v0_0 v0_1 (IntKind.wrap .i64 (v0_2 + (1 : Int))))) none) none) (k true))
def laws_sameInts {ρ : Type} (k : Bool → Option ρ) (L0 : (List Int) → (List Int) → Int → Option ρ) (a0 : (List Int)) (a1 : (List Int)) : Option ρ := (cond ((List.length a0 : Int) != (List.length a1 : Int)) (k false) (L0 a0 a1 (0 : Int)))
theorem laws_sameInts_ok {ρ : Type} (k : Bool → Option ρ) (a0 : (List Int)) (a1 : (List Int)) (l_a0 : lnL (fun _ => True) a0) (l_a1 : lnL (fun _ => True) a1) : ∃ n0, ∀ n, n0 ≤ n → ∀ (L0 : Nat → (List Int) → (List Int) → Int → Option ρ) (h0 : ∀ ( m : Nat) (v0_0 : (List Int)) (v0_1 : (List Int)) (v0_2 : Int), L0 (m + 1) v0_0 v0_1 v0_2 = laws_sameInts_L0 k (L0 m) v0_0 v0_1 v0_2), laws_sameInts k (L0 n) a0 a1 = k (N.laws_sameInts a0 a1) := by
  exact ⟨a0.length + 1, fun n hn L0 h0 => eq_all (p := fun x y => x == y) (d := 0) l_a0.1 (L := fun m i => L0 m a0 a1 i) (fun m i => h0 m a0 a1 i) hn⟩
def O_laws_sameInts : Orac := nilO
theorem ok_laws_sameInts : OracOk Try.prog sigs O_laws_sameInts := nilO_ok
def A_laws_sameInts : Ann := fun b => cond (Nat.beq b 0) ⟨[(0, false), (1, false), (5, false)], []⟩ (⟨[], []⟩)
def S_laws_sameInts_0 (v0_0 : (List Int)) (v0_1 : (List Int)) (v0_2 : Int) : St := [(kT 0, some (.tv (.v (.slice 3 (.int .i64)) v0_0 .no))), (kT 1, some (.tv (.v (.slice 3 (.int .i64)) v0_1 .no))), (kT 5, some (.tv (.v (.int .i64) v0_2 .no)))]
noncomputable def L_laws_sameInts_0 (n m : Nat) : St → Option Ret := loopOf tab sigs O_laws_sameInts A_laws_sameInts Try.f9 [(.bool, .no)] n (fun _ => 0) 0 m
theorem b_laws_sameInts_0 (n m : Nat) (v0_0 : (List Int)) (v0_1 : (List Int)) (v0_2 : Int) : L_laws_sameInts_0 n (m + 1) (S_laws_sameInts_0 v0_0 v0_1 v0_2) = laws_sameInts_L0 (fun r0 => some [⟨.bool, r0⟩]) (fun v0_0 v0_1 v0_2 => L_laws_sameInts_0 n m (S_laws_sameInts_0 v0_0 v0_1 v0_2)) v0_0 v0_1 v0_2 := by kernel_rfl
theorem a_laws_sameInts (n : Nat) (a0 : (List Int)) (a1 : (List Int)) : absF tab sigs O_laws_sameInts A_laws_sameInts Try.f9 [(.bool, .no)] n [.val (.slice 3 (.int .i64)) a0, .val (.slice 3 (.int .i64)) a1] = laws_sameInts (fun r0 => some [⟨.bool, r0⟩]) (fun v0_0 v0_1 v0_2 => L_laws_sameInts_0 n n (S_laws_sameInts_0 v0_0 v0_1 v0_2)) a0 a1 := by kernel_rfl
theorem said_laws_sameInts (a0 : (List Int)) (a1 : (List Int)) : Said Try.prog sigs_9 9 [.val (.slice 3 (.int .i64)) a0, .val (.slice 3 (.int .i64)) a1] [⟨.bool, N.laws_sameInts a0 a1⟩] := said_len (T := tab) (A := A_laws_sameInts) tabOk ok_laws_sameInts tabOk.follows Try.func9 (by kernel_rfl) (by kernel_rfl) (fun hl => let ⟨n, hn⟩ := laws_sameInts_ok (ρ := Ret) (fun r0 => some [⟨.bool, r0⟩]) a0 a1 hl.1 hl.2.1; ⟨n, (a_laws_sameInts n a0 a1).trans (hn n (Nat.le_refl n) (fun  m v0_0 v0_1 v0_2 => L_laws_sameInts_0 n  m (S_laws_sameInts_0 v0_0 v0_1 v0_2)) (fun  m v0_0 v0_1 v0_2 => b_laws_sameInts_0 n  m v0_0 v0_1 v0_2))⟩)
abbrev G.spec_TopOf (l : List Int) : Bool := decide (l.length ≤ 1048576)
abbrev N.spec_TopOf (l : List Int) : Int := topOf l
def spec_TopOf_L0 {ρ : Type} (k : Int → Option ρ) (L0 : (List Int) → Option ρ) (v0_0 : (List Int)) : Option ρ := (cond (decide ((List.length v0_0 : Int) > (1 : Int))) (cond (G.spec_l10Up v0_0) (L0 (N.spec_l10Up v0_0)) none) (cond (inRange (0 : Int) (List.length v0_0)) (k (List.getD v0_0 0 (0 : Int))) none))
def spec_TopOf {ρ : Type} (k : Int → Option ρ) (L0 : (List Int) → Option ρ) (a0 : (List Int)) : Option ρ := (cond ((List.length a0 : Int) == (0 : Int)) (k (N.spec_Hash [(229 : Int)])) (L0 a0))
theorem spec_TopOf_ok {ρ : Type} (k : Int → Option ρ) (a0 : (List Int)) (l_a0 : lnL (fun _ => True) a0) (g : G.spec_TopOf a0 = true) : ∃ n0, ∀ n, n0 ≤ n → ∀ (L0 : Nat → (List Int) → Option ρ) (h0 : ∀ ( m : Nat) (v0_0 : (List Int)), L0 (m + 1) v0_0 = spec_TopOf_L0 k (L0 m) v0_0), spec_TopOf k (L0 n) a0 = k (N.spec_TopOf a0) := by
  unfold G.spec_TopOf at g
  have hlen : a0.length ≤ 1048576 := of_decide_eq_true g
  refine ⟨a0.length + 1, fun n hn L0 h0 => ?_⟩
  unfold spec_TopOf
  show _ = k (topOf a0)
  unfold topOf
  by_cases h : a0.length = 0
  · simp [h]
  · have e1 : ((a0.length : Int) == 0) = false := by simpa using h
    rw [e1, decide_eq_false h]
    refine raw_meas (L := fun m s => L0 m s) (R := fun s c => spec_TopOf_L0 k c s) (fun m s => h0 m s) (fun s => 0 < s.length ∧ s.length ≤ 1048576) (fun s => s.length) (fun s => k (topN s.length s)) (fun s c hI hc => ?_) n a0 ⟨by omega, hlen⟩ (by omega)
    unfold spec_TopOf_L0
    by_cases h1 : 1 < s.length
    · have e2 : decide ((s.length : Int) > 1) = true := by simp; omega
      have hu := up_len s
      have e3 : decide (s.length ≤ 1048576) = true := by simpa using hI.2
      have := hc (up s) ⟨by omega, by omega⟩ (by omega)
      simp only [e2, e3, cond_true, this]
      congr 1
      obtain ⟨q, hq⟩ : ∃ q, s.length = q + 1 := ⟨s.length - 1, by omega⟩
      rw [hq]
      show _ = cond (decide (1 < s.length)) (topN q (up s)) _
      rw [decide_eq_true h1]
      exact topN_more _ _ _ (by omega) (by omega)
    · have e2 : decide ((s.length : Int) > 1) = false := by simp; omega
      have e3 : inRange 0 s.length = true := by unfold inRange; simp; omega
      have e4 : s.length = 1 := by omega
      rw [e4] at e3
      simp [e2, e3, e4, topN]
def OP_spec_TopOf (f_spec_Hash : (List Int) → Int) (f_spec_l10Up : (List Int) → (List Int)) (g_spec_l10Up : (List Int) → Bool) : Orac := (orcX 46 [.val (.slice 3 (.int .i64))] (fun d => g_spec_l10Up d.1) (fun d => [⟨(.slice 3 (.int .i64)), f_spec_l10Up d.1⟩]) (orcX 48 [.val (.slice 3 (.int .i64))] (fun d => true) (fun d => [⟨(.int .i64), f_spec_Hash d.1⟩]) nilO))
def O_spec_TopOf : Orac := OP_spec_TopOf N.spec_Hash N.spec_l10Up G.spec_l10Up
def spec_TopOf_P_L0 {ρ : Type} (f_spec_Hash : (List Int) → Int) (f_spec_l10Up : (List Int) → (List Int)) (g_spec_l10Up : (List Int) → Bool) (k : Int → Option ρ) (L0 : (List Int) → Option ρ) (v0_0 : (List Int)) : Option ρ := (cond (decide ((List.length v0_0 : Int) > (1 : Int))) (cond (g_spec_l10Up v0_0) (L0 (f_spec_l10Up v0_0)) none) (cond (inRange (0 : Int) (List.length v0_0)) (k (List.getD v0_0 0 (0 : Int))) none))
def spec_TopOf_P {ρ : Type} (f_spec_Hash : (List Int) → Int) (f_spec_l10Up : (List Int) → (List Int)) (g_spec_l10Up : (List Int) → Bool) (k : Int → Option ρ) (L0 : (List Int) → Option ρ) (a0 : (List Int)) : Option ρ := (cond ((List.length a0 : Int) == (0 : Int)) (k (f_spec_Hash [(229 : Int)])) (L0 a0))
theorem ok_spec_TopOf : OracOk Try.prog sigs O_spec_TopOf := (orcX_ok rfl rfl (fun d g => said_spec_l10Up d.1 g) (orcX_ok rfl rfl (fun d g => said_spec_Hash d.1) nilO_ok))
def A_spec_TopOf : Ann := fun b => cond (Nat.beq b 0) ⟨[(3, false)], []⟩ (⟨[], []⟩)
def S_spec_TopOf_0 (v0_0 : (List Int)) : St := [(kT 3, some (.tv (.v (.slice 3 (.int .i64)) v0_0 .no)))]
noncomputable def L_P_spec_TopOf_0 (f_spec_Hash : (List Int) → Int) (f_spec_l10Up : (List Int) → (List Int)) (g_spec_l10Up : (List Int) → Bool) (n m : Nat) : St → Option Ret := loopOf tab sigs (OP_spec_TopOf f_spec_Hash f_spec_l10Up g_spec_l10Up) A_spec_TopOf Try.f12 [((.int .i64), .no)] n (fun _ => 0) 0 m
noncomputable def L_spec_TopOf_0 (n m : Nat) : St → Option Ret := L_P_spec_TopOf_0 N.spec_Hash N.spec_l10Up G.spec_l10Up n m
theorem bP_spec_TopOf_0 (f_spec_Hash : (List Int) → Int) (f_spec_l10Up : (List Int) → (List Int)) (g_spec_l10Up : (List Int) → Bool) (n m : Nat) (v0_0 : (List Int)) : L_P_spec_TopOf_0 f_spec_Hash f_spec_l10Up g_spec_l10Up n (m + 1) (S_spec_TopOf_0 v0_0) = spec_TopOf_P_L0 f_spec_Hash f_spec_l10Up g_spec_l10Up (fun r0 => some [⟨(.int .i64), r0⟩]) (fun v0_0 => L_P_spec_TopOf_0 f_spec_Hash f_spec_l10Up g_spec_l10Up n m (S_spec_TopOf_0 v0_0)) v0_0 := by kernel_rfl
theorem b_spec_TopOf_0 (n m : Nat) (v0_0 : (List Int)) : L_spec_TopOf_0 n (m + 1) (S_spec_TopOf_0 v0_0) = spec_TopOf_L0 (fun r0 => some [⟨(.int .i64), r0⟩]) (fun v0_0 => L_spec_TopOf_0 n m (S_spec_TopOf_0 v0_0)) v0_0 := bP_spec_TopOf_0 N.spec_Hash N.spec_l10Up G.spec_l10Up n m v0_0
theorem aP_spec_TopOf (f_spec_Hash : (List Int) → Int) (f_spec_l10Up : (List Int) → (List Int)) (g_spec_l10Up : (List Int) → Bool) (n : Nat) (a0 : (List Int)) : absF tab sigs (OP_spec_TopOf f_spec_Hash f_spec_l10Up g_spec_l10Up) A_spec_TopOf Try.f12 [((.int .i64), .no)] n [.val (.slice 3 (.int .i64)) a0] = spec_TopOf_P f_spec_Hash f_spec_l10Up g_spec_l10Up (fun r0 => some [⟨(.int .i64), r0⟩]) (fun v0_0 => L_P_spec_TopOf_0 f_spec_Hash f_spec_l10Up g_spec_l10Up n n (S_spec_TopOf_0 v0_0)) a0 := by kernel_rfl
theorem a_spec_TopOf (n : Nat) (a0 : (List Int)) : absF tab sigs O_spec_TopOf A_spec_TopOf Try.f12 [((.int .i64), .no)] n [.val (.slice 3 (.int .i64)) a0] = spec_TopOf (fun r0 => some [⟨(.int .i64), r0⟩]) (fun v0_0 => L_spec_TopOf_0 n n (S_spec_TopOf_0 v0_0)) a0 := aP_spec_TopOf N.spec_Hash N.spec_l10Up G.spec_l10Up n a0
theorem said_spec_TopOf (a0 : (List Int)) (g : G.spec_TopOf a0 = true) : Said Try.prog sigs_12 12 [.val (.slice 3 (.int .i64)) a0] [⟨(.int .i64), N.spec_TopOf a0⟩] := said_len (T := tab) (A := A_spec_TopOf) tabOk ok_spec_TopOf tabOk.follows Try.func12 (by kernel_rfl) (by kernel_rfl) (fun hl => let ⟨n, hn⟩ := spec_TopOf_ok (ρ := Ret) (fun r0 => some [⟨(.int .i64), r0⟩]) a0 hl.1 g; ⟨n, (a_spec_TopOf n a0).trans (hn n (Nat.le_refl n) (fun  m v0_0 => L_spec_TopOf_0 n  m (S_spec_TopOf_0 v0_0)) (fun  m v0_0 => b_spec_TopOf_0 n  m v0_0))⟩)
end Go.Proofs.Ythgbcbnmdioknaa.Ref
