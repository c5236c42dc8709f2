/- Functions of the program: what each computes, and that it does so.
   Conditions: as each theorem states. -/
import Derived.Test.YthiiialbkppmnaaSB0
set_option linter.unusedVariables false
set_option linter.unusedSimpArgs false
set_option maxRecDepth 100000
namespace Go.Proofs.Ythiiialbkppmnaa.Ref
open Go.RowKit Go.Proofs.YthiiialbkppmnaaW.PrintWords Go.Proofs.YthiiialbkppmnaaW.PrintLast
/-! spec.LeavesOf -/
abbrev G.spec_LeavesOf (l : List TEntry) : Bool := decide (wEs l ≤ 1048576)
abbrev N.spec_LeavesOf (l : List TEntry) : List Int := l.map leafOf
def spec_LeavesOf_L0 {ρ : Type} (k : (List Int) → Option ρ) (L0 : (List TEntry) → Int → (List Int) → Option ρ) (v0_0 : (List TEntry)) (v0_1 : Int) (v0_2 : (List Int)) : Option ρ := (cond (decide (v0_1 < (List.length v0_0 : Int))) (cond (inRange v0_1 (List.length v0_0)) (cond (G.spec_LeafOf (List.getD v0_0 (Int.toNat v0_1) (ByteArray.empty, ((0 : Int), ((0 : Int), []))))) (cond (fit (List.length v0_2) (List.length [(N.spec_LeafOf (List.getD v0_0 (Int.toNat v0_1) (ByteArray.empty, ((0 : Int), ((0 : Int), [])))))])) (L0 v0_0 (IntKind.wrap .i64 (v0_1 + (1 : Int))) (List.append v0_2 [(N.spec_LeafOf (List.getD v0_0 (Int.toNat v0_1) (ByteArray.empty, ((0 : Int), ((0 : Int), [])))))])) none) none) none) (k v0_2))
def spec_LeavesOf {ρ : Type} (k : (List Int) → Option ρ) (L0 : (List TEntry) → Int → (List Int) → Option ρ) (a0 : (List TEntry)) : Option ρ := (L0 a0 (0 : Int) [])
theorem spec_LeavesOf_ok {ρ : Type} (k : (List Int) → Option ρ) (a0 : (List TEntry)) (l_a0 : lnL (fun y => (True ∧ (True ∧ (True ∧ lnL (fun _ => True) y.2.2.2)))) a0) (g : G.spec_LeavesOf a0 = true) : ∃ n0, ∀ n, n0 ≤ n → ∀ (L0 : Nat → (List TEntry) → Int → (List Int) → Option ρ) (h0 : ∀ ( m : Nat) (v0_0 : (List TEntry)) (v0_1 : Int) (v0_2 : (List Int)), L0 (m + 1) v0_0 v0_1 v0_2 = spec_LeavesOf_L0 k (L0 m) v0_0 v0_1 v0_2), spec_LeavesOf k (L0 n) a0 = k (N.spec_LeavesOf a0) := by
  unfold G.spec_LeavesOf at g
  have hw : wEs a0 ≤ 1048576 := of_decide_eq_true g
  have hl : a0.length ≤ 1048576 := by unfold wEs at hw; omega
  refine ⟨a0.length + 1, fun n hn L0 h0 => ?_⟩
  refine raw_map (a := a0) (ByteArray.empty, (0, (0, []))) leafOf 1048576 (k := k) (L := fun m i out => L0 m a0 i out) (R := fun i out c => spec_LeavesOf_L0 k (fun _ i out => c i out) a0 i out) (fun m i s => h0 m a0 i s) (fun j out c hj ho => ?_) (fun out c => ?_) hl hn
  · have hm := wEs_mem (getD_mem (d := (ByteArray.empty, (0, (0, [])))) hj)
    have g2 : decide (wE (a0.getD j (ByteArray.empty, (0, (0, [])))) ≤ 1048576) = true := by simp only [decide_eq_true_eq]; omega
    have e3 : fit out.length 1 = true := fit_of (by omega)
    simp only [spec_LeavesOf_L0, lt_nat, inRange_nat, decide_eq_true hj, cond_true, Int.toNat_natCast, G.spec_LeafOf, g2, List.length_singleton, e3, wrap_succ (j := j) (by unfold big; omega), List.append_eq]
  · simp [spec_LeavesOf_L0]
def OP_spec_LeavesOf (f_spec_LeafOf : TEntry → Int) (g_spec_LeafOf : TEntry → Bool) : Orac := (orcX 18 [.val (.pair .str (.pair (.int .i64) (.pair (.int .i64) (.slice 9 .str))))] (fun d => g_spec_LeafOf d.1) (fun d => [⟨(.int .i64), f_spec_LeafOf d.1⟩]) nilO)
def O_spec_LeavesOf : Orac := OP_spec_LeavesOf N.spec_LeafOf G.spec_LeafOf
def spec_LeavesOf_P_L0 {ρ : Type} (f_spec_LeafOf : TEntry → Int) (g_spec_LeafOf : TEntry → Bool) (k : (List Int) → Option ρ) (L0 : (List TEntry) → Int → (List Int) → Option ρ) (v0_0 : (List TEntry)) (v0_1 : Int) (v0_2 : (List Int)) : Option ρ := (cond (decide (v0_1 < (List.length v0_0 : Int))) (cond (inRange v0_1 (List.length v0_0)) (cond (g_spec_LeafOf (List.getD v0_0 (Int.toNat v0_1) (ByteArray.empty, ((0 : Int), ((0 : Int), []))))) (cond (fit (List.length v0_2) (List.length [(f_spec_LeafOf (List.getD v0_0 (Int.toNat v0_1) (ByteArray.empty, ((0 : Int), ((0 : Int), [])))))])) (L0 v0_0 (IntKind.wrap .i64 (v0_1 + (1 : Int))) (List.append v0_2 [(f_spec_LeafOf (List.getD v0_0 (Int.toNat v0_1) (ByteArray.empty, ((0 : Int), ((0 : Int), [])))))])) none) none) none) (k v0_2))
def spec_LeavesOf_P {ρ : Type} (f_spec_LeafOf : TEntry → Int) (g_spec_LeafOf : TEntry → Bool) (k : (List Int) → Option ρ) (L0 : (List TEntry) → Int → (List Int) → Option ρ) (a0 : (List TEntry)) : Option ρ := (L0 a0 (0 : Int) [])
theorem ok_spec_LeavesOf : OracOk Try.prog sigs O_spec_LeavesOf := (orcX_ok rfl (fun d g => said_spec_LeafOf d.1 g) nilO_ok)
def A_spec_LeavesOf : Ann := fun b => cond (Nat.beq b 0) ⟨[(0, false), (3, true), (4, false)], []⟩ (⟨[], []⟩)
def S_spec_LeavesOf_0 (v0_0 : (List TEntry)) (v0_1 : Int) (v0_2 : (List Int)) : St := [(kT 0, some (.tv (.v (.slice 28 (.pair .str (.pair (.int .i64) (.pair (.int .i64) (.slice 9 .str))))) v0_0 .no))), (kT 3, some (.tv (.v (.slice 3 (.int .i64)) [] (.own 24)))), (kT 4, some (.tv (.v (.int .i64) v0_1 .no))), (kR 24, some (.row 3 (.int .i64) v0_2))]
noncomputable def L_P_spec_LeavesOf_0 (f_spec_LeafOf : TEntry → Int) (g_spec_LeafOf : TEntry → Bool) (n m : Nat) : St → Option Ret := loopOf tab sigs (OP_spec_LeavesOf f_spec_LeafOf g_spec_LeafOf) A_spec_LeavesOf Try.f21 [((.slice 3 (.int .i64)), (.own 0))] n (fun _ => 0) 0 m
noncomputable def L_spec_LeavesOf_0 (n m : Nat) : St → Option Ret := L_P_spec_LeavesOf_0 N.spec_LeafOf G.spec_LeafOf n m
theorem bP_spec_LeavesOf_0 (f_spec_LeafOf : TEntry → Int) (g_spec_LeafOf : TEntry → Bool) (n m : Nat) (v0_0 : (List TEntry)) (v0_1 : Int) (v0_2 : (List Int)) : L_P_spec_LeavesOf_0 f_spec_LeafOf g_spec_LeafOf n (m + 1) (S_spec_LeavesOf_0 v0_0 v0_1 v0_2) = spec_LeavesOf_P_L0 f_spec_LeafOf g_spec_LeafOf (fun r0 => some [⟨(.slice 3 (.int .i64)), r0⟩]) (fun v0_0 v0_1 v0_2 => L_P_spec_LeavesOf_0 f_spec_LeafOf g_spec_LeafOf n m (S_spec_LeavesOf_0 v0_0 v0_1 v0_2)) v0_0 v0_1 v0_2 := by kernel_rfl
theorem b_spec_LeavesOf_0 (n m : Nat) (v0_0 : (List TEntry)) (v0_1 : Int) (v0_2 : (List Int)) : L_spec_LeavesOf_0 n (m + 1) (S_spec_LeavesOf_0 v0_0 v0_1 v0_2) = spec_LeavesOf_L0 (fun r0 => some [⟨(.slice 3 (.int .i64)), r0⟩]) (fun v0_0 v0_1 v0_2 => L_spec_LeavesOf_0 n m (S_spec_LeavesOf_0 v0_0 v0_1 v0_2)) v0_0 v0_1 v0_2 := bP_spec_LeavesOf_0 N.spec_LeafOf G.spec_LeafOf n m v0_0 v0_1 v0_2
theorem aP_spec_LeavesOf (f_spec_LeafOf : TEntry → Int) (g_spec_LeafOf : TEntry → Bool) (n : Nat) (a0 : (List TEntry)) : absF tab sigs (OP_spec_LeavesOf f_spec_LeafOf g_spec_LeafOf) A_spec_LeavesOf Try.f21 [((.slice 3 (.int .i64)), (.own 0))] n [.val (.slice 28 (.pair .str (.pair (.int .i64) (.pair (.int .i64) (.slice 9 .str))))) a0] = spec_LeavesOf_P f_spec_LeafOf g_spec_LeafOf (fun r0 => some [⟨(.slice 3 (.int .i64)), r0⟩]) (fun v0_0 v0_1 v0_2 => L_P_spec_LeavesOf_0 f_spec_LeafOf g_spec_LeafOf n n (S_spec_LeavesOf_0 v0_0 v0_1 v0_2)) a0 := by kernel_rfl
theorem a_spec_LeavesOf (n : Nat) (a0 : (List TEntry)) : absF tab sigs O_spec_LeavesOf A_spec_LeavesOf Try.f21 [((.slice 3 (.int .i64)), (.own 0))] n [.val (.slice 28 (.pair .str (.pair (.int .i64) (.pair (.int .i64) (.slice 9 .str))))) a0] = spec_LeavesOf (fun r0 => some [⟨(.slice 3 (.int .i64)), r0⟩]) (fun v0_0 v0_1 v0_2 => L_spec_LeavesOf_0 n n (S_spec_LeavesOf_0 v0_0 v0_1 v0_2)) a0 := aP_spec_LeavesOf N.spec_LeafOf G.spec_LeafOf n a0
theorem said_spec_LeavesOf (a0 : (List TEntry)) (g : G.spec_LeavesOf a0 = true) : Said Try.prog sigs_21 21 [.val (.slice 28 (.pair .str (.pair (.int .i64) (.pair (.int .i64) (.slice 9 .str))))) a0] [⟨(.slice 3 (.int .i64)), N.spec_LeavesOf a0⟩] := said_len (T := tab) (A := A_spec_LeavesOf) tabOk ok_spec_LeavesOf tabOk.follows Try.func21 (by kernel_rfl) (by kernel_rfl) (fun hl => let ⟨n, hn⟩ := spec_LeavesOf_ok (ρ := Ret) (fun r0 => some [⟨(.slice 3 (.int .i64)), r0⟩]) a0 hl.1 g; ⟨n, (a_spec_LeavesOf n a0).trans (hn n (Nat.le_refl n) (fun  m v0_0 v0_1 v0_2 => L_spec_LeavesOf_0 n  m (S_spec_LeavesOf_0 v0_0 v0_1 v0_2)) (fun  m v0_0 v0_1 v0_2 => b_spec_LeavesOf_0 n  m v0_0 v0_1 v0_2))⟩)
/-! spec.NodeOf -/
abbrev N.spec_NodeOf (a b : Int) : Int := nodeOf a b
def spec_NodeOf {ρ : Type} (k : Int → Option ρ) (a0 : Int) (a1 : Int) : Option ρ := (k (N.spec_Hash [(229 : Int), a0, a1]))
theorem spec_NodeOf_ok {ρ : Type} (k : Int → Option ρ) (a0 : Int) (a1 : Int) : spec_NodeOf k  a0 a1 = k (N.spec_NodeOf a0 a1) := by
  rfl
def OP_spec_NodeOf (f_spec_Hash : (List Int) → Int) : Orac := (orcX 38 [.val (.slice 3 (.int .i64))] (fun d => true) (fun d => [⟨(.int .i64), f_spec_Hash d.1⟩]) nilO)
def O_spec_NodeOf : Orac := OP_spec_NodeOf N.spec_Hash
def spec_NodeOf_P {ρ : Type} (f_spec_Hash : (List Int) → Int) (k : Int → Option ρ) (a0 : Int) (a1 : Int) : Option ρ := (k (f_spec_Hash [(229 : Int), a0, a1]))
theorem ok_spec_NodeOf : OracOk Try.prog sigs O_spec_NodeOf := (orcX_ok rfl (fun d g => said_spec_Hash d.1) nilO_ok)
def A_spec_NodeOf : Ann := fun b => ⟨[], []⟩
theorem aP_spec_NodeOf (f_spec_Hash : (List Int) → Int) (n : Nat) (a0 : Int) (a1 : Int) : absF tab sigs (OP_spec_NodeOf f_spec_Hash) A_spec_NodeOf Try.f64 [((.int .i64), .no)] n [.val (.int .i64) a0, .val (.int .i64) a1] = spec_NodeOf_P f_spec_Hash (fun r0 => some [⟨(.int .i64), r0⟩])  a0 a1 := by kernel_rfl
theorem a_spec_NodeOf (n : Nat) (a0 : Int) (a1 : Int) : absF tab sigs O_spec_NodeOf A_spec_NodeOf Try.f64 [((.int .i64), .no)] n [.val (.int .i64) a0, .val (.int .i64) a1] = spec_NodeOf (fun r0 => some [⟨(.int .i64), r0⟩])  a0 a1 := aP_spec_NodeOf N.spec_Hash n a0 a1
theorem said_spec_NodeOf (a0 : Int) (a1 : Int) : Said Try.prog sigs_64 64 [.val (.int .i64) a0, .val (.int .i64) a1] [⟨(.int .i64), N.spec_NodeOf a0 a1⟩] := said_len (T := tab) (A := A_spec_NodeOf) tabOk ok_spec_NodeOf tabOk.follows Try.func64 (by kernel_rfl) (by kernel_rfl) (fun hl => ⟨0, (a_spec_NodeOf 0 a0 a1).trans (spec_NodeOf_ok (ρ := Ret) (fun r0 => some [⟨(.int .i64), r0⟩]) a0 a1)⟩)
/-! spec.l10Up -/
abbrev G.spec_l10Up (l : List Int) : Bool := decide (l.length ≤ 1048576)
abbrev N.spec_l10Up (l : List Int) : List Int := up l
def spec_l10Up_L0 {ρ : Type} (k : (List Int) → Option ρ) (L0 : (List Int) → Int → (List Int) → Option ρ) (v0_0 : (List Int)) (v0_1 : Int) (v0_2 : (List Int)) : Option ρ := (cond (decide (v0_1 < (List.length v0_0 : Int))) (cond (decide ((IntKind.wrap .i64 (v0_1 + (1 : Int))) < (List.length v0_0 : Int))) (cond (inRange v0_1 (List.length v0_0)) (cond (inRange (IntKind.wrap .i64 (v0_1 + (1 : Int))) (List.length v0_0)) (cond (fit (List.length v0_2) (List.length [(N.spec_NodeOf (List.getD v0_0 (Int.toNat v0_1) (0 : Int)) (List.getD v0_0 (Int.toNat (IntKind.wrap .i64 (v0_1 + (1 : Int)))) (0 : Int)))])) (L0 v0_0 (IntKind.wrap .i64 (v0_1 + (2 : Int))) (List.append v0_2 [(N.spec_NodeOf (List.getD v0_0 (Int.toNat v0_1) (0 : Int)) (List.getD v0_0 (Int.toNat (IntKind.wrap .i64 (v0_1 + (1 : Int)))) (0 : Int)))])) none) none) none) (cond (inRange v0_1 (List.length v0_0)) (cond (fit (List.length v0_2) (List.length [(List.getD v0_0 (Int.toNat v0_1) (0 : Int))])) (L0 v0_0 (IntKind.wrap .i64 (v0_1 + (2 : Int))) (List.append v0_2 [(List.getD v0_0 (Int.toNat v0_1) (0 : Int))])) none) none)) (k v0_2))
def spec_l10Up {ρ : Type} (k : (List Int) → Option ρ) (L0 : (List Int) → Int → (List Int) → Option ρ) (a0 : (List Int)) : Option ρ := (L0 a0 (0 : Int) [])
theorem spec_l10Up_ok {ρ : Type} (k : (List Int) → Option ρ) (a0 : (List Int)) (l_a0 : lnL (fun _ => True) a0) (g : G.spec_l10Up a0 = true) : ∃ n0, ∀ n, n0 ≤ n → ∀ (L0 : Nat → (List Int) → Int → (List Int) → Option ρ) (h0 : ∀ ( m : Nat) (v0_0 : (List Int)) (v0_1 : Int) (v0_2 : (List Int)), L0 (m + 1) v0_0 v0_1 v0_2 = spec_l10Up_L0 k (L0 m) v0_0 v0_1 v0_2), spec_l10Up k (L0 n) a0 = k (N.spec_l10Up a0) := by
  unfold G.spec_l10Up at g
  have hlen : a0.length ≤ 1048576 := of_decide_eq_true g
  refine ⟨a0.length + 1, fun n hn L0 h0 => ?_⟩
  refine (raw_meas (σ := Int × List Int) (L := fun m s => L0 m a0 s.1 s.2) (R := fun s c => spec_l10Up_L0 k (fun _ i out => c (i, out)) a0 s.1 s.2) (fun m s => h0 m a0 s.1 s.2) (fun s => 0 ≤ s.1 ∧ s.2.length + s.1 ≤ 2097160 ∧ s.1 ≤ a0.length + 1 ∧ s.2.length ≤ s.1) (fun s => a0.length - s.1.toNat) (fun s => k (s.2 ++ up (a0.drop s.1.toNat))) (fun s c hI hc => ?_) n (0, []) ⟨by simp, by simp, by simp; omega, by simp⟩ (by simp; omega)).trans (by simp)
  obtain ⟨j, out⟩ := s
  obtain ⟨hj0, hj1, hj2, hj3⟩ := hI
  dsimp only at hj0 hj1 hj2 hj3 hc ⊢
  obtain ⟨j, rfl⟩ := Int.eq_ofNat_of_zero_le hj0
  rw [Int.toNat_natCast]
  by_cases h : j < a0.length
  · have e1 : IntKind.wrap .i64 ((j : Int) + 2) = ((j + 2 : Nat) : Int) := by rw [wrap_id (by omega) (by omega)]; omega
    have e2 : IntKind.wrap .i64 ((j : Int) + 1) = ((j + 1 : Nat) : Int) := wrap_succ (by unfold big; omega)
    have e3 : fit out.length 1 = true := fit_of (by omega)
    by_cases h2 : j + 1 < a0.length
    · have hd : a0.drop j = a0.getD j 0 :: a0.getD (j + 1) 0 :: a0.drop (j + 2) := by rw [drop_cons 0 h, drop_cons 0 h2]
      have := hc (((j + 2 : Nat) : Int), out ++ [nodeOf (a0.getD j 0) (a0.getD (j + 1) 0)]) ⟨by simp; omega, by simp; omega, by simp; omega, by simp; omega⟩ (by simp; omega)
      dsimp only at this
      rw [Int.toNat_natCast] at this
      simp only [spec_l10Up_L0, e1, e2, lt_nat, inRange_nat, decide_eq_true h, decide_eq_true h2, cond_true, Int.toNat_natCast, List.length_singleton, Int.natCast_one, e3, List.append_eq, this, hd]
      simp [up]
    · have hd : a0.drop j = [a0.getD j 0] := by rw [drop_cons 0 h, List.drop_of_length_le (by omega)]
      have := hc (((j + 2 : Nat) : Int), out ++ [a0.getD j 0]) ⟨by simp; omega, by simp; omega, by simp; omega, by simp; omega⟩ (by simp; omega)
      dsimp only at this
      rw [Int.toNat_natCast, List.drop_of_length_le (by omega)] at this
      simp only [spec_l10Up_L0, e1, e2, lt_nat, inRange_nat, decide_eq_true h, decide_eq_false h2, cond_true, cond_false, Int.toNat_natCast, List.length_singleton, Int.natCast_one, e3, List.append_eq, this, hd]
      simp [up]
  · simp [spec_l10Up_L0, lt_nat, h, List.drop_of_length_le (Nat.not_lt.1 h), up]
def OP_spec_l10Up (f_spec_NodeOf : Int → Int → Int) : Orac := (orcX 64 [.val (.int .i64), .val (.int .i64)] (fun d => true) (fun d => [⟨(.int .i64), f_spec_NodeOf d.1 d.2.1⟩]) nilO)
def O_spec_l10Up : Orac := OP_spec_l10Up N.spec_NodeOf
def spec_l10Up_P_L0 {ρ : Type} (f_spec_NodeOf : Int → Int → Int) (k : (List Int) → Option ρ) (L0 : (List Int) → Int → (List Int) → Option ρ) (v0_0 : (List Int)) (v0_1 : Int) (v0_2 : (List Int)) : Option ρ := (cond (decide (v0_1 < (List.length v0_0 : Int))) (cond (decide ((IntKind.wrap .i64 (v0_1 + (1 : Int))) < (List.length v0_0 : Int))) (cond (inRange v0_1 (List.length v0_0)) (cond (inRange (IntKind.wrap .i64 (v0_1 + (1 : Int))) (List.length v0_0)) (cond (fit (List.length v0_2) (List.length [(f_spec_NodeOf (List.getD v0_0 (Int.toNat v0_1) (0 : Int)) (List.getD v0_0 (Int.toNat (IntKind.wrap .i64 (v0_1 + (1 : Int)))) (0 : Int)))])) (L0 v0_0 (IntKind.wrap .i64 (v0_1 + (2 : Int))) (List.append v0_2 [(f_spec_NodeOf (List.getD v0_0 (Int.toNat v0_1) (0 : Int)) (List.getD v0_0 (Int.toNat (IntKind.wrap .i64 (v0_1 + (1 : Int)))) (0 : Int)))])) none) none) none) (cond (inRange v0_1 (List.length v0_0)) (cond (fit (List.length v0_2) (List.length [(List.getD v0_0 (Int.toNat v0_1) (0 : Int))])) (L0 v0_0 (IntKind.wrap .i64 (v0_1 + (2 : Int))) (List.append v0_2 [(List.getD v0_0 (Int.toNat v0_1) (0 : Int))])) none) none)) (k v0_2))
def spec_l10Up_P {ρ : Type} (f_spec_NodeOf : Int → Int → Int) (k : (List Int) → Option ρ) (L0 : (List Int) → Int → (List Int) → Option ρ) (a0 : (List Int)) : Option ρ := (L0 a0 (0 : Int) [])
theorem ok_spec_l10Up : OracOk Try.prog sigs O_spec_l10Up := (orcX_ok rfl (fun d g => said_spec_NodeOf d.1 d.2.1) nilO_ok)
def A_spec_l10Up : Ann := fun b => cond (Nat.beq b 0) ⟨[(0, false), (3, true), (4, false)], []⟩ (⟨[], []⟩)
def S_spec_l10Up_0 (v0_0 : (List Int)) (v0_1 : Int) (v0_2 : (List Int)) : St := [(kT 0, some (.tv (.v (.slice 3 (.int .i64)) v0_0 .no))), (kT 3, some (.tv (.v (.slice 3 (.int .i64)) [] (.own 24)))), (kT 4, some (.tv (.v (.int .i64) v0_1 .no))), (kR 24, some (.row 3 (.int .i64) v0_2))]
noncomputable def L_P_spec_l10Up_0 (f_spec_NodeOf : Int → Int → Int) (n m : Nat) : St → Option Ret := loopOf tab sigs (OP_spec_l10Up f_spec_NodeOf) A_spec_l10Up Try.f58 [((.slice 3 (.int .i64)), (.own 0))] n (fun _ => 0) 0 m
noncomputable def L_spec_l10Up_0 (n m : Nat) : St → Option Ret := L_P_spec_l10Up_0 N.spec_NodeOf n m
theorem bP_spec_l10Up_0 (f_spec_NodeOf : Int → Int → Int) (n m : Nat) (v0_0 : (List Int)) (v0_1 : Int) (v0_2 : (List Int)) : L_P_spec_l10Up_0 f_spec_NodeOf n (m + 1) (S_spec_l10Up_0 v0_0 v0_1 v0_2) = spec_l10Up_P_L0 f_spec_NodeOf (fun r0 => some [⟨(.slice 3 (.int .i64)), r0⟩]) (fun v0_0 v0_1 v0_2 => L_P_spec_l10Up_0 f_spec_NodeOf n m (S_spec_l10Up_0 v0_0 v0_1 v0_2)) v0_0 v0_1 v0_2 := by kernel_rfl
theorem b_spec_l10Up_0 (n m : Nat) (v0_0 : (List Int)) (v0_1 : Int) (v0_2 : (List Int)) : L_spec_l10Up_0 n (m + 1) (S_spec_l10Up_0 v0_0 v0_1 v0_2) = spec_l10Up_L0 (fun r0 => some [⟨(.slice 3 (.int .i64)), r0⟩]) (fun v0_0 v0_1 v0_2 => L_spec_l10Up_0 n m (S_spec_l10Up_0 v0_0 v0_1 v0_2)) v0_0 v0_1 v0_2 := bP_spec_l10Up_0 N.spec_NodeOf n m v0_0 v0_1 v0_2
theorem aP_spec_l10Up (f_spec_NodeOf : Int → Int → Int) (n : Nat) (a0 : (List Int)) : absF tab sigs (OP_spec_l10Up f_spec_NodeOf) A_spec_l10Up Try.f58 [((.slice 3 (.int .i64)), (.own 0))] n [.val (.slice 3 (.int .i64)) a0] = spec_l10Up_P f_spec_NodeOf (fun r0 => some [⟨(.slice 3 (.int .i64)), r0⟩]) (fun v0_0 v0_1 v0_2 => L_P_spec_l10Up_0 f_spec_NodeOf n n (S_spec_l10Up_0 v0_0 v0_1 v0_2)) a0 := by kernel_rfl
theorem a_spec_l10Up (n : Nat) (a0 : (List Int)) : absF tab sigs O_spec_l10Up A_spec_l10Up Try.f58 [((.slice 3 (.int .i64)), (.own 0))] n [.val (.slice 3 (.int .i64)) a0] = spec_l10Up (fun r0 => some [⟨(.slice 3 (.int .i64)), r0⟩]) (fun v0_0 v0_1 v0_2 => L_spec_l10Up_0 n n (S_spec_l10Up_0 v0_0 v0_1 v0_2)) a0 := aP_spec_l10Up N.spec_NodeOf n a0
theorem said_spec_l10Up (a0 : (List Int)) (g : G.spec_l10Up a0 = true) : Said Try.prog sigs_58 58 [.val (.slice 3 (.int .i64)) a0] [⟨(.slice 3 (.int .i64)), N.spec_l10Up a0⟩] := said_len (T := tab) (A := A_spec_l10Up) tabOk ok_spec_l10Up tabOk.follows Try.func58 (by kernel_rfl) (by kernel_rfl) (fun hl => let ⟨n, hn⟩ := spec_l10Up_ok (ρ := Ret) (fun r0 => some [⟨(.slice 3 (.int .i64)), r0⟩]) a0 hl.1 g; ⟨n, (a_spec_l10Up n a0).trans (hn n (Nat.le_refl n) (fun  m v0_0 v0_1 v0_2 => L_spec_l10Up_0 n  m (S_spec_l10Up_0 v0_0 v0_1 v0_2)) (fun  m v0_0 v0_1 v0_2 => b_spec_l10Up_0 n  m v0_0 v0_1 v0_2))⟩)
/-! spec.TopOf -/
abbrev G.spec_TopOf (l : List Int) : Bool := decide (l.length ≤ 1048576)
abbrev N.spec_TopOf (l : List Int) : Int := topOf l
def spec_TopOf_L0 {ρ : Type} (k : Int → Option ρ) (L0 : (List Int) → Option ρ) (v0_0 : (List Int)) : Option ρ := (cond (decide ((List.length v0_0 : Int) > (1 : Int))) (cond (G.spec_l10Up v0_0) (L0 (N.spec_l10Up v0_0)) none) (cond (inRange (0 : Int) (List.length v0_0)) (k (List.getD v0_0 0 (0 : Int))) none))
def spec_TopOf {ρ : Type} (k : Int → Option ρ) (L0 : (List Int) → Option ρ) (a0 : (List Int)) : Option ρ := (cond ((List.length a0 : Int) == (0 : Int)) (k (N.spec_Hash [(229 : Int)])) (L0 a0))
theorem spec_TopOf_ok {ρ : Type} (k : Int → Option ρ) (a0 : (List Int)) (l_a0 : lnL (fun _ => True) a0) (g : G.spec_TopOf a0 = true) : ∃ n0, ∀ n, n0 ≤ n → ∀ (L0 : Nat → (List Int) → Option ρ) (h0 : ∀ ( m : Nat) (v0_0 : (List Int)), L0 (m + 1) v0_0 = spec_TopOf_L0 k (L0 m) v0_0), spec_TopOf k (L0 n) a0 = k (N.spec_TopOf a0) := by
  unfold G.spec_TopOf at g
  have hlen : a0.length ≤ 1048576 := of_decide_eq_true g
  refine ⟨a0.length + 1, fun n hn L0 h0 => ?_⟩
  unfold spec_TopOf
  show _ = k (topOf a0)
  unfold topOf
  by_cases h : a0.length = 0
  · simp [h]
  · have e1 : ((a0.length : Int) == 0) = false := by simpa using h
    rw [e1, decide_eq_false h]
    refine raw_meas (L := fun m s => L0 m s) (R := fun s c => spec_TopOf_L0 k c s) (fun m s => h0 m s) (fun s => 0 < s.length ∧ s.length ≤ 1048576) (fun s => s.length) (fun s => k (topN s.length s)) (fun s c hI hc => ?_) n a0 ⟨by omega, hlen⟩ (by omega)
    unfold spec_TopOf_L0
    by_cases h1 : 1 < s.length
    · have e2 : decide ((s.length : Int) > 1) = true := by simp; omega
      have hu := up_len s
      have e3 : decide (s.length ≤ 1048576) = true := by simpa using hI.2
      have := hc (up s) ⟨by omega, by omega⟩ (by omega)
      simp only [e2, e3, cond_true, this]
      congr 1
      obtain ⟨q, hq⟩ : ∃ q, s.length = q + 1 := ⟨s.length - 1, by omega⟩
      rw [hq]
      show _ = cond (decide (1 < s.length)) (topN q (up s)) _
      rw [decide_eq_true h1]
      exact topN_more _ _ _ (by omega) (by omega)
    · have e2 : decide ((s.length : Int) > 1) = false := by simp; omega
      have e3 : inRange 0 s.length = true := by unfold inRange; simp; omega
      have e4 : s.length = 1 := by omega
      rw [e4] at e3
      simp [e2, e3, e4, topN]
def OP_spec_TopOf (f_spec_Hash : (List Int) → Int) (f_spec_l10Up : (List Int) → (List Int)) (g_spec_l10Up : (List Int) → Bool) : Orac := (orcX 58 [.val (.slice 3 (.int .i64))] (fun d => g_spec_l10Up d.1) (fun d => [⟨(.slice 3 (.int .i64)), f_spec_l10Up d.1⟩]) (orcX 38 [.val (.slice 3 (.int .i64))] (fun d => true) (fun d => [⟨(.int .i64), f_spec_Hash d.1⟩]) nilO))
def O_spec_TopOf : Orac := OP_spec_TopOf N.spec_Hash N.spec_l10Up G.spec_l10Up
def spec_TopOf_P_L0 {ρ : Type} (f_spec_Hash : (List Int) → Int) (f_spec_l10Up : (List Int) → (List Int)) (g_spec_l10Up : (List Int) → Bool) (k : Int → Option ρ) (L0 : (List Int) → Option ρ) (v0_0 : (List Int)) : Option ρ := (cond (decide ((List.length v0_0 : Int) > (1 : Int))) (cond (g_spec_l10Up v0_0) (L0 (f_spec_l10Up v0_0)) none) (cond (inRange (0 : Int) (List.length v0_0)) (k (List.getD v0_0 0 (0 : Int))) none))
def spec_TopOf_P {ρ : Type} (f_spec_Hash : (List Int) → Int) (f_spec_l10Up : (List Int) → (List Int)) (g_spec_l10Up : (List Int) → Bool) (k : Int → Option ρ) (L0 : (List Int) → Option ρ) (a0 : (List Int)) : Option ρ := (cond ((List.length a0 : Int) == (0 : Int)) (k (f_spec_Hash [(229 : Int)])) (L0 a0))
theorem ok_spec_TopOf : OracOk Try.prog sigs O_spec_TopOf := (orcX_ok rfl (fun d g => said_spec_l10Up d.1 g) (orcX_ok rfl (fun d g => said_spec_Hash d.1) nilO_ok))
def A_spec_TopOf : Ann := fun b => cond (Nat.beq b 0) ⟨[(3, false)], []⟩ (⟨[], []⟩)
def S_spec_TopOf_0 (v0_0 : (List Int)) : St := [(kT 3, some (.tv (.v (.slice 3 (.int .i64)) v0_0 .no)))]
noncomputable def L_P_spec_TopOf_0 (f_spec_Hash : (List Int) → Int) (f_spec_l10Up : (List Int) → (List Int)) (g_spec_l10Up : (List Int) → Bool) (n m : Nat) : St → Option Ret := loopOf tab sigs (OP_spec_TopOf f_spec_Hash f_spec_l10Up g_spec_l10Up) A_spec_TopOf Try.f42 [((.int .i64), .no)] n (fun _ => 0) 0 m
noncomputable def L_spec_TopOf_0 (n m : Nat) : St → Option Ret := L_P_spec_TopOf_0 N.spec_Hash N.spec_l10Up G.spec_l10Up n m
theorem bP_spec_TopOf_0 (f_spec_Hash : (List Int) → Int) (f_spec_l10Up : (List Int) → (List Int)) (g_spec_l10Up : (List Int) → Bool) (n m : Nat) (v0_0 : (List Int)) : L_P_spec_TopOf_0 f_spec_Hash f_spec_l10Up g_spec_l10Up n (m + 1) (S_spec_TopOf_0 v0_0) = spec_TopOf_P_L0 f_spec_Hash f_spec_l10Up g_spec_l10Up (fun r0 => some [⟨(.int .i64), r0⟩]) (fun v0_0 => L_P_spec_TopOf_0 f_spec_Hash f_spec_l10Up g_spec_l10Up n m (S_spec_TopOf_0 v0_0)) v0_0 := by kernel_rfl
theorem b_spec_TopOf_0 (n m : Nat) (v0_0 : (List Int)) : L_spec_TopOf_0 n (m + 1) (S_spec_TopOf_0 v0_0) = spec_TopOf_L0 (fun r0 => some [⟨(.int .i64), r0⟩]) (fun v0_0 => L_spec_TopOf_0 n m (S_spec_TopOf_0 v0_0)) v0_0 := bP_spec_TopOf_0 N.spec_Hash N.spec_l10Up G.spec_l10Up n m v0_0
theorem aP_spec_TopOf (f_spec_Hash : (List Int) → Int) (f_spec_l10Up : (List Int) → (List Int)) (g_spec_l10Up : (List Int) → Bool) (n : Nat) (a0 : (List Int)) : absF tab sigs (OP_spec_TopOf f_spec_Hash f_spec_l10Up g_spec_l10Up) A_spec_TopOf Try.f42 [((.int .i64), .no)] n [.val (.slice 3 (.int .i64)) a0] = spec_TopOf_P f_spec_Hash f_spec_l10Up g_spec_l10Up (fun r0 => some [⟨(.int .i64), r0⟩]) (fun v0_0 => L_P_spec_TopOf_0 f_spec_Hash f_spec_l10Up g_spec_l10Up n n (S_spec_TopOf_0 v0_0)) a0 := by kernel_rfl
theorem a_spec_TopOf (n : Nat) (a0 : (List Int)) : absF tab sigs O_spec_TopOf A_spec_TopOf Try.f42 [((.int .i64), .no)] n [.val (.slice 3 (.int .i64)) a0] = spec_TopOf (fun r0 => some [⟨(.int .i64), r0⟩]) (fun v0_0 => L_spec_TopOf_0 n n (S_spec_TopOf_0 v0_0)) a0 := aP_spec_TopOf N.spec_Hash N.spec_l10Up G.spec_l10Up n a0
theorem said_spec_TopOf (a0 : (List Int)) (g : G.spec_TopOf a0 = true) : Said Try.prog sigs_42 42 [.val (.slice 3 (.int .i64)) a0] [⟨(.int .i64), N.spec_TopOf a0⟩] := said_len (T := tab) (A := A_spec_TopOf) tabOk ok_spec_TopOf tabOk.follows Try.func42 (by kernel_rfl) (by kernel_rfl) (fun hl => let ⟨n, hn⟩ := spec_TopOf_ok (ρ := Ret) (fun r0 => some [⟨(.int .i64), r0⟩]) a0 hl.1 g; ⟨n, (a_spec_TopOf n a0).trans (hn n (Nat.le_refl n) (fun  m v0_0 => L_spec_TopOf_0 n  m (S_spec_TopOf_0 v0_0)) (fun  m v0_0 => b_spec_TopOf_0 n  m v0_0))⟩)
/-! spec.l10Root -/
abbrev N.spec_l10Root (n top : Int) : Int := rootFrom n top
def spec_l10Root {ρ : Type} (k : Int → Option ρ) (a0 : Int) (a1 : Int) : Option ρ := (k (N.spec_Hash [(231 : Int), a0, a1]))
theorem spec_l10Root_ok {ρ : Type} (k : Int → Option ρ) (a0 : Int) (a1 : Int) : spec_l10Root k  a0 a1 = k (N.spec_l10Root a0 a1) := by
  rfl
def OP_spec_l10Root (f_spec_Hash : (List Int) → Int) : Orac := (orcX 38 [.val (.slice 3 (.int .i64))] (fun d => true) (fun d => [⟨(.int .i64), f_spec_Hash d.1⟩]) nilO)
def O_spec_l10Root : Orac := OP_spec_l10Root N.spec_Hash
def spec_l10Root_P {ρ : Type} (f_spec_Hash : (List Int) → Int) (k : Int → Option ρ) (a0 : Int) (a1 : Int) : Option ρ := (k (f_spec_Hash [(231 : Int), a0, a1]))
theorem ok_spec_l10Root : OracOk Try.prog sigs O_spec_l10Root := (orcX_ok rfl (fun d g => said_spec_Hash d.1) nilO_ok)
def A_spec_l10Root : Ann := fun b => ⟨[], []⟩
theorem aP_spec_l10Root (f_spec_Hash : (List Int) → Int) (n : Nat) (a0 : Int) (a1 : Int) : absF tab sigs (OP_spec_l10Root f_spec_Hash) A_spec_l10Root Try.f41 [((.int .i64), .no)] n [.val (.int .i64) a0, .val (.int .i64) a1] = spec_l10Root_P f_spec_Hash (fun r0 => some [⟨(.int .i64), r0⟩])  a0 a1 := by kernel_rfl
theorem a_spec_l10Root (n : Nat) (a0 : Int) (a1 : Int) : absF tab sigs O_spec_l10Root A_spec_l10Root Try.f41 [((.int .i64), .no)] n [.val (.int .i64) a0, .val (.int .i64) a1] = spec_l10Root (fun r0 => some [⟨(.int .i64), r0⟩])  a0 a1 := aP_spec_l10Root N.spec_Hash n a0 a1
theorem said_spec_l10Root (a0 : Int) (a1 : Int) : Said Try.prog sigs_41 41 [.val (.int .i64) a0, .val (.int .i64) a1] [⟨(.int .i64), N.spec_l10Root a0 a1⟩] := said_len (T := tab) (A := A_spec_l10Root) tabOk ok_spec_l10Root tabOk.follows Try.func41 (by kernel_rfl) (by kernel_rfl) (fun hl => ⟨0, (a_spec_l10Root 0 a0 a1).trans (spec_l10Root_ok (ρ := Ret) (fun r0 => some [⟨(.int .i64), r0⟩]) a0 a1)⟩)
/-! spec.RootOf -/
abbrev G.spec_RootOf (l : List TEntry) : Bool := decide (wEs l ≤ 1048576)
abbrev N.spec_RootOf (l : List TEntry) : Int := rootOf l
def spec_RootOf {ρ : Type} (k : Int → Option ρ) (a0 : (List TEntry)) : Option ρ := (cond (G.spec_LeavesOf a0) (cond (G.spec_TopOf (N.spec_LeavesOf a0)) (k (N.spec_l10Root (List.length a0 : Int) (N.spec_TopOf (N.spec_LeavesOf a0)))) none) none)
theorem spec_RootOf_ok {ρ : Type} (k : Int → Option ρ) (a0 : (List TEntry)) (l_a0 : lnL (fun y => (True ∧ (True ∧ (True ∧ lnL (fun _ => True) y.2.2.2)))) a0) (g : G.spec_RootOf a0 = true) : spec_RootOf k  a0 = k (N.spec_RootOf a0) := by
  unfold G.spec_RootOf at g
  have hw : wEs a0 ≤ 1048576 := of_decide_eq_true g
  have hl : decide ((a0.map leafOf).length ≤ 1048576) = true := by unfold wEs at hw; simp; omega
  show cond (decide (wEs a0 ≤ 1048576)) (cond (decide ((a0.map leafOf).length ≤ 1048576)) _ none) none = _
  rw [g, hl]
  rfl
def OP_spec_RootOf (f_spec_LeavesOf : (List TEntry) → (List Int)) (g_spec_LeavesOf : (List TEntry) → Bool) (f_spec_TopOf : (List Int) → Int) (g_spec_TopOf : (List Int) → Bool) (f_spec_l10Root : Int → Int → Int) : Orac := (orcX 41 [.val (.int .i64), .val (.int .i64)] (fun d => true) (fun d => [⟨(.int .i64), f_spec_l10Root d.1 d.2.1⟩]) (orcX 42 [.val (.slice 3 (.int .i64))] (fun d => g_spec_TopOf d.1) (fun d => [⟨(.int .i64), f_spec_TopOf d.1⟩]) (orcX 21 [.val (.slice 28 (.pair .str (.pair (.int .i64) (.pair (.int .i64) (.slice 9 .str)))))] (fun d => g_spec_LeavesOf d.1) (fun d => [⟨(.slice 3 (.int .i64)), f_spec_LeavesOf d.1⟩]) nilO)))
def O_spec_RootOf : Orac := OP_spec_RootOf N.spec_LeavesOf G.spec_LeavesOf N.spec_TopOf G.spec_TopOf N.spec_l10Root
def spec_RootOf_P {ρ : Type} (f_spec_LeavesOf : (List TEntry) → (List Int)) (g_spec_LeavesOf : (List TEntry) → Bool) (f_spec_TopOf : (List Int) → Int) (g_spec_TopOf : (List Int) → Bool) (f_spec_l10Root : Int → Int → Int) (k : Int → Option ρ) (a0 : (List TEntry)) : Option ρ := (cond (g_spec_LeavesOf a0) (cond (g_spec_TopOf (f_spec_LeavesOf a0)) (k (f_spec_l10Root (List.length a0 : Int) (f_spec_TopOf (f_spec_LeavesOf a0)))) none) none)
theorem ok_spec_RootOf : OracOk Try.prog sigs O_spec_RootOf := (orcX_ok rfl (fun d g => said_spec_l10Root d.1 d.2.1) (orcX_ok rfl (fun d g => said_spec_TopOf d.1 g) (orcX_ok rfl (fun d g => said_spec_LeavesOf d.1 g) nilO_ok)))
def A_spec_RootOf : Ann := fun b => ⟨[], []⟩
theorem aP_spec_RootOf (f_spec_LeavesOf : (List TEntry) → (List Int)) (g_spec_LeavesOf : (List TEntry) → Bool) (f_spec_TopOf : (List Int) → Int) (g_spec_TopOf : (List Int) → Bool) (f_spec_l10Root : Int → Int → Int) (n : Nat) (a0 : (List TEntry)) : absF tab sigs (OP_spec_RootOf f_spec_LeavesOf g_spec_LeavesOf f_spec_TopOf g_spec_TopOf f_spec_l10Root) A_spec_RootOf Try.f26 [((.int .i64), .no)] n [.val (.slice 28 (.pair .str (.pair (.int .i64) (.pair (.int .i64) (.slice 9 .str))))) a0] = spec_RootOf_P f_spec_LeavesOf g_spec_LeavesOf f_spec_TopOf g_spec_TopOf f_spec_l10Root (fun r0 => some [⟨(.int .i64), r0⟩])  a0 := by kernel_rfl
theorem a_spec_RootOf (n : Nat) (a0 : (List TEntry)) : absF tab sigs O_spec_RootOf A_spec_RootOf Try.f26 [((.int .i64), .no)] n [.val (.slice 28 (.pair .str (.pair (.int .i64) (.pair (.int .i64) (.slice 9 .str))))) a0] = spec_RootOf (fun r0 => some [⟨(.int .i64), r0⟩])  a0 := aP_spec_RootOf N.spec_LeavesOf G.spec_LeavesOf N.spec_TopOf G.spec_TopOf N.spec_l10Root n a0
theorem said_spec_RootOf (a0 : (List TEntry)) (g : G.spec_RootOf a0 = true) : Said Try.prog sigs_26 26 [.val (.slice 28 (.pair .str (.pair (.int .i64) (.pair (.int .i64) (.slice 9 .str))))) a0] [⟨(.int .i64), N.spec_RootOf a0⟩] := said_len (T := tab) (A := A_spec_RootOf) tabOk ok_spec_RootOf tabOk.follows Try.func26 (by kernel_rfl) (by kernel_rfl) (fun hl => ⟨0, (a_spec_RootOf 0 a0).trans (spec_RootOf_ok (ρ := Ret) (fun r0 => some [⟨(.int .i64), r0⟩]) a0 hl.1 g)⟩)
/-! impl.LeavesOf -/
abbrev G.impl_LeavesOf (l : List TEntry) : Bool := decide (wEs l ≤ 1048576)
abbrev N.impl_LeavesOf (l : List TEntry) : List Int := l.map leafOf
def impl_LeavesOf_L0 {ρ : Type} (k : (List Int) → Option ρ) (L0 : (List TEntry) → Int → Int → (List Int) → Option ρ) (v0_0 : (List TEntry)) (v0_1 : Int) (v0_2 : Int) (v0_3 : (List Int)) : Option ρ := (cond (decide (v0_2 < v0_1)) (cond (inRange v0_2 (List.length v0_0)) (cond (G.impl_LeafOf (List.getD v0_0 (Int.toNat v0_2) (ByteArray.empty, ((0 : Int), ((0 : Int), []))))) (cond (fit (List.length v0_3) (List.length [(N.impl_LeafOf (List.getD v0_0 (Int.toNat v0_2) (ByteArray.empty, ((0 : Int), ((0 : Int), [])))))])) (L0 v0_0 v0_1 (IntKind.wrap .i64 (v0_2 + (1 : Int))) (List.append v0_3 [(N.impl_LeafOf (List.getD v0_0 (Int.toNat v0_2) (ByteArray.empty, ((0 : Int), ((0 : Int), [])))))])) none) none) none) (k v0_3))
def impl_LeavesOf {ρ : Type} (k : (List Int) → Option ρ) (L0 : (List TEntry) → Int → Int → (List Int) → Option ρ) (a0 : (List TEntry)) : Option ρ := (L0 a0 (List.length a0 : Int) (0 : Int) [])
theorem impl_LeavesOf_ok {ρ : Type} (k : (List Int) → Option ρ) (a0 : (List TEntry)) (l_a0 : lnL (fun y => (True ∧ (True ∧ (True ∧ lnL (fun _ => True) y.2.2.2)))) a0) (g : G.impl_LeavesOf a0 = true) : ∃ n0, ∀ n, n0 ≤ n → ∀ (L0 : Nat → (List TEntry) → Int → Int → (List Int) → Option ρ) (h0 : ∀ ( m : Nat) (v0_0 : (List TEntry)) (v0_1 : Int) (v0_2 : Int) (v0_3 : (List Int)), L0 (m + 1) v0_0 v0_1 v0_2 v0_3 = impl_LeavesOf_L0 k (L0 m) v0_0 v0_1 v0_2 v0_3), impl_LeavesOf k (L0 n) a0 = k (N.impl_LeavesOf a0) := by
  unfold G.impl_LeavesOf at g
  have hw : wEs a0 ≤ 1048576 := of_decide_eq_true g
  have hl : a0.length ≤ 1048576 := by unfold wEs at hw; omega
  refine ⟨a0.length + 1, fun n hn L0 h0 => ?_⟩
  refine raw_map (a := a0) (ByteArray.empty, (0, (0, []))) leafOf 1048576 (k := k) (L := fun m i out => L0 m a0 (a0.length : Int) i out) (R := fun i out c => impl_LeavesOf_L0 k (fun _ _ i out => c i out) a0 (a0.length : Int) i out) (fun m i s => h0 m a0 (a0.length : Int) i s) (fun j out c hj ho => ?_) (fun out c => ?_) hl hn
  · have hm := wEs_mem (getD_mem (d := (ByteArray.empty, (0, (0, [])))) hj)
    have g2 : decide (wE (a0.getD j (ByteArray.empty, (0, (0, [])))) ≤ 1048576) = true := by simp only [decide_eq_true_eq]; omega
    have e3 : fit out.length 1 = true := fit_of (by omega)
    simp only [impl_LeavesOf_L0, lt_nat, inRange_nat, decide_eq_true hj, cond_true, Int.toNat_natCast, G.impl_LeafOf, g2, List.length_singleton, e3, wrap_succ (j := j) (by unfold big; omega), List.append_eq]
  · simp [impl_LeavesOf_L0]
def OP_impl_LeavesOf (f_impl_LeafOf : TEntry → Int) (g_impl_LeafOf : TEntry → Bool) : Orac := (orcX 19 [.val (.pair .str (.pair (.int .i64) (.pair (.int .i64) (.slice 9 .str))))] (fun d => g_impl_LeafOf d.1) (fun d => [⟨(.int .i64), f_impl_LeafOf d.1⟩]) nilO)
def O_impl_LeavesOf : Orac := OP_impl_LeavesOf N.impl_LeafOf G.impl_LeafOf
def impl_LeavesOf_P_L0 {ρ : Type} (f_impl_LeafOf : TEntry → Int) (g_impl_LeafOf : TEntry → Bool) (k : (List Int) → Option ρ) (L0 : (List TEntry) → Int → Int → (List Int) → Option ρ) (v0_0 : (List TEntry)) (v0_1 : Int) (v0_2 : Int) (v0_3 : (List Int)) : Option ρ := (cond (decide (v0_2 < v0_1)) (cond (inRange v0_2 (List.length v0_0)) (cond (g_impl_LeafOf (List.getD v0_0 (Int.toNat v0_2) (ByteArray.empty, ((0 : Int), ((0 : Int), []))))) (cond (fit (List.length v0_3) (List.length [(f_impl_LeafOf (List.getD v0_0 (Int.toNat v0_2) (ByteArray.empty, ((0 : Int), ((0 : Int), [])))))])) (L0 v0_0 v0_1 (IntKind.wrap .i64 (v0_2 + (1 : Int))) (List.append v0_3 [(f_impl_LeafOf (List.getD v0_0 (Int.toNat v0_2) (ByteArray.empty, ((0 : Int), ((0 : Int), [])))))])) none) none) none) (k v0_3))
def impl_LeavesOf_P {ρ : Type} (f_impl_LeafOf : TEntry → Int) (g_impl_LeafOf : TEntry → Bool) (k : (List Int) → Option ρ) (L0 : (List TEntry) → Int → Int → (List Int) → Option ρ) (a0 : (List TEntry)) : Option ρ := (L0 a0 (List.length a0 : Int) (0 : Int) [])
theorem ok_impl_LeavesOf : OracOk Try.prog sigs O_impl_LeavesOf := (orcX_ok rfl (fun d g => said_impl_LeafOf d.1 g) nilO_ok)
def A_impl_LeavesOf : Ann := fun b => cond (Nat.beq b 0) ⟨[(3, true), (7, false), (8, false), (9, false)], []⟩ (⟨[], []⟩)
def S_impl_LeavesOf_0 (v0_0 : (List TEntry)) (v0_1 : Int) (v0_2 : Int) (v0_3 : (List Int)) : St := [(kT 3, some (.tv (.v (.slice 3 (.int .i64)) [] (.own 24)))), (kT 7, some (.tv (.v (.slice 28 (.pair .str (.pair (.int .i64) (.pair (.int .i64) (.slice 9 .str))))) v0_0 .no))), (kT 8, some (.tv (.v (.int .i64) v0_1 .no))), (kT 9, some (.tv (.v (.int .i64) v0_2 .no))), (kR 24, some (.row 3 (.int .i64) v0_3))]
noncomputable def L_P_impl_LeavesOf_0 (f_impl_LeafOf : TEntry → Int) (g_impl_LeafOf : TEntry → Bool) (n m : Nat) : St → Option Ret := loopOf tab sigs (OP_impl_LeavesOf f_impl_LeafOf g_impl_LeafOf) A_impl_LeavesOf Try.f23 [((.slice 3 (.int .i64)), (.own 0))] n (fun _ => 0) 0 m
noncomputable def L_impl_LeavesOf_0 (n m : Nat) : St → Option Ret := L_P_impl_LeavesOf_0 N.impl_LeafOf G.impl_LeafOf n m
theorem bP_impl_LeavesOf_0 (f_impl_LeafOf : TEntry → Int) (g_impl_LeafOf : TEntry → Bool) (n m : Nat) (v0_0 : (List TEntry)) (v0_1 : Int) (v0_2 : Int) (v0_3 : (List Int)) : L_P_impl_LeavesOf_0 f_impl_LeafOf g_impl_LeafOf n (m + 1) (S_impl_LeavesOf_0 v0_0 v0_1 v0_2 v0_3) = impl_LeavesOf_P_L0 f_impl_LeafOf g_impl_LeafOf (fun r0 => some [⟨(.slice 3 (.int .i64)), r0⟩]) (fun v0_0 v0_1 v0_2 v0_3 => L_P_impl_LeavesOf_0 f_impl_LeafOf g_impl_LeafOf n m (S_impl_LeavesOf_0 v0_0 v0_1 v0_2 v0_3)) v0_0 v0_1 v0_2 v0_3 := by kernel_rfl
theorem b_impl_LeavesOf_0 (n m : Nat) (v0_0 : (List TEntry)) (v0_1 : Int) (v0_2 : Int) (v0_3 : (List Int)) : L_impl_LeavesOf_0 n (m + 1) (S_impl_LeavesOf_0 v0_0 v0_1 v0_2 v0_3) = impl_LeavesOf_L0 (fun r0 => some [⟨(.slice 3 (.int .i64)), r0⟩]) (fun v0_0 v0_1 v0_2 v0_3 => L_impl_LeavesOf_0 n m (S_impl_LeavesOf_0 v0_0 v0_1 v0_2 v0_3)) v0_0 v0_1 v0_2 v0_3 := bP_impl_LeavesOf_0 N.impl_LeafOf G.impl_LeafOf n m v0_0 v0_1 v0_2 v0_3
theorem aP_impl_LeavesOf (f_impl_LeafOf : TEntry → Int) (g_impl_LeafOf : TEntry → Bool) (n : Nat) (a0 : (List TEntry)) : absF tab sigs (OP_impl_LeavesOf f_impl_LeafOf g_impl_LeafOf) A_impl_LeavesOf Try.f23 [((.slice 3 (.int .i64)), (.own 0))] n [.val (.slice 28 (.pair .str (.pair (.int .i64) (.pair (.int .i64) (.slice 9 .str))))) a0] = impl_LeavesOf_P f_impl_LeafOf g_impl_LeafOf (fun r0 => some [⟨(.slice 3 (.int .i64)), r0⟩]) (fun v0_0 v0_1 v0_2 v0_3 => L_P_impl_LeavesOf_0 f_impl_LeafOf g_impl_LeafOf n n (S_impl_LeavesOf_0 v0_0 v0_1 v0_2 v0_3)) a0 := by kernel_rfl
theorem a_impl_LeavesOf (n : Nat) (a0 : (List TEntry)) : absF tab sigs O_impl_LeavesOf A_impl_LeavesOf Try.f23 [((.slice 3 (.int .i64)), (.own 0))] n [.val (.slice 28 (.pair .str (.pair (.int .i64) (.pair (.int .i64) (.slice 9 .str))))) a0] = impl_LeavesOf (fun r0 => some [⟨(.slice 3 (.int .i64)), r0⟩]) (fun v0_0 v0_1 v0_2 v0_3 => L_impl_LeavesOf_0 n n (S_impl_LeavesOf_0 v0_0 v0_1 v0_2 v0_3)) a0 := aP_impl_LeavesOf N.impl_LeafOf G.impl_LeafOf n a0
theorem said_impl_LeavesOf (a0 : (List TEntry)) (g : G.impl_LeavesOf a0 = true) : Said Try.prog sigs_23 23 [.val (.slice 28 (.pair .str (.pair (.int .i64) (.pair (.int .i64) (.slice 9 .str))))) a0] [⟨(.slice 3 (.int .i64)), N.impl_LeavesOf a0⟩] := said_len (T := tab) (A := A_impl_LeavesOf) tabOk ok_impl_LeavesOf tabOk.follows Try.func23 (by kernel_rfl) (by kernel_rfl) (fun hl => let ⟨n, hn⟩ := impl_LeavesOf_ok (ρ := Ret) (fun r0 => some [⟨(.slice 3 (.int .i64)), r0⟩]) a0 hl.1 g; ⟨n, (a_impl_LeavesOf n a0).trans (hn n (Nat.le_refl n) (fun  m v0_0 v0_1 v0_2 v0_3 => L_impl_LeavesOf_0 n  m (S_impl_LeavesOf_0 v0_0 v0_1 v0_2 v0_3)) (fun  m v0_0 v0_1 v0_2 v0_3 => b_impl_LeavesOf_0 n  m v0_0 v0_1 v0_2 v0_3))⟩)
/-! impl.hash -/
abbrev N.impl_hash (l : List Int) : Int := hash l
def impl_hash {ρ : Type} (k : Int → Option ρ) (a0 : (List Int)) : Option ρ := (k (N.impl_Hash a0))
theorem impl_hash_ok {ρ : Type} (k : Int → Option ρ) (a0 : (List Int)) (l_a0 : lnL (fun _ => True) a0) : impl_hash k  a0 = k (N.impl_hash a0) := by
  rfl
def OP_impl_hash (f_impl_Hash : (List Int) → Int) : Orac := (orcX 39 [.val (.slice 3 (.int .i64))] (fun d => true) (fun d => [⟨(.int .i64), f_impl_Hash d.1⟩]) nilO)
def O_impl_hash : Orac := OP_impl_hash N.impl_Hash
def impl_hash_P {ρ : Type} (f_impl_Hash : (List Int) → Int) (k : Int → Option ρ) (a0 : (List Int)) : Option ρ := (k (f_impl_Hash a0))
theorem ok_impl_hash : OracOk Try.prog sigs O_impl_hash := (orcX_ok rfl (fun d g => said_impl_Hash d.1) nilO_ok)
def A_impl_hash : Ann := fun b => ⟨[], []⟩
theorem aP_impl_hash (f_impl_Hash : (List Int) → Int) (n : Nat) (a0 : (List Int)) : absF tab sigs (OP_impl_hash f_impl_Hash) A_impl_hash Try.f59 [((.int .i64), .no)] n [.val (.slice 3 (.int .i64)) a0] = impl_hash_P f_impl_Hash (fun r0 => some [⟨(.int .i64), r0⟩])  a0 := by kernel_rfl
theorem a_impl_hash (n : Nat) (a0 : (List Int)) : absF tab sigs O_impl_hash A_impl_hash Try.f59 [((.int .i64), .no)] n [.val (.slice 3 (.int .i64)) a0] = impl_hash (fun r0 => some [⟨(.int .i64), r0⟩])  a0 := aP_impl_hash N.impl_Hash n a0
theorem said_impl_hash (a0 : (List Int)) : Said Try.prog sigs_59 59 [.val (.slice 3 (.int .i64)) a0] [⟨(.int .i64), N.impl_hash a0⟩] := said_len (T := tab) (A := A_impl_hash) tabOk ok_impl_hash tabOk.follows Try.func59 (by kernel_rfl) (by kernel_rfl) (fun hl => ⟨0, (a_impl_hash 0 a0).trans (impl_hash_ok (ρ := Ret) (fun r0 => some [⟨(.int .i64), r0⟩]) a0 hl.1)⟩)
/-! impl.NodeOf -/
abbrev N.impl_NodeOf (a b : Int) : Int := nodeOf a b
def impl_NodeOf {ρ : Type} (k : Int → Option ρ) (a0 : Int) (a1 : Int) : Option ρ := (k (N.impl_hash [(229 : Int), a0, a1]))
theorem impl_NodeOf_ok {ρ : Type} (k : Int → Option ρ) (a0 : Int) (a1 : Int) : impl_NodeOf k  a0 a1 = k (N.impl_NodeOf a0 a1) := by
  rfl
def OP_impl_NodeOf (f_impl_hash : (List Int) → Int) : Orac := (orcX 59 [.val (.slice 3 (.int .i64))] (fun d => true) (fun d => [⟨(.int .i64), f_impl_hash d.1⟩]) nilO)
def O_impl_NodeOf : Orac := OP_impl_NodeOf N.impl_hash
def impl_NodeOf_P {ρ : Type} (f_impl_hash : (List Int) → Int) (k : Int → Option ρ) (a0 : Int) (a1 : Int) : Option ρ := (k (f_impl_hash [(229 : Int), a0, a1]))
theorem ok_impl_NodeOf : OracOk Try.prog sigs O_impl_NodeOf := (orcX_ok rfl (fun d g => said_impl_hash d.1) nilO_ok)
def A_impl_NodeOf : Ann := fun b => ⟨[], []⟩
theorem aP_impl_NodeOf (f_impl_hash : (List Int) → Int) (n : Nat) (a0 : Int) (a1 : Int) : absF tab sigs (OP_impl_NodeOf f_impl_hash) A_impl_NodeOf Try.f65 [((.int .i64), .no)] n [.val (.int .i64) a0, .val (.int .i64) a1] = impl_NodeOf_P f_impl_hash (fun r0 => some [⟨(.int .i64), r0⟩])  a0 a1 := by kernel_rfl
theorem a_impl_NodeOf (n : Nat) (a0 : Int) (a1 : Int) : absF tab sigs O_impl_NodeOf A_impl_NodeOf Try.f65 [((.int .i64), .no)] n [.val (.int .i64) a0, .val (.int .i64) a1] = impl_NodeOf (fun r0 => some [⟨(.int .i64), r0⟩])  a0 a1 := aP_impl_NodeOf N.impl_hash n a0 a1
theorem said_impl_NodeOf (a0 : Int) (a1 : Int) : Said Try.prog sigs_65 65 [.val (.int .i64) a0, .val (.int .i64) a1] [⟨(.int .i64), N.impl_NodeOf a0 a1⟩] := said_len (T := tab) (A := A_impl_NodeOf) tabOk ok_impl_NodeOf tabOk.follows Try.func65 (by kernel_rfl) (by kernel_rfl) (fun hl => ⟨0, (a_impl_NodeOf 0 a0 a1).trans (impl_NodeOf_ok (ρ := Ret) (fun r0 => some [⟨(.int .i64), r0⟩]) a0 a1)⟩)
/-! impl.above -/
abbrev G.impl_above (l : List Int) : Bool := decide (l.length ≤ 1048576)
abbrev N.impl_above (l : List Int) : List Int := up l
def impl_above_L0 {ρ : Type} (k : (List Int) → Option ρ) (L0 : (List Int) → Int → (List Int) → Option ρ) (v0_0 : (List Int)) (v0_1 : Int) (v0_2 : (List Int)) : Option ρ := (cond (decide (v0_1 < (List.length v0_0 : Int))) (cond (decide ((IntKind.wrap .i64 (v0_1 + (1 : Int))) < (List.length v0_0 : Int))) (cond (inRange v0_1 (List.length v0_0)) (cond (inRange (IntKind.wrap .i64 (v0_1 + (1 : Int))) (List.length v0_0)) (cond (fit (List.length v0_2) (List.length [(N.impl_NodeOf (List.getD v0_0 (Int.toNat v0_1) (0 : Int)) (List.getD v0_0 (Int.toNat (IntKind.wrap .i64 (v0_1 + (1 : Int)))) (0 : Int)))])) (L0 v0_0 (IntKind.wrap .i64 (v0_1 + (2 : Int))) (List.append v0_2 [(N.impl_NodeOf (List.getD v0_0 (Int.toNat v0_1) (0 : Int)) (List.getD v0_0 (Int.toNat (IntKind.wrap .i64 (v0_1 + (1 : Int)))) (0 : Int)))])) none) none) none) (cond (inRange v0_1 (List.length v0_0)) (cond (fit (List.length v0_2) (List.length [(List.getD v0_0 (Int.toNat v0_1) (0 : Int))])) (L0 v0_0 (IntKind.wrap .i64 (v0_1 + (2 : Int))) (List.append v0_2 [(List.getD v0_0 (Int.toNat v0_1) (0 : Int))])) none) none)) (k v0_2))
def impl_above {ρ : Type} (k : (List Int) → Option ρ) (L0 : (List Int) → Int → (List Int) → Option ρ) (a0 : (List Int)) : Option ρ := (L0 a0 (0 : Int) [])
theorem impl_above_ok {ρ : Type} (k : (List Int) → Option ρ) (a0 : (List Int)) (l_a0 : lnL (fun _ => True) a0) (g : G.impl_above a0 = true) : ∃ n0, ∀ n, n0 ≤ n → ∀ (L0 : Nat → (List Int) → Int → (List Int) → Option ρ) (h0 : ∀ ( m : Nat) (v0_0 : (List Int)) (v0_1 : Int) (v0_2 : (List Int)), L0 (m + 1) v0_0 v0_1 v0_2 = impl_above_L0 k (L0 m) v0_0 v0_1 v0_2), impl_above k (L0 n) a0 = k (N.impl_above a0) := by
  unfold G.impl_above at g
  exact spec_l10Up_ok k a0 l_a0 g
def OP_impl_above (f_impl_NodeOf : Int → Int → Int) : Orac := (orcX 65 [.val (.int .i64), .val (.int .i64)] (fun d => true) (fun d => [⟨(.int .i64), f_impl_NodeOf d.1 d.2.1⟩]) nilO)
def O_impl_above : Orac := OP_impl_above N.impl_NodeOf
def impl_above_P_L0 {ρ : Type} (f_impl_NodeOf : Int → Int → Int) (k : (List Int) → Option ρ) (L0 : (List Int) → Int → (List Int) → Option ρ) (v0_0 : (List Int)) (v0_1 : Int) (v0_2 : (List Int)) : Option ρ := (cond (decide (v0_1 < (List.length v0_0 : Int))) (cond (decide ((IntKind.wrap .i64 (v0_1 + (1 : Int))) < (List.length v0_0 : Int))) (cond (inRange v0_1 (List.length v0_0)) (cond (inRange (IntKind.wrap .i64 (v0_1 + (1 : Int))) (List.length v0_0)) (cond (fit (List.length v0_2) (List.length [(f_impl_NodeOf (List.getD v0_0 (Int.toNat v0_1) (0 : Int)) (List.getD v0_0 (Int.toNat (IntKind.wrap .i64 (v0_1 + (1 : Int)))) (0 : Int)))])) (L0 v0_0 (IntKind.wrap .i64 (v0_1 + (2 : Int))) (List.append v0_2 [(f_impl_NodeOf (List.getD v0_0 (Int.toNat v0_1) (0 : Int)) (List.getD v0_0 (Int.toNat (IntKind.wrap .i64 (v0_1 + (1 : Int)))) (0 : Int)))])) none) none) none) (cond (inRange v0_1 (List.length v0_0)) (cond (fit (List.length v0_2) (List.length [(List.getD v0_0 (Int.toNat v0_1) (0 : Int))])) (L0 v0_0 (IntKind.wrap .i64 (v0_1 + (2 : Int))) (List.append v0_2 [(List.getD v0_0 (Int.toNat v0_1) (0 : Int))])) none) none)) (k v0_2))
def impl_above_P {ρ : Type} (f_impl_NodeOf : Int → Int → Int) (k : (List Int) → Option ρ) (L0 : (List Int) → Int → (List Int) → Option ρ) (a0 : (List Int)) : Option ρ := (L0 a0 (0 : Int) [])
theorem ok_impl_above : OracOk Try.prog sigs O_impl_above := (orcX_ok rfl (fun d g => said_impl_NodeOf d.1 d.2.1) nilO_ok)
def A_impl_above : Ann := fun b => cond (Nat.beq b 0) ⟨[(0, false), (3, true), (4, false)], []⟩ (⟨[], []⟩)
def S_impl_above_0 (v0_0 : (List Int)) (v0_1 : Int) (v0_2 : (List Int)) : St := [(kT 0, some (.tv (.v (.slice 3 (.int .i64)) v0_0 .no))), (kT 3, some (.tv (.v (.slice 3 (.int .i64)) [] (.own 24)))), (kT 4, some (.tv (.v (.int .i64) v0_1 .no))), (kR 24, some (.row 3 (.int .i64) v0_2))]
noncomputable def L_P_impl_above_0 (f_impl_NodeOf : Int → Int → Int) (n m : Nat) : St → Option Ret := loopOf tab sigs (OP_impl_above f_impl_NodeOf) A_impl_above Try.f60 [((.slice 3 (.int .i64)), (.own 0))] n (fun _ => 0) 0 m
noncomputable def L_impl_above_0 (n m : Nat) : St → Option Ret := L_P_impl_above_0 N.impl_NodeOf n m
theorem bP_impl_above_0 (f_impl_NodeOf : Int → Int → Int) (n m : Nat) (v0_0 : (List Int)) (v0_1 : Int) (v0_2 : (List Int)) : L_P_impl_above_0 f_impl_NodeOf n (m + 1) (S_impl_above_0 v0_0 v0_1 v0_2) = impl_above_P_L0 f_impl_NodeOf (fun r0 => some [⟨(.slice 3 (.int .i64)), r0⟩]) (fun v0_0 v0_1 v0_2 => L_P_impl_above_0 f_impl_NodeOf n m (S_impl_above_0 v0_0 v0_1 v0_2)) v0_0 v0_1 v0_2 := by kernel_rfl
theorem b_impl_above_0 (n m : Nat) (v0_0 : (List Int)) (v0_1 : Int) (v0_2 : (List Int)) : L_impl_above_0 n (m + 1) (S_impl_above_0 v0_0 v0_1 v0_2) = impl_above_L0 (fun r0 => some [⟨(.slice 3 (.int .i64)), r0⟩]) (fun v0_0 v0_1 v0_2 => L_impl_above_0 n m (S_impl_above_0 v0_0 v0_1 v0_2)) v0_0 v0_1 v0_2 := bP_impl_above_0 N.impl_NodeOf n m v0_0 v0_1 v0_2
theorem aP_impl_above (f_impl_NodeOf : Int → Int → Int) (n : Nat) (a0 : (List Int)) : absF tab sigs (OP_impl_above f_impl_NodeOf) A_impl_above Try.f60 [((.slice 3 (.int .i64)), (.own 0))] n [.val (.slice 3 (.int .i64)) a0] = impl_above_P f_impl_NodeOf (fun r0 => some [⟨(.slice 3 (.int .i64)), r0⟩]) (fun v0_0 v0_1 v0_2 => L_P_impl_above_0 f_impl_NodeOf n n (S_impl_above_0 v0_0 v0_1 v0_2)) a0 := by kernel_rfl
theorem a_impl_above (n : Nat) (a0 : (List Int)) : absF tab sigs O_impl_above A_impl_above Try.f60 [((.slice 3 (.int .i64)), (.own 0))] n [.val (.slice 3 (.int .i64)) a0] = impl_above (fun r0 => some [⟨(.slice 3 (.int .i64)), r0⟩]) (fun v0_0 v0_1 v0_2 => L_impl_above_0 n n (S_impl_above_0 v0_0 v0_1 v0_2)) a0 := aP_impl_above N.impl_NodeOf n a0
theorem said_impl_above (a0 : (List Int)) (g : G.impl_above a0 = true) : Said Try.prog sigs_60 60 [.val (.slice 3 (.int .i64)) a0] [⟨(.slice 3 (.int .i64)), N.impl_above a0⟩] := said_len (T := tab) (A := A_impl_above) tabOk ok_impl_above tabOk.follows Try.func60 (by kernel_rfl) (by kernel_rfl) (fun hl => let ⟨n, hn⟩ := impl_above_ok (ρ := Ret) (fun r0 => some [⟨(.slice 3 (.int .i64)), r0⟩]) a0 hl.1 g; ⟨n, (a_impl_above n a0).trans (hn n (Nat.le_refl n) (fun  m v0_0 v0_1 v0_2 => L_impl_above_0 n  m (S_impl_above_0 v0_0 v0_1 v0_2)) (fun  m v0_0 v0_1 v0_2 => b_impl_above_0 n  m v0_0 v0_1 v0_2))⟩)
/-! impl.TopOf -/
abbrev G.impl_TopOf (l : List Int) : Bool := decide (l.length ≤ 1048576)
abbrev N.impl_TopOf (l : List Int) : Int := topOf l
def impl_TopOf_L0 {ρ : Type} (k : Int → Option ρ) (L0 : (List Int) → Option ρ) (v0_0 : (List Int)) : Option ρ := (cond (decide ((List.length v0_0 : Int) > (1 : Int))) (cond (G.impl_above v0_0) (L0 (N.impl_above v0_0)) none) (cond (inRange (0 : Int) (List.length v0_0)) (k (List.getD v0_0 0 (0 : Int))) none))
def impl_TopOf {ρ : Type} (k : Int → Option ρ) (L0 : (List Int) → Option ρ) (a0 : (List Int)) : Option ρ := (cond ((List.length a0 : Int) == (0 : Int)) (k (N.impl_hash [(229 : Int)])) (L0 a0))
theorem impl_TopOf_ok {ρ : Type} (k : Int → Option ρ) (a0 : (List Int)) (l_a0 : lnL (fun _ => True) a0) (g : G.impl_TopOf a0 = true) : ∃ n0, ∀ n, n0 ≤ n → ∀ (L0 : Nat → (List Int) → Option ρ) (h0 : ∀ ( m : Nat) (v0_0 : (List Int)), L0 (m + 1) v0_0 = impl_TopOf_L0 k (L0 m) v0_0), impl_TopOf k (L0 n) a0 = k (N.impl_TopOf a0) := by
  unfold G.impl_TopOf at g
  exact spec_TopOf_ok k a0 l_a0 g
def OP_impl_TopOf (f_impl_hash : (List Int) → Int) (f_impl_above : (List Int) → (List Int)) (g_impl_above : (List Int) → Bool) : Orac := (orcX 60 [.val (.slice 3 (.int .i64))] (fun d => g_impl_above d.1) (fun d => [⟨(.slice 3 (.int .i64)), f_impl_above d.1⟩]) (orcX 59 [.val (.slice 3 (.int .i64))] (fun d => true) (fun d => [⟨(.int .i64), f_impl_hash d.1⟩]) nilO))
def O_impl_TopOf : Orac := OP_impl_TopOf N.impl_hash N.impl_above G.impl_above
def impl_TopOf_P_L0 {ρ : Type} (f_impl_hash : (List Int) → Int) (f_impl_above : (List Int) → (List Int)) (g_impl_above : (List Int) → Bool) (k : Int → Option ρ) (L0 : (List Int) → Option ρ) (v0_0 : (List Int)) : Option ρ := (cond (decide ((List.length v0_0 : Int) > (1 : Int))) (cond (g_impl_above v0_0) (L0 (f_impl_above v0_0)) none) (cond (inRange (0 : Int) (List.length v0_0)) (k (List.getD v0_0 0 (0 : Int))) none))
def impl_TopOf_P {ρ : Type} (f_impl_hash : (List Int) → Int) (f_impl_above : (List Int) → (List Int)) (g_impl_above : (List Int) → Bool) (k : Int → Option ρ) (L0 : (List Int) → Option ρ) (a0 : (List Int)) : Option ρ := (cond ((List.length a0 : Int) == (0 : Int)) (k (f_impl_hash [(229 : Int)])) (L0 a0))
theorem ok_impl_TopOf : OracOk Try.prog sigs O_impl_TopOf := (orcX_ok rfl (fun d g => said_impl_above d.1 g) (orcX_ok rfl (fun d g => said_impl_hash d.1) nilO_ok))
def A_impl_TopOf : Ann := fun b => cond (Nat.beq b 0) ⟨[(0, false)], []⟩ (⟨[], []⟩)
def S_impl_TopOf_0 (v0_0 : (List Int)) : St := [(kT 0, some (.tv (.v (.slice 3 (.int .i64)) v0_0 .no)))]
noncomputable def L_P_impl_TopOf_0 (f_impl_hash : (List Int) → Int) (f_impl_above : (List Int) → (List Int)) (g_impl_above : (List Int) → Bool) (n m : Nat) : St → Option Ret := loopOf tab sigs (OP_impl_TopOf f_impl_hash f_impl_above g_impl_above) A_impl_TopOf Try.f44 [((.int .i64), .no)] n (fun _ => 0) 0 m
noncomputable def L_impl_TopOf_0 (n m : Nat) : St → Option Ret := L_P_impl_TopOf_0 N.impl_hash N.impl_above G.impl_above n m
theorem bP_impl_TopOf_0 (f_impl_hash : (List Int) → Int) (f_impl_above : (List Int) → (List Int)) (g_impl_above : (List Int) → Bool) (n m : Nat) (v0_0 : (List Int)) : L_P_impl_TopOf_0 f_impl_hash f_impl_above g_impl_above n (m + 1) (S_impl_TopOf_0 v0_0) = impl_TopOf_P_L0 f_impl_hash f_impl_above g_impl_above (fun r0 => some [⟨(.int .i64), r0⟩]) (fun v0_0 => L_P_impl_TopOf_0 f_impl_hash f_impl_above g_impl_above n m (S_impl_TopOf_0 v0_0)) v0_0 := by kernel_rfl
theorem b_impl_TopOf_0 (n m : Nat) (v0_0 : (List Int)) : L_impl_TopOf_0 n (m + 1) (S_impl_TopOf_0 v0_0) = impl_TopOf_L0 (fun r0 => some [⟨(.int .i64), r0⟩]) (fun v0_0 => L_impl_TopOf_0 n m (S_impl_TopOf_0 v0_0)) v0_0 := bP_impl_TopOf_0 N.impl_hash N.impl_above G.impl_above n m v0_0
theorem aP_impl_TopOf (f_impl_hash : (List Int) → Int) (f_impl_above : (List Int) → (List Int)) (g_impl_above : (List Int) → Bool) (n : Nat) (a0 : (List Int)) : absF tab sigs (OP_impl_TopOf f_impl_hash f_impl_above g_impl_above) A_impl_TopOf Try.f44 [((.int .i64), .no)] n [.val (.slice 3 (.int .i64)) a0] = impl_TopOf_P f_impl_hash f_impl_above g_impl_above (fun r0 => some [⟨(.int .i64), r0⟩]) (fun v0_0 => L_P_impl_TopOf_0 f_impl_hash f_impl_above g_impl_above n n (S_impl_TopOf_0 v0_0)) a0 := by kernel_rfl
theorem a_impl_TopOf (n : Nat) (a0 : (List Int)) : absF tab sigs O_impl_TopOf A_impl_TopOf Try.f44 [((.int .i64), .no)] n [.val (.slice 3 (.int .i64)) a0] = impl_TopOf (fun r0 => some [⟨(.int .i64), r0⟩]) (fun v0_0 => L_impl_TopOf_0 n n (S_impl_TopOf_0 v0_0)) a0 := aP_impl_TopOf N.impl_hash N.impl_above G.impl_above n a0
theorem said_impl_TopOf (a0 : (List Int)) (g : G.impl_TopOf a0 = true) : Said Try.prog sigs_44 44 [.val (.slice 3 (.int .i64)) a0] [⟨(.int .i64), N.impl_TopOf a0⟩] := said_len (T := tab) (A := A_impl_TopOf) tabOk ok_impl_TopOf tabOk.follows Try.func44 (by kernel_rfl) (by kernel_rfl) (fun hl => let ⟨n, hn⟩ := impl_TopOf_ok (ρ := Ret) (fun r0 => some [⟨(.int .i64), r0⟩]) a0 hl.1 g; ⟨n, (a_impl_TopOf n a0).trans (hn n (Nat.le_refl n) (fun  m v0_0 => L_impl_TopOf_0 n  m (S_impl_TopOf_0 v0_0)) (fun  m v0_0 => b_impl_TopOf_0 n  m v0_0))⟩)
/-! impl.rootFrom -/
abbrev N.impl_rootFrom (n top : Int) : Int := rootFrom n top
def impl_rootFrom {ρ : Type} (k : Int → Option ρ) (a0 : Int) (a1 : Int) : Option ρ := (k (N.impl_hash [(231 : Int), a0, a1]))
theorem impl_rootFrom_ok {ρ : Type} (k : Int → Option ρ) (a0 : Int) (a1 : Int) : impl_rootFrom k  a0 a1 = k (N.impl_rootFrom a0 a1) := by
  rfl
def OP_impl_rootFrom (f_impl_hash : (List Int) → Int) : Orac := (orcX 59 [.val (.slice 3 (.int .i64))] (fun d => true) (fun d => [⟨(.int .i64), f_impl_hash d.1⟩]) nilO)
def O_impl_rootFrom : Orac := OP_impl_rootFrom N.impl_hash
def impl_rootFrom_P {ρ : Type} (f_impl_hash : (List Int) → Int) (k : Int → Option ρ) (a0 : Int) (a1 : Int) : Option ρ := (k (f_impl_hash [(231 : Int), a0, a1]))
theorem ok_impl_rootFrom : OracOk Try.prog sigs O_impl_rootFrom := (orcX_ok rfl (fun d g => said_impl_hash d.1) nilO_ok)
def A_impl_rootFrom : Ann := fun b => ⟨[], []⟩
theorem aP_impl_rootFrom (f_impl_hash : (List Int) → Int) (n : Nat) (a0 : Int) (a1 : Int) : absF tab sigs (OP_impl_rootFrom f_impl_hash) A_impl_rootFrom Try.f43 [((.int .i64), .no)] n [.val (.int .i64) a0, .val (.int .i64) a1] = impl_rootFrom_P f_impl_hash (fun r0 => some [⟨(.int .i64), r0⟩])  a0 a1 := by kernel_rfl
theorem a_impl_rootFrom (n : Nat) (a0 : Int) (a1 : Int) : absF tab sigs O_impl_rootFrom A_impl_rootFrom Try.f43 [((.int .i64), .no)] n [.val (.int .i64) a0, .val (.int .i64) a1] = impl_rootFrom (fun r0 => some [⟨(.int .i64), r0⟩])  a0 a1 := aP_impl_rootFrom N.impl_hash n a0 a1
theorem said_impl_rootFrom (a0 : Int) (a1 : Int) : Said Try.prog sigs_43 43 [.val (.int .i64) a0, .val (.int .i64) a1] [⟨(.int .i64), N.impl_rootFrom a0 a1⟩] := said_len (T := tab) (A := A_impl_rootFrom) tabOk ok_impl_rootFrom tabOk.follows Try.func43 (by kernel_rfl) (by kernel_rfl) (fun hl => ⟨0, (a_impl_rootFrom 0 a0 a1).trans (impl_rootFrom_ok (ρ := Ret) (fun r0 => some [⟨(.int .i64), r0⟩]) a0 a1)⟩)
/-! impl.RootOf -/
abbrev G.impl_RootOf (l : List TEntry) : Bool := decide (wEs l ≤ 1048576)
abbrev N.impl_RootOf (l : List TEntry) : Int := rootOf l
def impl_RootOf {ρ : Type} (k : Int → Option ρ) (a0 : (List TEntry)) : Option ρ := (cond (G.impl_LeavesOf a0) (cond (G.impl_TopOf (N.impl_LeavesOf a0)) (k (N.impl_rootFrom (List.length a0 : Int) (N.impl_TopOf (N.impl_LeavesOf a0)))) none) none)
theorem impl_RootOf_ok {ρ : Type} (k : Int → Option ρ) (a0 : (List TEntry)) (l_a0 : lnL (fun y => (True ∧ (True ∧ (True ∧ lnL (fun _ => True) y.2.2.2)))) a0) (g : G.impl_RootOf a0 = true) : impl_RootOf k  a0 = k (N.impl_RootOf a0) := by
  unfold G.impl_RootOf at g
  have hw : wEs a0 ≤ 1048576 := of_decide_eq_true g
  have hl : decide ((a0.map leafOf).length ≤ 1048576) = true := by unfold wEs at hw; simp; omega
  show cond (decide (wEs a0 ≤ 1048576)) (cond (decide ((a0.map leafOf).length ≤ 1048576)) _ none) none = _
  rw [g, hl]
  rfl
def OP_impl_RootOf (f_impl_LeavesOf : (List TEntry) → (List Int)) (g_impl_LeavesOf : (List TEntry) → Bool) (f_impl_TopOf : (List Int) → Int) (g_impl_TopOf : (List Int) → Bool) (f_impl_rootFrom : Int → Int → Int) : Orac := (orcX 43 [.val (.int .i64), .val (.int .i64)] (fun d => true) (fun d => [⟨(.int .i64), f_impl_rootFrom d.1 d.2.1⟩]) (orcX 44 [.val (.slice 3 (.int .i64))] (fun d => g_impl_TopOf d.1) (fun d => [⟨(.int .i64), f_impl_TopOf d.1⟩]) (orcX 23 [.val (.slice 28 (.pair .str (.pair (.int .i64) (.pair (.int .i64) (.slice 9 .str)))))] (fun d => g_impl_LeavesOf d.1) (fun d => [⟨(.slice 3 (.int .i64)), f_impl_LeavesOf d.1⟩]) nilO)))
def O_impl_RootOf : Orac := OP_impl_RootOf N.impl_LeavesOf G.impl_LeavesOf N.impl_TopOf G.impl_TopOf N.impl_rootFrom
def impl_RootOf_P {ρ : Type} (f_impl_LeavesOf : (List TEntry) → (List Int)) (g_impl_LeavesOf : (List TEntry) → Bool) (f_impl_TopOf : (List Int) → Int) (g_impl_TopOf : (List Int) → Bool) (f_impl_rootFrom : Int → Int → Int) (k : Int → Option ρ) (a0 : (List TEntry)) : Option ρ := (cond (g_impl_LeavesOf a0) (cond (g_impl_TopOf (f_impl_LeavesOf a0)) (k (f_impl_rootFrom (List.length a0 : Int) (f_impl_TopOf (f_impl_LeavesOf a0)))) none) none)
theorem ok_impl_RootOf : OracOk Try.prog sigs O_impl_RootOf := (orcX_ok rfl (fun d g => said_impl_rootFrom d.1 d.2.1) (orcX_ok rfl (fun d g => said_impl_TopOf d.1 g) (orcX_ok rfl (fun d g => said_impl_LeavesOf d.1 g) nilO_ok)))
def A_impl_RootOf : Ann := fun b => ⟨[], []⟩
theorem aP_impl_RootOf (f_impl_LeavesOf : (List TEntry) → (List Int)) (g_impl_LeavesOf : (List TEntry) → Bool) (f_impl_TopOf : (List Int) → Int) (g_impl_TopOf : (List Int) → Bool) (f_impl_rootFrom : Int → Int → Int) (n : Nat) (a0 : (List TEntry)) : absF tab sigs (OP_impl_RootOf f_impl_LeavesOf g_impl_LeavesOf f_impl_TopOf g_impl_TopOf f_impl_rootFrom) A_impl_RootOf Try.f27 [((.int .i64), .no)] n [.val (.slice 28 (.pair .str (.pair (.int .i64) (.pair (.int .i64) (.slice 9 .str))))) a0] = impl_RootOf_P f_impl_LeavesOf g_impl_LeavesOf f_impl_TopOf g_impl_TopOf f_impl_rootFrom (fun r0 => some [⟨(.int .i64), r0⟩])  a0 := by kernel_rfl
theorem a_impl_RootOf (n : Nat) (a0 : (List TEntry)) : absF tab sigs O_impl_RootOf A_impl_RootOf Try.f27 [((.int .i64), .no)] n [.val (.slice 28 (.pair .str (.pair (.int .i64) (.pair (.int .i64) (.slice 9 .str))))) a0] = impl_RootOf (fun r0 => some [⟨(.int .i64), r0⟩])  a0 := aP_impl_RootOf N.impl_LeavesOf G.impl_LeavesOf N.impl_TopOf G.impl_TopOf N.impl_rootFrom n a0
theorem said_impl_RootOf (a0 : (List TEntry)) (g : G.impl_RootOf a0 = true) : Said Try.prog sigs_27 27 [.val (.slice 28 (.pair .str (.pair (.int .i64) (.pair (.int .i64) (.slice 9 .str))))) a0] [⟨(.int .i64), N.impl_RootOf a0⟩] := said_len (T := tab) (A := A_impl_RootOf) tabOk ok_impl_RootOf tabOk.follows Try.func27 (by kernel_rfl) (by kernel_rfl) (fun hl => ⟨0, (a_impl_RootOf 0 a0).trans (impl_RootOf_ok (ρ := Ret) (fun r0 => some [⟨(.int .i64), r0⟩]) a0 hl.1 g)⟩)
/-! laws.eqEntryS -/
abbrev N.laws_eqEntryS (a b : List TEntry) : Bool := eqEntries a b
def laws_eqEntryS_L0 {ρ : Type} (k : Bool → Option ρ) (L0 : (List TEntry) → (List TEntry) → Int → Option ρ) (v0_0 : (List TEntry)) (v0_1 : (List TEntry)) (v0_2 : Int) : Option ρ := (cond (decide (v0_2 < (List.length v0_0 : Int))) (cond (inRange v0_2 (List.length v0_0)) (cond (inRange v0_2 (List.length v0_1)) (cond (!(N.laws_eqEntry (List.getD v0_0 (Int.toNat v0_2) (ByteArray.empty, ((0 : Int), ((0 : Int), [])))) (List.getD v0_1 (Int.toNat v0_2) (ByteArray.empty, ((0 : Int), ((0 : Int), [])))))) (k false) (L0 v0_0 v0_1 (IntKind.wrap .i64 (v0_2 + (1 : Int))))) none) none) (k true))
def laws_eqEntryS {ρ : Type} (k : Bool → Option ρ) (L0 : (List TEntry) → (List TEntry) → Int → Option ρ) (a0 : (List TEntry)) (a1 : (List TEntry)) : Option ρ := (cond ((List.length a0 : Int) != (List.length a1 : Int)) (k false) (L0 a0 a1 (0 : Int)))
theorem laws_eqEntryS_ok {ρ : Type} (k : Bool → Option ρ) (a0 : (List TEntry)) (a1 : (List TEntry)) (l_a0 : lnL (fun y => (True ∧ (True ∧ (True ∧ lnL (fun _ => True) y.2.2.2)))) a0) (l_a1 : lnL (fun y => (True ∧ (True ∧ (True ∧ lnL (fun _ => True) y.2.2.2)))) a1) : ∃ n0, ∀ n, n0 ≤ n → ∀ (L0 : Nat → (List TEntry) → (List TEntry) → Int → Option ρ) (h0 : ∀ ( m : Nat) (v0_0 : (List TEntry)) (v0_1 : (List TEntry)) (v0_2 : Int), L0 (m + 1) v0_0 v0_1 v0_2 = laws_eqEntryS_L0 k (L0 m) v0_0 v0_1 v0_2), laws_eqEntryS k (L0 n) a0 a1 = k (N.laws_eqEntryS a0 a1) := by
  exact ⟨a0.length + 1, fun n hn L0 h0 => eq_all (p := eqEntry) (d := (ByteArray.empty, (0, (0, [])))) l_a0.1 (L := fun m i => L0 m a0 a1 i) (fun m i => h0 m a0 a1 i) hn⟩
def OP_laws_eqEntryS (f_laws_eqEntry : TEntry → TEntry → Bool) : Orac := (orcX 14 [.val (.pair .str (.pair (.int .i64) (.pair (.int .i64) (.slice 9 .str)))), .val (.pair .str (.pair (.int .i64) (.pair (.int .i64) (.slice 9 .str))))] (fun d => true) (fun d => [⟨.bool, f_laws_eqEntry d.1 d.2.1⟩]) nilO)
def O_laws_eqEntryS : Orac := OP_laws_eqEntryS N.laws_eqEntry
def laws_eqEntryS_P_L0 {ρ : Type} (f_laws_eqEntry : TEntry → TEntry → Bool) (k : Bool → Option ρ) (L0 : (List TEntry) → (List TEntry) → Int → Option ρ) (v0_0 : (List TEntry)) (v0_1 : (List TEntry)) (v0_2 : Int) : Option ρ := (cond (decide (v0_2 < (List.length v0_0 : Int))) (cond (inRange v0_2 (List.length v0_0)) (cond (inRange v0_2 (List.length v0_1)) (cond (!(f_laws_eqEntry (List.getD v0_0 (Int.toNat v0_2) (ByteArray.empty, ((0 : Int), ((0 : Int), [])))) (List.getD v0_1 (Int.toNat v0_2) (ByteArray.empty, ((0 : Int), ((0 : Int), [])))))) (k false) (L0 v0_0 v0_1 (IntKind.wrap .i64 (v0_2 + (1 : Int))))) none) none) (k true))
def laws_eqEntryS_P {ρ : Type} (f_laws_eqEntry : TEntry → TEntry → Bool) (k : Bool → Option ρ) (L0 : (List TEntry) → (List TEntry) → Int → Option ρ) (a0 : (List TEntry)) (a1 : (List TEntry)) : Option ρ := (cond ((List.length a0 : Int) != (List.length a1 : Int)) (k false) (L0 a0 a1 (0 : Int)))
theorem ok_laws_eqEntryS : OracOk Try.prog sigs O_laws_eqEntryS := (orcX_ok rfl (fun d g => said_laws_eqEntry d.1 d.2.1) nilO_ok)
def A_laws_eqEntryS : Ann := fun b => cond (Nat.beq b 0) ⟨[(0, false), (1, false), (5, false)], []⟩ (⟨[], []⟩)
def S_laws_eqEntryS_0 (v0_0 : (List TEntry)) (v0_1 : (List TEntry)) (v0_2 : Int) : St := [(kT 0, some (.tv (.v (.slice 28 (.pair .str (.pair (.int .i64) (.pair (.int .i64) (.slice 9 .str))))) v0_0 .no))), (kT 1, some (.tv (.v (.slice 28 (.pair .str (.pair (.int .i64) (.pair (.int .i64) (.slice 9 .str))))) v0_1 .no))), (kT 5, some (.tv (.v (.int .i64) v0_2 .no)))]
noncomputable def L_P_laws_eqEntryS_0 (f_laws_eqEntry : TEntry → TEntry → Bool) (n m : Nat) : St → Option Ret := loopOf tab sigs (OP_laws_eqEntryS f_laws_eqEntry) A_laws_eqEntryS Try.f24 [(.bool, .no)] n (fun _ => 0) 0 m
noncomputable def L_laws_eqEntryS_0 (n m : Nat) : St → Option Ret := L_P_laws_eqEntryS_0 N.laws_eqEntry n m
theorem bP_laws_eqEntryS_0 (f_laws_eqEntry : TEntry → TEntry → Bool) (n m : Nat) (v0_0 : (List TEntry)) (v0_1 : (List TEntry)) (v0_2 : Int) : L_P_laws_eqEntryS_0 f_laws_eqEntry n (m + 1) (S_laws_eqEntryS_0 v0_0 v0_1 v0_2) = laws_eqEntryS_P_L0 f_laws_eqEntry (fun r0 => some [⟨.bool, r0⟩]) (fun v0_0 v0_1 v0_2 => L_P_laws_eqEntryS_0 f_laws_eqEntry n m (S_laws_eqEntryS_0 v0_0 v0_1 v0_2)) v0_0 v0_1 v0_2 := by kernel_rfl
theorem b_laws_eqEntryS_0 (n m : Nat) (v0_0 : (List TEntry)) (v0_1 : (List TEntry)) (v0_2 : Int) : L_laws_eqEntryS_0 n (m + 1) (S_laws_eqEntryS_0 v0_0 v0_1 v0_2) = laws_eqEntryS_L0 (fun r0 => some [⟨.bool, r0⟩]) (fun v0_0 v0_1 v0_2 => L_laws_eqEntryS_0 n m (S_laws_eqEntryS_0 v0_0 v0_1 v0_2)) v0_0 v0_1 v0_2 := bP_laws_eqEntryS_0 N.laws_eqEntry n m v0_0 v0_1 v0_2
theorem aP_laws_eqEntryS (f_laws_eqEntry : TEntry → TEntry → Bool) (n : Nat) (a0 : (List TEntry)) (a1 : (List TEntry)) : absF tab sigs (OP_laws_eqEntryS f_laws_eqEntry) A_laws_eqEntryS Try.f24 [(.bool, .no)] n [.val (.slice 28 (.pair .str (.pair (.int .i64) (.pair (.int .i64) (.slice 9 .str))))) a0, .val (.slice 28 (.pair .str (.pair (.int .i64) (.pair (.int .i64) (.slice 9 .str))))) a1] = laws_eqEntryS_P f_laws_eqEntry (fun r0 => some [⟨.bool, r0⟩]) (fun v0_0 v0_1 v0_2 => L_P_laws_eqEntryS_0 f_laws_eqEntry n n (S_laws_eqEntryS_0 v0_0 v0_1 v0_2)) a0 a1 := by kernel_rfl
theorem a_laws_eqEntryS (n : Nat) (a0 : (List TEntry)) (a1 : (List TEntry)) : absF tab sigs O_laws_eqEntryS A_laws_eqEntryS Try.f24 [(.bool, .no)] n [.val (.slice 28 (.pair .str (.pair (.int .i64) (.pair (.int .i64) (.slice 9 .str))))) a0, .val (.slice 28 (.pair .str (.pair (.int .i64) (.pair (.int .i64) (.slice 9 .str))))) a1] = laws_eqEntryS (fun r0 => some [⟨.bool, r0⟩]) (fun v0_0 v0_1 v0_2 => L_laws_eqEntryS_0 n n (S_laws_eqEntryS_0 v0_0 v0_1 v0_2)) a0 a1 := aP_laws_eqEntryS N.laws_eqEntry n a0 a1
theorem said_laws_eqEntryS (a0 : (List TEntry)) (a1 : (List TEntry)) : Said Try.prog sigs_24 24 [.val (.slice 28 (.pair .str (.pair (.int .i64) (.pair (.int .i64) (.slice 9 .str))))) a0, .val (.slice 28 (.pair .str (.pair (.int .i64) (.pair (.int .i64) (.slice 9 .str))))) a1] [⟨.bool, N.laws_eqEntryS a0 a1⟩] := said_len (T := tab) (A := A_laws_eqEntryS) tabOk ok_laws_eqEntryS tabOk.follows Try.func24 (by kernel_rfl) (by kernel_rfl) (fun hl => let ⟨n, hn⟩ := laws_eqEntryS_ok (ρ := Ret) (fun r0 => some [⟨.bool, r0⟩]) a0 a1 hl.1 hl.2.1; ⟨n, (a_laws_eqEntryS n a0 a1).trans (hn n (Nat.le_refl n) (fun  m v0_0 v0_1 v0_2 => L_laws_eqEntryS_0 n  m (S_laws_eqEntryS_0 v0_0 v0_1 v0_2)) (fun  m v0_0 v0_1 v0_2 => b_laws_eqEntryS_0 n  m v0_0 v0_1 v0_2))⟩)
/-! spec.IsLabel -/
abbrev G.spec_IsLabel (s : ByteArray) : Bool := decide (s.size ≤ 1048576)
abbrev N.spec_IsLabel (s : ByteArray) : Bool := isLabel s
def spec_IsLabel_L0 {ρ : Type} (k : Bool → Option ρ) (L0 : ByteArray → Int → Option ρ) (v0_0 : ByteArray) (v0_1 : Int) : Option ρ := (cond (decide (v0_1 < (ByteArray.size v0_0 : Int))) (cond (inRange v0_1 (ByteArray.size v0_0)) (cond (decide ((bt v0_0 v0_1) < (97 : Int))) (cond (inRange v0_1 (ByteArray.size v0_0)) (cond (decide ((bt v0_0 v0_1) < (48 : Int))) (cond (inRange v0_1 (ByteArray.size v0_0)) (cond ((bt v0_0 v0_1) != (45 : Int)) (k false) (L0 v0_0 (IntKind.wrap .i64 (v0_1 + (1 : Int))))) none) (cond (inRange v0_1 (ByteArray.size v0_0)) (cond (decide ((bt v0_0 v0_1) > (57 : Int))) (cond (inRange v0_1 (ByteArray.size v0_0)) (cond ((bt v0_0 v0_1) != (45 : Int)) (k false) (L0 v0_0 (IntKind.wrap .i64 (v0_1 + (1 : Int))))) none) (L0 v0_0 (IntKind.wrap .i64 (v0_1 + (1 : Int))))) none)) none) (cond (inRange v0_1 (ByteArray.size v0_0)) (cond (decide ((bt v0_0 v0_1) > (122 : Int))) (cond (inRange v0_1 (ByteArray.size v0_0)) (cond (decide ((bt v0_0 v0_1) < (48 : Int))) (cond (inRange v0_1 (ByteArray.size v0_0)) (cond ((bt v0_0 v0_1) != (45 : Int)) (k false) (L0 v0_0 (IntKind.wrap .i64 (v0_1 + (1 : Int))))) none) (cond (inRange v0_1 (ByteArray.size v0_0)) (cond (decide ((bt v0_0 v0_1) > (57 : Int))) (cond (inRange v0_1 (ByteArray.size v0_0)) (cond ((bt v0_0 v0_1) != (45 : Int)) (k false) (L0 v0_0 (IntKind.wrap .i64 (v0_1 + (1 : Int))))) none) (L0 v0_0 (IntKind.wrap .i64 (v0_1 + (1 : Int))))) none)) none) (L0 v0_0 (IntKind.wrap .i64 (v0_1 + (1 : Int))))) none)) none) (k true))
def spec_IsLabel {ρ : Type} (k : Bool → Option ρ) (L0 : ByteArray → Int → Option ρ) (a0 : ByteArray) : Option ρ := (cond (!(N.spec_l1In (ByteArray.size a0 : Int) (1 : Int) (8 : Int))) (k false) (cond (inRange (0 : Int) (ByteArray.size a0)) (cond ((bt a0 (0 : Int)) == (45 : Int)) (k false) (cond (inRange (IntKind.wrap .i64 ((ByteArray.size a0 : Int) - (1 : Int))) (ByteArray.size a0)) (cond ((bt a0 (IntKind.wrap .i64 ((ByteArray.size a0 : Int) - (1 : Int)))) == (45 : Int)) (k false) (L0 a0 (0 : Int))) none)) none))
theorem spec_IsLabel_ok {ρ : Type} (k : Bool → Option ρ) (a0 : ByteArray) (g : G.spec_IsLabel a0 = true) : ∃ n0, ∀ n, n0 ≤ n → ∀ (L0 : Nat → ByteArray → Int → Option ρ) (h0 : ∀ ( m : Nat) (v0_0 : ByteArray) (v0_1 : Int), L0 (m + 1) v0_0 v0_1 = spec_IsLabel_L0 k (L0 m) v0_0 v0_1), spec_IsLabel k (L0 n) a0 = k (N.spec_IsLabel a0) := by
  unfold G.spec_IsLabel at g
  have hlen : a0.size ≤ 1048576 := of_decide_eq_true g
  refine ⟨a0.size + 1, fun n hn L0 h0 => ?_⟩
  show spec_IsLabel k (L0 n) a0 = k (isLabel a0)
  unfold spec_IsLabel isLabel
  dsimp only [N.spec_l1In]
  cases hr : inR (a0.size : Int) 1 8 with
  | false => rfl
  | true =>
    have hr2 : 1 ≤ (a0.size : Int) ∧ (a0.size : Int) ≤ 8 := by simpa [inR] using hr
    have e0 : inRange 0 a0.size = true := by unfold inRange; simp; omega
    have e1 : IntKind.wrap .i64 ((a0.size : Int) - 1) = ((a0.size - 1 : Nat) : Int) := by rw [wrap_id (by omega) (by omega)]; omega
    have e2 : inRange ((a0.size - 1 : Nat) : Int) a0.size = true := by rw [inRange_nat]; simp; omega
    have hrun := raw_run0 (σ := Unit) (s := ()) (L := fun m i _ => L0 m a0 i) (R := fun i _ c => spec_IsLabel_L0 k (fun _ i => c i ()) a0 i) (fun m i s => h0 m a0 i) a0.size (fun _ _ => True) (fun j _ => k (charsFrom a0 (a0.size - j) j)) (fun j s c hj _ hc => ?_) (fun s c _ => ?_) hn trivial
    · rw [e1]
      simp only [e0, e2, cond_true, Bool.not_true, cond_false]
      rw [hrun, Nat.sub_zero, label_edges a0 (by omega)]
      cases bt a0 0 == 45 <;> cases bt a0 ((a0.size - 1 : Nat) : Int) == 45 <;> simp
    · obtain ⟨m, hm⟩ : ∃ m, a0.size - j = m + 1 := ⟨a0.size - j - 1, by omega⟩
      have hm2 : a0.size - (j + 1) = m := by omega
      have hc' := hc () trivial
      rw [hm2] at hc'
      rw [hm]
      unfold charsFrom
      simp only [spec_IsLabel_L0, lt_nat, inRange_nat, decide_eq_true hj, cond_true, wrap_succ (j := j) (by unfold big; omega), hc']
      generalize bt a0 (j : Int) = b
      exact char_spec k b _
    · rw [Nat.sub_self]
      simp [spec_IsLabel_L0, charsFrom]
def OP_spec_IsLabel (f_spec_l1In : Int → Int → Int → Bool) : Orac := (orcX 46 [.val (.int .i64), .val (.int .i64), .val (.int .i64)] (fun d => true) (fun d => [⟨.bool, f_spec_l1In d.1 d.2.1 d.2.2.1⟩]) nilO)
def O_spec_IsLabel : Orac := OP_spec_IsLabel N.spec_l1In
def spec_IsLabel_P_L0 {ρ : Type} (f_spec_l1In : Int → Int → Int → Bool) (k : Bool → Option ρ) (L0 : ByteArray → Int → Option ρ) (v0_0 : ByteArray) (v0_1 : Int) : Option ρ := (cond (decide (v0_1 < (ByteArray.size v0_0 : Int))) (cond (inRange v0_1 (ByteArray.size v0_0)) (cond (decide ((bt v0_0 v0_1) < (97 : Int))) (cond (inRange v0_1 (ByteArray.size v0_0)) (cond (decide ((bt v0_0 v0_1) < (48 : Int))) (cond (inRange v0_1 (ByteArray.size v0_0)) (cond ((bt v0_0 v0_1) != (45 : Int)) (k false) (L0 v0_0 (IntKind.wrap .i64 (v0_1 + (1 : Int))))) none) (cond (inRange v0_1 (ByteArray.size v0_0)) (cond (decide ((bt v0_0 v0_1) > (57 : Int))) (cond (inRange v0_1 (ByteArray.size v0_0)) (cond ((bt v0_0 v0_1) != (45 : Int)) (k false) (L0 v0_0 (IntKind.wrap .i64 (v0_1 + (1 : Int))))) none) (L0 v0_0 (IntKind.wrap .i64 (v0_1 + (1 : Int))))) none)) none) (cond (inRange v0_1 (ByteArray.size v0_0)) (cond (decide ((bt v0_0 v0_1) > (122 : Int))) (cond (inRange v0_1 (ByteArray.size v0_0)) (cond (decide ((bt v0_0 v0_1) < (48 : Int))) (cond (inRange v0_1 (ByteArray.size v0_0)) (cond ((bt v0_0 v0_1) != (45 : Int)) (k false) (L0 v0_0 (IntKind.wrap .i64 (v0_1 + (1 : Int))))) none) (cond (inRange v0_1 (ByteArray.size v0_0)) (cond (decide ((bt v0_0 v0_1) > (57 : Int))) (cond (inRange v0_1 (ByteArray.size v0_0)) (cond ((bt v0_0 v0_1) != (45 : Int)) (k false) (L0 v0_0 (IntKind.wrap .i64 (v0_1 + (1 : Int))))) none) (L0 v0_0 (IntKind.wrap .i64 (v0_1 + (1 : Int))))) none)) none) (L0 v0_0 (IntKind.wrap .i64 (v0_1 + (1 : Int))))) none)) none) (k true))
def spec_IsLabel_P {ρ : Type} (f_spec_l1In : Int → Int → Int → Bool) (k : Bool → Option ρ) (L0 : ByteArray → Int → Option ρ) (a0 : ByteArray) : Option ρ := (cond (!(f_spec_l1In (ByteArray.size a0 : Int) (1 : Int) (8 : Int))) (k false) (cond (inRange (0 : Int) (ByteArray.size a0)) (cond ((bt a0 (0 : Int)) == (45 : Int)) (k false) (cond (inRange (IntKind.wrap .i64 ((ByteArray.size a0 : Int) - (1 : Int))) (ByteArray.size a0)) (cond ((bt a0 (IntKind.wrap .i64 ((ByteArray.size a0 : Int) - (1 : Int)))) == (45 : Int)) (k false) (L0 a0 (0 : Int))) none)) none))
theorem ok_spec_IsLabel : OracOk Try.prog sigs O_spec_IsLabel := (orcX_ok rfl (fun d g => said_spec_l1In d.1 d.2.1 d.2.2.1) nilO_ok)
def A_spec_IsLabel : Ann := fun b => cond (Nat.beq b 0) ⟨[(0, false), (3, false)], []⟩ (⟨[], []⟩)
def S_spec_IsLabel_0 (v0_0 : ByteArray) (v0_1 : Int) : St := [(kT 0, some (.tv (.v .str v0_0 .no))), (kT 3, some (.tv (.v (.int .i64) v0_1 .no)))]
noncomputable def L_P_spec_IsLabel_0 (f_spec_l1In : Int → Int → Int → Bool) (n m : Nat) : St → Option Ret := loopOf tab sigs (OP_spec_IsLabel f_spec_l1In) A_spec_IsLabel Try.f45 [(.bool, .no)] n (fun _ => 0) 0 m
noncomputable def L_spec_IsLabel_0 (n m : Nat) : St → Option Ret := L_P_spec_IsLabel_0 N.spec_l1In n m
theorem bP_spec_IsLabel_0 (f_spec_l1In : Int → Int → Int → Bool) (n m : Nat) (v0_0 : ByteArray) (v0_1 : Int) : L_P_spec_IsLabel_0 f_spec_l1In n (m + 1) (S_spec_IsLabel_0 v0_0 v0_1) = spec_IsLabel_P_L0 f_spec_l1In (fun r0 => some [⟨.bool, r0⟩]) (fun v0_0 v0_1 => L_P_spec_IsLabel_0 f_spec_l1In n m (S_spec_IsLabel_0 v0_0 v0_1)) v0_0 v0_1 := by kernel_rfl
theorem b_spec_IsLabel_0 (n m : Nat) (v0_0 : ByteArray) (v0_1 : Int) : L_spec_IsLabel_0 n (m + 1) (S_spec_IsLabel_0 v0_0 v0_1) = spec_IsLabel_L0 (fun r0 => some [⟨.bool, r0⟩]) (fun v0_0 v0_1 => L_spec_IsLabel_0 n m (S_spec_IsLabel_0 v0_0 v0_1)) v0_0 v0_1 := bP_spec_IsLabel_0 N.spec_l1In n m v0_0 v0_1
theorem aP_spec_IsLabel (f_spec_l1In : Int → Int → Int → Bool) (n : Nat) (a0 : ByteArray) : absF tab sigs (OP_spec_IsLabel f_spec_l1In) A_spec_IsLabel Try.f45 [(.bool, .no)] n [.val .str a0] = spec_IsLabel_P f_spec_l1In (fun r0 => some [⟨.bool, r0⟩]) (fun v0_0 v0_1 => L_P_spec_IsLabel_0 f_spec_l1In n n (S_spec_IsLabel_0 v0_0 v0_1)) a0 := by kernel_rfl
theorem a_spec_IsLabel (n : Nat) (a0 : ByteArray) : absF tab sigs O_spec_IsLabel A_spec_IsLabel Try.f45 [(.bool, .no)] n [.val .str a0] = spec_IsLabel (fun r0 => some [⟨.bool, r0⟩]) (fun v0_0 v0_1 => L_spec_IsLabel_0 n n (S_spec_IsLabel_0 v0_0 v0_1)) a0 := aP_spec_IsLabel N.spec_l1In n a0
theorem said_spec_IsLabel (a0 : ByteArray) (g : G.spec_IsLabel a0 = true) : Said Try.prog sigs_45 45 [.val .str a0] [⟨.bool, N.spec_IsLabel a0⟩] := said_len (T := tab) (A := A_spec_IsLabel) tabOk ok_spec_IsLabel tabOk.follows Try.func45 (by kernel_rfl) (by kernel_rfl) (fun hl => let ⟨n, hn⟩ := spec_IsLabel_ok (ρ := Ret) (fun r0 => some [⟨.bool, r0⟩]) a0 g; ⟨n, (a_spec_IsLabel n a0).trans (hn n (Nat.le_refl n) (fun  m v0_0 v0_1 => L_spec_IsLabel_0 n  m (S_spec_IsLabel_0 v0_0 v0_1)) (fun  m v0_0 v0_1 => b_spec_IsLabel_0 n  m v0_0 v0_1))⟩)
/-! spec.IsPath -/
abbrev G.spec_IsPath (p : List ByteArray) : Bool := decide (wP p ≤ 1048576)
abbrev N.spec_IsPath (p : List ByteArray) : Bool := isPath p
def spec_IsPath_L0 {ρ : Type} (k : Bool → Option ρ) (L0 : (List ByteArray) → Int → Option ρ) (v0_0 : (List ByteArray)) (v0_1 : Int) : Option ρ := (cond (decide (v0_1 < (List.length v0_0 : Int))) (cond (inRange v0_1 (List.length v0_0)) (cond (G.spec_IsLabel (List.getD v0_0 (Int.toNat v0_1) ByteArray.empty)) (cond (!(N.spec_IsLabel (List.getD v0_0 (Int.toNat v0_1) ByteArray.empty))) (k false) (L0 v0_0 (IntKind.wrap .i64 (v0_1 + (1 : Int))))) none) none) (k (N.spec_l1In (List.length v0_0 : Int) (1 : Int) (4 : Int))))
def spec_IsPath {ρ : Type} (k : Bool → Option ρ) (L0 : (List ByteArray) → Int → Option ρ) (a0 : (List ByteArray)) : Option ρ := (L0 a0 (0 : Int))
theorem spec_IsPath_ok {ρ : Type} (k : Bool → Option ρ) (a0 : (List ByteArray)) (l_a0 : lnL (fun _ => True) a0) (g : G.spec_IsPath a0 = true) : ∃ n0, ∀ n, n0 ≤ n → ∀ (L0 : Nat → (List ByteArray) → Int → Option ρ) (h0 : ∀ ( m : Nat) (v0_0 : (List ByteArray)) (v0_1 : Int), L0 (m + 1) v0_0 v0_1 = spec_IsPath_L0 k (L0 m) v0_0 v0_1), spec_IsPath k (L0 n) a0 = k (N.spec_IsPath a0) := by
  unfold G.spec_IsPath at g
  have hw : wP a0 ≤ 1048576 := of_decide_eq_true g
  have hl : a0.length ≤ 1048576 := by unfold wP at hw; omega
  refine ⟨a0.length + 1, fun n hn L0 h0 => ?_⟩
  refine (raw_all (a := a0) ByteArray.empty isLabel (σ := Unit) (s := ()) (r := k false) (e := fun _ => k (inR (a0.length : Int) 1 4)) (L := fun m i _ => L0 m a0 i) (R := fun i _ c => spec_IsPath_L0 k (fun _ i => c i ()) a0 i) (fun m i s => h0 m a0 i) (fun j s c hj => ?_) (fun s c => ?_) hn).trans ?_
  · have hm := wP_mem (getD_mem (d := ByteArray.empty) hj)
    have g2 : decide ((a0.getD j ByteArray.empty).size ≤ 1048576) = true := by simp only [decide_eq_true_eq]; omega
    simp only [spec_IsPath_L0, lt_nat, inRange_nat, decide_eq_true hj, cond_true, Int.toNat_natCast, G.spec_IsLabel, N.spec_IsLabel, g2, wrap_succ (j := j) (by unfold big; omega)]
    cases isLabel (a0.getD j ByteArray.empty) <;> rfl
  · simp [spec_IsPath_L0]
  · show _ = k (inR (a0.length : Int) 1 4 && a0.all isLabel)
    cases a0.all isLabel <;> cases inR (a0.length : Int) 1 4 <;> rfl
def OP_spec_IsPath (f_spec_IsLabel : ByteArray → Bool) (g_spec_IsLabel : ByteArray → Bool) (f_spec_l1In : Int → Int → Int → Bool) : Orac := (orcX 46 [.val (.int .i64), .val (.int .i64), .val (.int .i64)] (fun d => true) (fun d => [⟨.bool, f_spec_l1In d.1 d.2.1 d.2.2.1⟩]) (orcX 45 [.val .str] (fun d => g_spec_IsLabel d.1) (fun d => [⟨.bool, f_spec_IsLabel d.1⟩]) nilO))
def O_spec_IsPath : Orac := OP_spec_IsPath N.spec_IsLabel G.spec_IsLabel N.spec_l1In
def spec_IsPath_P_L0 {ρ : Type} (f_spec_IsLabel : ByteArray → Bool) (g_spec_IsLabel : ByteArray → Bool) (f_spec_l1In : Int → Int → Int → Bool) (k : Bool → Option ρ) (L0 : (List ByteArray) → Int → Option ρ) (v0_0 : (List ByteArray)) (v0_1 : Int) : Option ρ := (cond (decide (v0_1 < (List.length v0_0 : Int))) (cond (inRange v0_1 (List.length v0_0)) (cond (g_spec_IsLabel (List.getD v0_0 (Int.toNat v0_1) ByteArray.empty)) (cond (!(f_spec_IsLabel (List.getD v0_0 (Int.toNat v0_1) ByteArray.empty))) (k false) (L0 v0_0 (IntKind.wrap .i64 (v0_1 + (1 : Int))))) none) none) (k (f_spec_l1In (List.length v0_0 : Int) (1 : Int) (4 : Int))))
def spec_IsPath_P {ρ : Type} (f_spec_IsLabel : ByteArray → Bool) (g_spec_IsLabel : ByteArray → Bool) (f_spec_l1In : Int → Int → Int → Bool) (k : Bool → Option ρ) (L0 : (List ByteArray) → Int → Option ρ) (a0 : (List ByteArray)) : Option ρ := (L0 a0 (0 : Int))
theorem ok_spec_IsPath : OracOk Try.prog sigs O_spec_IsPath := (orcX_ok rfl (fun d g => said_spec_l1In d.1 d.2.1 d.2.2.1) (orcX_ok rfl (fun d g => said_spec_IsLabel d.1 g) nilO_ok))
def A_spec_IsPath : Ann := fun b => cond (Nat.beq b 0) ⟨[(0, false), (3, false)], []⟩ (⟨[], []⟩)
def S_spec_IsPath_0 (v0_0 : (List ByteArray)) (v0_1 : Int) : St := [(kT 0, some (.tv (.v (.slice 9 .str) v0_0 .no))), (kT 3, some (.tv (.v (.int .i64) v0_1 .no)))]
noncomputable def L_P_spec_IsPath_0 (f_spec_IsLabel : ByteArray → Bool) (g_spec_IsLabel : ByteArray → Bool) (f_spec_l1In : Int → Int → Int → Bool) (n m : Nat) : St → Option Ret := loopOf tab sigs (OP_spec_IsPath f_spec_IsLabel g_spec_IsLabel f_spec_l1In) A_spec_IsPath Try.f47 [(.bool, .no)] n (fun _ => 0) 0 m
noncomputable def L_spec_IsPath_0 (n m : Nat) : St → Option Ret := L_P_spec_IsPath_0 N.spec_IsLabel G.spec_IsLabel N.spec_l1In n m
theorem bP_spec_IsPath_0 (f_spec_IsLabel : ByteArray → Bool) (g_spec_IsLabel : ByteArray → Bool) (f_spec_l1In : Int → Int → Int → Bool) (n m : Nat) (v0_0 : (List ByteArray)) (v0_1 : Int) : L_P_spec_IsPath_0 f_spec_IsLabel g_spec_IsLabel f_spec_l1In n (m + 1) (S_spec_IsPath_0 v0_0 v0_1) = spec_IsPath_P_L0 f_spec_IsLabel g_spec_IsLabel f_spec_l1In (fun r0 => some [⟨.bool, r0⟩]) (fun v0_0 v0_1 => L_P_spec_IsPath_0 f_spec_IsLabel g_spec_IsLabel f_spec_l1In n m (S_spec_IsPath_0 v0_0 v0_1)) v0_0 v0_1 := by kernel_rfl
theorem b_spec_IsPath_0 (n m : Nat) (v0_0 : (List ByteArray)) (v0_1 : Int) : L_spec_IsPath_0 n (m + 1) (S_spec_IsPath_0 v0_0 v0_1) = spec_IsPath_L0 (fun r0 => some [⟨.bool, r0⟩]) (fun v0_0 v0_1 => L_spec_IsPath_0 n m (S_spec_IsPath_0 v0_0 v0_1)) v0_0 v0_1 := bP_spec_IsPath_0 N.spec_IsLabel G.spec_IsLabel N.spec_l1In n m v0_0 v0_1
theorem aP_spec_IsPath (f_spec_IsLabel : ByteArray → Bool) (g_spec_IsLabel : ByteArray → Bool) (f_spec_l1In : Int → Int → Int → Bool) (n : Nat) (a0 : (List ByteArray)) : absF tab sigs (OP_spec_IsPath f_spec_IsLabel g_spec_IsLabel f_spec_l1In) A_spec_IsPath Try.f47 [(.bool, .no)] n [.val (.slice 9 .str) a0] = spec_IsPath_P f_spec_IsLabel g_spec_IsLabel f_spec_l1In (fun r0 => some [⟨.bool, r0⟩]) (fun v0_0 v0_1 => L_P_spec_IsPath_0 f_spec_IsLabel g_spec_IsLabel f_spec_l1In n n (S_spec_IsPath_0 v0_0 v0_1)) a0 := by kernel_rfl
theorem a_spec_IsPath (n : Nat) (a0 : (List ByteArray)) : absF tab sigs O_spec_IsPath A_spec_IsPath Try.f47 [(.bool, .no)] n [.val (.slice 9 .str) a0] = spec_IsPath (fun r0 => some [⟨.bool, r0⟩]) (fun v0_0 v0_1 => L_spec_IsPath_0 n n (S_spec_IsPath_0 v0_0 v0_1)) a0 := aP_spec_IsPath N.spec_IsLabel G.spec_IsLabel N.spec_l1In n a0
theorem said_spec_IsPath (a0 : (List ByteArray)) (g : G.spec_IsPath a0 = true) : Said Try.prog sigs_47 47 [.val (.slice 9 .str) a0] [⟨.bool, N.spec_IsPath a0⟩] := said_len (T := tab) (A := A_spec_IsPath) tabOk ok_spec_IsPath tabOk.follows Try.func47 (by kernel_rfl) (by kernel_rfl) (fun hl => let ⟨n, hn⟩ := spec_IsPath_ok (ρ := Ret) (fun r0 => some [⟨.bool, r0⟩]) a0 hl.1 g; ⟨n, (a_spec_IsPath n a0).trans (hn n (Nat.le_refl n) (fun  m v0_0 v0_1 => L_spec_IsPath_0 n  m (S_spec_IsPath_0 v0_0 v0_1)) (fun  m v0_0 v0_1 => b_spec_IsPath_0 n  m v0_0 v0_1))⟩)
/-! spec.IsEntry -/
abbrev G.spec_IsEntry (e : TEntry) : Bool := decide (wE e ≤ 1048576)
abbrev N.spec_IsEntry (e : TEntry) : Bool := isEntry e
def spec_IsEntry {ρ : Type} (k : Bool → Option ρ) (a0 : TEntry) : Option ρ := (cond (a0.2.1 == (1 : Int)) (cond (G.spec_IsLabel a0.1) (cond (N.spec_IsLabel a0.1) (cond (N.spec_l1In a0.2.2.1 (0 : Int) (999999 : Int)) (k ((List.length a0.2.2.2 : Int) == (0 : Int))) (k false)) (k false)) none) (cond (a0.2.1 == (2 : Int)) (cond (G.spec_IsLabel a0.1) (cond (N.spec_IsLabel a0.1) (cond (N.spec_l1In a0.2.2.1 (0 : Int) (2147483646 : Int)) (k ((List.length a0.2.2.2 : Int) == (0 : Int))) (k false)) (k false)) none) (cond (a0.2.1 == (3 : Int)) (cond (G.spec_IsLabel a0.1) (cond (N.spec_IsLabel a0.1) (cond (N.spec_l1In a0.2.2.1 (0 : Int) (2147483646 : Int)) (cond (G.spec_IsPath a0.2.2.2) (k (N.spec_IsPath a0.2.2.2)) none) (k false)) (k false)) none) (k false))))
theorem spec_IsEntry_ok {ρ : Type} (k : Bool → Option ρ) (a0 : TEntry) (l_a0 : (True ∧ (True ∧ (True ∧ lnL (fun _ => True) a0.2.2.2)))) (g : G.spec_IsEntry a0 = true) : spec_IsEntry k  a0 = k (N.spec_IsEntry a0) := by
  unfold G.spec_IsEntry at g
  have hw : wE a0 ≤ 1048576 := of_decide_eq_true g
  have g1 : decide (a0.1.size ≤ 1048576) = true := by unfold wE at hw; simp; omega
  have g2 : decide (wP a0.2.2.2 ≤ 1048576) = true := by unfold wE at hw; simp; omega
  simp only [spec_IsEntry, G.spec_IsLabel, N.spec_IsLabel, G.spec_IsPath, N.spec_IsPath, N.spec_l1In, g1, g2, cond_true, isEntry, isDigest]
  by_cases h1 : a0.2.1 = 1
  · have e1 : (a0.2.1 == 1) = true := by simp [h1]
    have e2 : (a0.2.1 == 2) = false := by simp [h1]
    have e3 : (a0.2.1 == 3) = false := by simp [h1]
    simp only [e1, e2, e3]
    cases isLabel a0.1 <;> cases inR a0.2.2.1 0 999999 <;> simp
  by_cases h2 : a0.2.1 = 2
  · have e1 : (a0.2.1 == 1) = false := by simp [h2]
    have e2 : (a0.2.1 == 2) = true := by simp [h2]
    have e3 : (a0.2.1 == 3) = false := by simp [h2]
    simp only [e1, e2, e3]
    cases isLabel a0.1 <;> cases inR a0.2.2.1 0 2147483646 <;> simp
  have e1 : (a0.2.1 == 1) = false := by simp [h1]
  have e2 : (a0.2.1 == 2) = false := by simp [h2]
  simp only [e1, e2]
  cases a0.2.1 == 3 <;> cases isLabel a0.1 <;> cases inR a0.2.2.1 0 2147483646 <;> simp
def OP_spec_IsEntry (f_spec_IsLabel : ByteArray → Bool) (g_spec_IsLabel : ByteArray → Bool) (f_spec_l1In : Int → Int → Int → Bool) (f_spec_IsPath : (List ByteArray) → Bool) (g_spec_IsPath : (List ByteArray) → Bool) : Orac := (orcX 47 [.val (.slice 9 .str)] (fun d => g_spec_IsPath d.1) (fun d => [⟨.bool, f_spec_IsPath d.1⟩]) (orcX 46 [.val (.int .i64), .val (.int .i64), .val (.int .i64)] (fun d => true) (fun d => [⟨.bool, f_spec_l1In d.1 d.2.1 d.2.2.1⟩]) (orcX 45 [.val .str] (fun d => g_spec_IsLabel d.1) (fun d => [⟨.bool, f_spec_IsLabel d.1⟩]) nilO)))
def O_spec_IsEntry : Orac := OP_spec_IsEntry N.spec_IsLabel G.spec_IsLabel N.spec_l1In N.spec_IsPath G.spec_IsPath
def spec_IsEntry_P {ρ : Type} (f_spec_IsLabel : ByteArray → Bool) (g_spec_IsLabel : ByteArray → Bool) (f_spec_l1In : Int → Int → Int → Bool) (f_spec_IsPath : (List ByteArray) → Bool) (g_spec_IsPath : (List ByteArray) → Bool) (k : Bool → Option ρ) (a0 : TEntry) : Option ρ := (cond (a0.2.1 == (1 : Int)) (cond (g_spec_IsLabel a0.1) (cond (f_spec_IsLabel a0.1) (cond (f_spec_l1In a0.2.2.1 (0 : Int) (999999 : Int)) (k ((List.length a0.2.2.2 : Int) == (0 : Int))) (k false)) (k false)) none) (cond (a0.2.1 == (2 : Int)) (cond (g_spec_IsLabel a0.1) (cond (f_spec_IsLabel a0.1) (cond (f_spec_l1In a0.2.2.1 (0 : Int) (2147483646 : Int)) (k ((List.length a0.2.2.2 : Int) == (0 : Int))) (k false)) (k false)) none) (cond (a0.2.1 == (3 : Int)) (cond (g_spec_IsLabel a0.1) (cond (f_spec_IsLabel a0.1) (cond (f_spec_l1In a0.2.2.1 (0 : Int) (2147483646 : Int)) (cond (g_spec_IsPath a0.2.2.2) (k (f_spec_IsPath a0.2.2.2)) none) (k false)) (k false)) none) (k false))))
theorem ok_spec_IsEntry : OracOk Try.prog sigs O_spec_IsEntry := (orcX_ok rfl (fun d g => said_spec_IsPath d.1 g) (orcX_ok rfl (fun d g => said_spec_l1In d.1 d.2.1 d.2.2.1) (orcX_ok rfl (fun d g => said_spec_IsLabel d.1 g) nilO_ok)))
def A_spec_IsEntry : Ann := fun b => ⟨[], []⟩
theorem aP_spec_IsEntry (f_spec_IsLabel : ByteArray → Bool) (g_spec_IsLabel : ByteArray → Bool) (f_spec_l1In : Int → Int → Int → Bool) (f_spec_IsPath : (List ByteArray) → Bool) (g_spec_IsPath : (List ByteArray) → Bool) (n : Nat) (a0 : TEntry) : absF tab sigs (OP_spec_IsEntry f_spec_IsLabel g_spec_IsLabel f_spec_l1In f_spec_IsPath g_spec_IsPath) A_spec_IsEntry Try.f28 [(.bool, .no)] n [.val (.pair .str (.pair (.int .i64) (.pair (.int .i64) (.slice 9 .str)))) a0] = spec_IsEntry_P f_spec_IsLabel g_spec_IsLabel f_spec_l1In f_spec_IsPath g_spec_IsPath (fun r0 => some [⟨.bool, r0⟩])  a0 := by kernel_rfl
theorem a_spec_IsEntry (n : Nat) (a0 : TEntry) : absF tab sigs O_spec_IsEntry A_spec_IsEntry Try.f28 [(.bool, .no)] n [.val (.pair .str (.pair (.int .i64) (.pair (.int .i64) (.slice 9 .str)))) a0] = spec_IsEntry (fun r0 => some [⟨.bool, r0⟩])  a0 := aP_spec_IsEntry N.spec_IsLabel G.spec_IsLabel N.spec_l1In N.spec_IsPath G.spec_IsPath n a0
theorem said_spec_IsEntry (a0 : TEntry) (g : G.spec_IsEntry a0 = true) : Said Try.prog sigs_28 28 [.val (.pair .str (.pair (.int .i64) (.pair (.int .i64) (.slice 9 .str)))) a0] [⟨.bool, N.spec_IsEntry a0⟩] := said_len (T := tab) (A := A_spec_IsEntry) tabOk ok_spec_IsEntry tabOk.follows Try.func28 (by kernel_rfl) (by kernel_rfl) (fun hl => ⟨0, (a_spec_IsEntry 0 a0).trans (spec_IsEntry_ok (ρ := Ret) (fun r0 => some [⟨.bool, r0⟩]) a0 hl.1 g)⟩)
/-! impl.IsLabel -/
abbrev G.impl_IsLabel (s : ByteArray) : Bool := decide (s.size ≤ 1048576)
abbrev N.impl_IsLabel (s : ByteArray) : Bool := isLabel s
def impl_IsLabel_L0 {ρ : Type} (k : Bool → Option ρ) (L0 : ByteArray → Int → Int → Option ρ) (v0_0 : ByteArray) (v0_1 : Int) (v0_2 : Int) : Option ρ := (cond (decide (v0_2 < v0_1)) (cond (inRange v0_2 (ByteArray.size v0_0)) (cond (decide ((bt v0_0 v0_2) ≥ (97 : Int))) (cond (decide ((bt v0_0 v0_2) ≤ (122 : Int))) (L0 v0_0 v0_1 (IntKind.wrap .i64 (v0_2 + (1 : Int)))) (cond (decide ((bt v0_0 v0_2) ≥ (48 : Int))) (cond (decide ((bt v0_0 v0_2) ≤ (57 : Int))) (L0 v0_0 v0_1 (IntKind.wrap .i64 (v0_2 + (1 : Int)))) (cond ((bt v0_0 v0_2) == (45 : Int)) (cond (decide (v0_2 > (0 : Int))) (cond (!(decide (v0_2 < (IntKind.wrap .i64 ((ByteArray.size v0_0 : Int) - (1 : Int)))))) (k false) (L0 v0_0 v0_1 (IntKind.wrap .i64 (v0_2 + (1 : Int))))) (k false)) (k false))) (cond ((bt v0_0 v0_2) == (45 : Int)) (cond (decide (v0_2 > (0 : Int))) (cond (!(decide (v0_2 < (IntKind.wrap .i64 ((ByteArray.size v0_0 : Int) - (1 : Int)))))) (k false) (L0 v0_0 v0_1 (IntKind.wrap .i64 (v0_2 + (1 : Int))))) (k false)) (k false)))) (cond (decide ((bt v0_0 v0_2) ≥ (48 : Int))) (cond (decide ((bt v0_0 v0_2) ≤ (57 : Int))) (L0 v0_0 v0_1 (IntKind.wrap .i64 (v0_2 + (1 : Int)))) (cond ((bt v0_0 v0_2) == (45 : Int)) (cond (decide (v0_2 > (0 : Int))) (cond (!(decide (v0_2 < (IntKind.wrap .i64 ((ByteArray.size v0_0 : Int) - (1 : Int)))))) (k false) (L0 v0_0 v0_1 (IntKind.wrap .i64 (v0_2 + (1 : Int))))) (k false)) (k false))) (cond ((bt v0_0 v0_2) == (45 : Int)) (cond (decide (v0_2 > (0 : Int))) (cond (!(decide (v0_2 < (IntKind.wrap .i64 ((ByteArray.size v0_0 : Int) - (1 : Int)))))) (k false) (L0 v0_0 v0_1 (IntKind.wrap .i64 (v0_2 + (1 : Int))))) (k false)) (k false)))) none) (k (N.impl_InRange (ByteArray.size v0_0 : Int) (1 : Int) (8 : Int))))
def impl_IsLabel {ρ : Type} (k : Bool → Option ρ) (L0 : ByteArray → Int → Int → Option ρ) (a0 : ByteArray) : Option ρ := (L0 a0 (ByteArray.size a0 : Int) (0 : Int))
theorem impl_IsLabel_ok {ρ : Type} (k : Bool → Option ρ) (a0 : ByteArray) (g : G.impl_IsLabel a0 = true) : ∃ n0, ∀ n, n0 ≤ n → ∀ (L0 : Nat → ByteArray → Int → Int → Option ρ) (h0 : ∀ ( m : Nat) (v0_0 : ByteArray) (v0_1 : Int) (v0_2 : Int), L0 (m + 1) v0_0 v0_1 v0_2 = impl_IsLabel_L0 k (L0 m) v0_0 v0_1 v0_2), impl_IsLabel k (L0 n) a0 = k (N.impl_IsLabel a0) := by
  unfold G.impl_IsLabel at g
  have hlen : a0.size ≤ 1048576 := of_decide_eq_true g
  refine ⟨a0.size + 1, fun n hn L0 h0 => ?_⟩
  show L0 n a0 (a0.size : Int) 0 = k (isLabel a0)
  have hrun := raw_run0 (σ := Unit) (s := ()) (L := fun m i _ => L0 m a0 (a0.size : Int) i) (R := fun i _ c => impl_IsLabel_L0 k (fun _ _ i => c i ()) a0 (a0.size : Int) i) (fun m i s => h0 m a0 (a0.size : Int) i) a0.size (fun _ _ => True) (fun j _ => cond (labelBytes a0 (a0.size - j) j) (k (inR (a0.size : Int) 1 8)) (k false)) (fun j s c hj _ hc => ?_) (fun s c _ => ?_) hn trivial
  · refine hrun.trans ?_
    unfold isLabel
    rw [Nat.sub_zero]
    cases labelBytes a0 a0.size 0 <;> cases inR (a0.size : Int) 1 8 <;> rfl
  · obtain ⟨m, hm⟩ : ∃ m, a0.size - j = m + 1 := ⟨a0.size - j - 1, by omega⟩
    have hm2 : a0.size - (j + 1) = m := by omega
    have hc' := hc () trivial
    rw [hm2] at hc'
    have e1 : decide ((j : Int) < IntKind.wrap .i64 ((a0.size : Int) - 1)) = decide (j + 1 < a0.size) := by rw [wrap_id (by omega) (by omega)]; simp only [decide_eq_decide]; omega
    have e2 : decide ((j : Int) > 0) = decide (0 < j) := by simp only [decide_eq_decide]; omega
    rw [hm]
    unfold labelBytes okByte isLetter
    simp only [impl_IsLabel_L0, lt_nat, inRange_nat, decide_eq_true hj, cond_true, wrap_succ (j := j) (by unfold big; omega), hc', e1, e2, ge_iff_le, N.impl_InRange]
    generalize bt a0 (j : Int) = b
    cases decide (97 ≤ b) <;> cases decide (b ≤ 122) <;> cases decide (48 ≤ b) <;> cases decide (b ≤ 57) <;> cases b == 45 <;> cases decide (0 < j) <;> cases decide (j + 1 < a0.size) <;> rfl
  · rw [Nat.sub_self]
    simp [impl_IsLabel_L0, labelBytes]
def OP_impl_IsLabel (f_impl_InRange : Int → Int → Int → Bool) : Orac := (orcX 49 [.val (.int .i64), .val (.int .i64), .val (.int .i64)] (fun d => true) (fun d => [⟨.bool, f_impl_InRange d.1 d.2.1 d.2.2.1⟩]) nilO)
def O_impl_IsLabel : Orac := OP_impl_IsLabel N.impl_InRange
def impl_IsLabel_P_L0 {ρ : Type} (f_impl_InRange : Int → Int → Int → Bool) (k : Bool → Option ρ) (L0 : ByteArray → Int → Int → Option ρ) (v0_0 : ByteArray) (v0_1 : Int) (v0_2 : Int) : Option ρ := (cond (decide (v0_2 < v0_1)) (cond (inRange v0_2 (ByteArray.size v0_0)) (cond (decide ((bt v0_0 v0_2) ≥ (97 : Int))) (cond (decide ((bt v0_0 v0_2) ≤ (122 : Int))) (L0 v0_0 v0_1 (IntKind.wrap .i64 (v0_2 + (1 : Int)))) (cond (decide ((bt v0_0 v0_2) ≥ (48 : Int))) (cond (decide ((bt v0_0 v0_2) ≤ (57 : Int))) (L0 v0_0 v0_1 (IntKind.wrap .i64 (v0_2 + (1 : Int)))) (cond ((bt v0_0 v0_2) == (45 : Int)) (cond (decide (v0_2 > (0 : Int))) (cond (!(decide (v0_2 < (IntKind.wrap .i64 ((ByteArray.size v0_0 : Int) - (1 : Int)))))) (k false) (L0 v0_0 v0_1 (IntKind.wrap .i64 (v0_2 + (1 : Int))))) (k false)) (k false))) (cond ((bt v0_0 v0_2) == (45 : Int)) (cond (decide (v0_2 > (0 : Int))) (cond (!(decide (v0_2 < (IntKind.wrap .i64 ((ByteArray.size v0_0 : Int) - (1 : Int)))))) (k false) (L0 v0_0 v0_1 (IntKind.wrap .i64 (v0_2 + (1 : Int))))) (k false)) (k false)))) (cond (decide ((bt v0_0 v0_2) ≥ (48 : Int))) (cond (decide ((bt v0_0 v0_2) ≤ (57 : Int))) (L0 v0_0 v0_1 (IntKind.wrap .i64 (v0_2 + (1 : Int)))) (cond ((bt v0_0 v0_2) == (45 : Int)) (cond (decide (v0_2 > (0 : Int))) (cond (!(decide (v0_2 < (IntKind.wrap .i64 ((ByteArray.size v0_0 : Int) - (1 : Int)))))) (k false) (L0 v0_0 v0_1 (IntKind.wrap .i64 (v0_2 + (1 : Int))))) (k false)) (k false))) (cond ((bt v0_0 v0_2) == (45 : Int)) (cond (decide (v0_2 > (0 : Int))) (cond (!(decide (v0_2 < (IntKind.wrap .i64 ((ByteArray.size v0_0 : Int) - (1 : Int)))))) (k false) (L0 v0_0 v0_1 (IntKind.wrap .i64 (v0_2 + (1 : Int))))) (k false)) (k false)))) none) (k (f_impl_InRange (ByteArray.size v0_0 : Int) (1 : Int) (8 : Int))))
def impl_IsLabel_P {ρ : Type} (f_impl_InRange : Int → Int → Int → Bool) (k : Bool → Option ρ) (L0 : ByteArray → Int → Int → Option ρ) (a0 : ByteArray) : Option ρ := (L0 a0 (ByteArray.size a0 : Int) (0 : Int))
theorem ok_impl_IsLabel : OracOk Try.prog sigs O_impl_IsLabel := (orcX_ok rfl (fun d g => said_impl_InRange d.1 d.2.1 d.2.2.1) nilO_ok)
def A_impl_IsLabel : Ann := fun b => cond (Nat.beq b 0) ⟨[(0, false), (6, false), (7, false)], []⟩ (⟨[], []⟩)
def S_impl_IsLabel_0 (v0_0 : ByteArray) (v0_1 : Int) (v0_2 : Int) : St := [(kT 0, some (.tv (.v .str v0_0 .no))), (kT 6, some (.tv (.v (.int .i64) v0_1 .no))), (kT 7, some (.tv (.v (.int .i64) v0_2 .no)))]
noncomputable def L_P_impl_IsLabel_0 (f_impl_InRange : Int → Int → Int → Bool) (n m : Nat) : St → Option Ret := loopOf tab sigs (OP_impl_IsLabel f_impl_InRange) A_impl_IsLabel Try.f48 [(.bool, .no)] n (fun _ => 0) 0 m
noncomputable def L_impl_IsLabel_0 (n m : Nat) : St → Option Ret := L_P_impl_IsLabel_0 N.impl_InRange n m
theorem bP_impl_IsLabel_0 (f_impl_InRange : Int → Int → Int → Bool) (n m : Nat) (v0_0 : ByteArray) (v0_1 : Int) (v0_2 : Int) : L_P_impl_IsLabel_0 f_impl_InRange n (m + 1) (S_impl_IsLabel_0 v0_0 v0_1 v0_2) = impl_IsLabel_P_L0 f_impl_InRange (fun r0 => some [⟨.bool, r0⟩]) (fun v0_0 v0_1 v0_2 => L_P_impl_IsLabel_0 f_impl_InRange n m (S_impl_IsLabel_0 v0_0 v0_1 v0_2)) v0_0 v0_1 v0_2 := by kernel_rfl
theorem b_impl_IsLabel_0 (n m : Nat) (v0_0 : ByteArray) (v0_1 : Int) (v0_2 : Int) : L_impl_IsLabel_0 n (m + 1) (S_impl_IsLabel_0 v0_0 v0_1 v0_2) = impl_IsLabel_L0 (fun r0 => some [⟨.bool, r0⟩]) (fun v0_0 v0_1 v0_2 => L_impl_IsLabel_0 n m (S_impl_IsLabel_0 v0_0 v0_1 v0_2)) v0_0 v0_1 v0_2 := bP_impl_IsLabel_0 N.impl_InRange n m v0_0 v0_1 v0_2
theorem aP_impl_IsLabel (f_impl_InRange : Int → Int → Int → Bool) (n : Nat) (a0 : ByteArray) : absF tab sigs (OP_impl_IsLabel f_impl_InRange) A_impl_IsLabel Try.f48 [(.bool, .no)] n [.val .str a0] = impl_IsLabel_P f_impl_InRange (fun r0 => some [⟨.bool, r0⟩]) (fun v0_0 v0_1 v0_2 => L_P_impl_IsLabel_0 f_impl_InRange n n (S_impl_IsLabel_0 v0_0 v0_1 v0_2)) a0 := by kernel_rfl
theorem a_impl_IsLabel (n : Nat) (a0 : ByteArray) : absF tab sigs O_impl_IsLabel A_impl_IsLabel Try.f48 [(.bool, .no)] n [.val .str a0] = impl_IsLabel (fun r0 => some [⟨.bool, r0⟩]) (fun v0_0 v0_1 v0_2 => L_impl_IsLabel_0 n n (S_impl_IsLabel_0 v0_0 v0_1 v0_2)) a0 := aP_impl_IsLabel N.impl_InRange n a0
theorem said_impl_IsLabel (a0 : ByteArray) (g : G.impl_IsLabel a0 = true) : Said Try.prog sigs_48 48 [.val .str a0] [⟨.bool, N.impl_IsLabel a0⟩] := said_len (T := tab) (A := A_impl_IsLabel) tabOk ok_impl_IsLabel tabOk.follows Try.func48 (by kernel_rfl) (by kernel_rfl) (fun hl => let ⟨n, hn⟩ := impl_IsLabel_ok (ρ := Ret) (fun r0 => some [⟨.bool, r0⟩]) a0 g; ⟨n, (a_impl_IsLabel n a0).trans (hn n (Nat.le_refl n) (fun  m v0_0 v0_1 v0_2 => L_impl_IsLabel_0 n  m (S_impl_IsLabel_0 v0_0 v0_1 v0_2)) (fun  m v0_0 v0_1 v0_2 => b_impl_IsLabel_0 n  m v0_0 v0_1 v0_2))⟩)
end Go.Proofs.Ythiiialbkppmnaa.Ref
