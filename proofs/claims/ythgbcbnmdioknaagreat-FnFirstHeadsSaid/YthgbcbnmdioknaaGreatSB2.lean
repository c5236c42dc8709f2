/- Functions of the program: what each computes, and that it does so.
   Conditions: as each theorem states. -/
import Derived.Test.YthgbcbnmdioknaaGreatSB1
import Derived.WalkKit
import Derived.Lib.Bytealg
set_option linter.unusedVariables false
set_option linter.unusedSimpArgs false
set_option maxRecDepth 100000
namespace Go.Proofs.YthgbcbnmdioknaaGreat.Ref
open Go.RowKit Go.Proofs.YthgbcbnmdioknaaGreatW.PrintWords Go.Proofs.YthgbcbnmdioknaaGreatW.PrintLast
abbrev G.spec_l10Up (l : List Int) : Bool := decide (l.length ≤ 1048576)
abbrev N.spec_l10Up (l : List Int) : List Int := up l
def spec_l10Up_P_L0 {ρ : Type} (f0 : Int → Int → Int) (k : (List Int) → Option ρ) (L0 : (List Int) → Int → (List Int) → Option ρ) (v0_0 : (List Int)) (v0_1 : Int) (v0_2 : (List Int)) : Option ρ := (cond (decide (v0_1 < (List.length v0_0 : Int))) (cond (decide ((IntKind.wrap .i64 (v0_1 + (1 : Int))) < (List.length v0_0 : Int))) (cond (inRange v0_1 (List.length v0_0)) (cond (inRange (IntKind.wrap .i64 (v0_1 + (1 : Int))) (List.length v0_0)) (cond (fit (List.length v0_2) (List.length [(f0 (List.getD v0_0 (Int.toNat v0_1) (0 : Int)) (List.getD v0_0 (Int.toNat (IntKind.wrap .i64 (v0_1 + (1 : Int)))) (0 : Int)))])) (L0 v0_0 (IntKind.wrap .i64 (v0_1 + (2 : Int))) (List.append v0_2 [(f0 (List.getD v0_0 (Int.toNat v0_1) (0 : Int)) (List.getD v0_0 (Int.toNat (IntKind.wrap .i64 (v0_1 + (1 : Int)))) (0 : Int)))])) none) none) none) (cond (inRange v0_1 (List.length v0_0)) (cond (fit (List.length v0_2) (List.length [(List.getD v0_0 (Int.toNat v0_1) (0 : Int))])) (L0 v0_0 (IntKind.wrap .i64 (v0_1 + (2 : Int))) (List.append v0_2 [(List.getD v0_0 (Int.toNat v0_1) (0 : Int))])) none) none)) (k v0_2))
def spec_l10Up_P {ρ : Type} (f0 : Int → Int → Int) (k : (List Int) → Option ρ) (L0 : (List Int) → Int → (List Int) → Option ρ) (a0 : (List Int)) : Option ρ := (L0 a0 (0 : Int) ([] : (List Int)))
def spec_l10Up_L0 {ρ : Type} (k : (List Int) → Option ρ) (L0 : (List Int) → Int → (List Int) → Option ρ) (v0_0 : (List Int)) (v0_1 : Int) (v0_2 : (List Int)) : Option ρ := spec_l10Up_P_L0 N.spec_NodeOf k L0 v0_0 v0_1 v0_2
def spec_l10Up {ρ : Type} (k : (List Int) → Option ρ) (L0 : (List Int) → Int → (List Int) → Option ρ) (a0 : (List Int)) : Option ρ := spec_l10Up_P N.spec_NodeOf k L0 a0
theorem spec_l10Up_ok {ρ : Type} (k : (List Int) → Option ρ) (a0 : (List Int)) (l_a0 : lnL (fun _ => True) a0) (g : G.spec_l10Up a0 = true) : ∃ n0, ∀ n, n0 ≤ n → ∀ (L0 : Nat → (List Int) → Int → (List Int) → Option ρ) (h0 : ∀ ( m : Nat) (v0_0 : (List Int)) (v0_1 : Int) (v0_2 : (List Int)), L0 (m + 1) v0_0 v0_1 v0_2 = spec_l10Up_L0 k (L0 m) v0_0 v0_1 v0_2), spec_l10Up k (L0 n) a0 = k (N.spec_l10Up a0) := by
  unfold G.spec_l10Up at g
  have hlen : a0.length ≤ 1048576 := of_decide_eq_true g
  refine ⟨a0.length + 1, fun n hn L0 h0 => ?_⟩
  refine (raw_meas (σ := Int × List Int) (L := fun m s => L0 m a0 s.1 s.2) (R := fun s c => spec_l10Up_L0 k (fun _ i out => c (i, out)) a0 s.1 s.2) (fun m s => h0 m a0 s.1 s.2) (fun s => 0 ≤ s.1 ∧ s.2.length + s.1 ≤ 2097160 ∧ s.1 ≤ a0.length + 1 ∧ s.2.length ≤ s.1) (fun s => a0.length - s.1.toNat) (fun s => k (s.2 ++ up (a0.drop s.1.toNat))) (fun s c hI hc => ?_) n (0, []) ⟨by simp, by simp, by simp; omega, by simp⟩ (by simp; omega)).trans (by simp)
  obtain ⟨j, out⟩ := s
  obtain ⟨hj0, hj1, hj2, hj3⟩ := hI
  dsimp only at hj0 hj1 hj2 hj3 hc ⊢
  obtain ⟨j, rfl⟩ := Int.eq_ofNat_of_zero_le hj0
  rw [Int.toNat_natCast]
  by_cases h : j < a0.length
  · have e1 : IntKind.wrap .i64 ((j : Int) + 2) = ((j + 2 : Nat) : Int) := by rw [wrap_id (by omega) (by omega)]; omega
    have e2 : IntKind.wrap .i64 ((j : Int) + 1) = ((j + 1 : Nat) : Int) := wrap_succ (by unfold big; omega)
    have e3 : fit out.length 1 = true := fit_of (by omega)
    by_cases h2 : j + 1 < a0.length
    · have hd : a0.drop j = a0.getD j 0 :: a0.getD (j + 1) 0 :: a0.drop (j + 2) := by rw [drop_cons 0 h, drop_cons 0 h2]
      have := hc (((j + 2 : Nat) : Int), out ++ [nodeOf (a0.getD j 0) (a0.getD (j + 1) 0)]) ⟨by simp; omega, by simp; omega, by simp; omega, by simp; omega⟩ (by simp; omega)
      dsimp only at this
      rw [Int.toNat_natCast] at this
      simp only [spec_l10Up_L0, spec_l10Up_P_L0, e1, e2, lt_nat, inRange_nat, decide_eq_true h, decide_eq_true h2, cond_true, Int.toNat_natCast, List.length_singleton, Int.natCast_one, e3, List.append_eq, this, hd]
      simp [up]
    · have hd : a0.drop j = [a0.getD j 0] := by rw [drop_cons 0 h, List.drop_of_length_le (by omega)]
      have := hc (((j + 2 : Nat) : Int), out ++ [a0.getD j 0]) ⟨by simp; omega, by simp; omega, by simp; omega, by simp; omega⟩ (by simp; omega)
      dsimp only at this
      rw [Int.toNat_natCast, List.drop_of_length_le (by omega)] at this
      simp only [spec_l10Up_L0, spec_l10Up_P_L0, e1, e2, lt_nat, inRange_nat, decide_eq_true h, decide_eq_false h2, cond_true, cond_false, Int.toNat_natCast, List.length_singleton, Int.natCast_one, e3, List.append_eq, this, hd]
      simp [up]
  · simp [spec_l10Up_L0, spec_l10Up_P_L0, lt_nat, h, List.drop_of_length_le (Nat.not_lt.1 h), up]
def OP_spec_l10Up (f0 : Int → Int → Int) : Orac := (orcX 149 [.val (.int .i64), .val (.int .i64)] (fun d => true) (fun d => [⟨(.int .i64), f0 d.1 d.2.1⟩]) nilO)
def O_spec_l10Up : Orac := OP_spec_l10Up N.spec_NodeOf
theorem ok_spec_l10Up : OracOk Tryz.prog sigs O_spec_l10Up := (orcX_ok rfl rfl (fun d g => said_spec_NodeOf d.1 d.2.1) nilO_ok)
def A_spec_l10Up : Ann := fun b => cond (Nat.beq b 0) ⟨[(0, false), (3, true), (4, false)], []⟩ (⟨[], []⟩)
def S_spec_l10Up_0 (v0_0 : (List Int)) (v0_1 : Int) (v0_2 : (List Int)) : St := [(kT 0, some (.tv (.v (.slice 3 (.int .i64)) v0_0 .no))), (kT 3, some (.tv (.v (.slice 3 (.int .i64)) [] (.own 24)))), (kT 4, some (.tv (.v (.int .i64) v0_1 .no))), (kR 24, some (.row 3 (.int .i64) v0_2))]
noncomputable def L_P_spec_l10Up_0 (f0 : Int → Int → Int) (n m : Nat) : St → Option Ret := loopOf tab sigs (OP_spec_l10Up f0) A_spec_l10Up Tryz.f139 [((.slice 3 (.int .i64)), (.own 0))] n (fun _ => 0) 0 m
theorem bP_spec_l10Up_0 (f0 : Int → Int → Int) (n m : Nat) (v0_0 : (List Int)) (v0_1 : Int) (v0_2 : (List Int)) : L_P_spec_l10Up_0 f0 n (m + 1) (S_spec_l10Up_0 v0_0 v0_1 v0_2) = spec_l10Up_P_L0 f0 (fun r0 => some [⟨(.slice 3 (.int .i64)), r0⟩]) (fun v0_0 v0_1 v0_2 => L_P_spec_l10Up_0 f0 n m (S_spec_l10Up_0 v0_0 v0_1 v0_2)) v0_0 v0_1 v0_2 := by kernel_rfl
theorem aP_spec_l10Up (f0 : Int → Int → Int) (n : Nat) (a0 : (List Int)) : absF tab sigs (OP_spec_l10Up f0) A_spec_l10Up Tryz.f139 [((.slice 3 (.int .i64)), (.own 0))] n [.val (.slice 3 (.int .i64)) a0] = spec_l10Up_P f0 (fun r0 => some [⟨(.slice 3 (.int .i64)), r0⟩]) (fun v0_0 v0_1 v0_2 => L_P_spec_l10Up_0 f0 n n (S_spec_l10Up_0 v0_0 v0_1 v0_2)) a0 := by kernel_rfl
theorem said_spec_l10Up (a0 : (List Int)) (g : G.spec_l10Up a0 = true) : Said Tryz.prog sigs_139 139 [.val (.slice 3 (.int .i64)) a0] [⟨(.slice 3 (.int .i64)), N.spec_l10Up a0⟩] := said_len (T := tab) (A := A_spec_l10Up) tabOk ok_spec_l10Up tabOk.follows Tryz.func139 (by kernel_rfl) (by kernel_rfl) (fun hl => let ⟨n, hn⟩ := spec_l10Up_ok (ρ := Ret) (fun r0 => some [⟨(.slice 3 (.int .i64)), r0⟩]) a0 hl.1 g; ⟨n, (aP_spec_l10Up N.spec_NodeOf n a0).trans (hn n (Nat.le_refl n) (fun  m v0_0 v0_1 v0_2 => L_P_spec_l10Up_0 N.spec_NodeOf n  m (S_spec_l10Up_0 v0_0 v0_1 v0_2)) (fun  m v0_0 v0_1 v0_2 => bP_spec_l10Up_0 N.spec_NodeOf n  m v0_0 v0_1 v0_2))⟩)
abbrev G.spec_TopOf (l : List Int) : Bool := decide (l.length ≤ 1048576)
abbrev N.spec_TopOf (l : List Int) : Int := topOf l
def spec_TopOf_P_L0 {ρ : Type} (f0 : (List Int) → Int) (f1 : (List Int) → (List Int)) (g1 : (List Int) → Bool) (k : Int → Option ρ) (L0 : (List Int) → Option ρ) (v0_0 : (List Int)) : Option ρ := (cond (decide ((List.length v0_0 : Int) > (1 : Int))) (cond (g1 v0_0) (L0 (f1 v0_0)) none) (cond (inRange (0 : Int) (List.length v0_0)) (k (List.getD v0_0 0 (0 : Int))) none))
def spec_TopOf_P {ρ : Type} (f0 : (List Int) → Int) (f1 : (List Int) → (List Int)) (g1 : (List Int) → Bool) (k : Int → Option ρ) (L0 : (List Int) → Option ρ) (a0 : (List Int)) : Option ρ := (cond ((List.length a0 : Int) == (0 : Int)) (k (f0 [(229 : Int)])) (L0 a0))
def spec_TopOf_L0 {ρ : Type} (k : Int → Option ρ) (L0 : (List Int) → Option ρ) (v0_0 : (List Int)) : Option ρ := spec_TopOf_P_L0 N.spec_Hash N.spec_l10Up G.spec_l10Up k L0 v0_0
def spec_TopOf {ρ : Type} (k : Int → Option ρ) (L0 : (List Int) → Option ρ) (a0 : (List Int)) : Option ρ := spec_TopOf_P N.spec_Hash N.spec_l10Up G.spec_l10Up k L0 a0
theorem spec_TopOf_ok {ρ : Type} (k : Int → Option ρ) (a0 : (List Int)) (l_a0 : lnL (fun _ => True) a0) (g : G.spec_TopOf a0 = true) : ∃ n0, ∀ n, n0 ≤ n → ∀ (L0 : Nat → (List Int) → Option ρ) (h0 : ∀ ( m : Nat) (v0_0 : (List Int)), L0 (m + 1) v0_0 = spec_TopOf_L0 k (L0 m) v0_0), spec_TopOf k (L0 n) a0 = k (N.spec_TopOf a0) := by
  unfold G.spec_TopOf at g
  have hlen : a0.length ≤ 1048576 := of_decide_eq_true g
  refine ⟨a0.length + 1, fun n hn L0 h0 => ?_⟩
  unfold spec_TopOf spec_TopOf_P
  show _ = k (topOf a0)
  unfold topOf
  by_cases h : a0.length = 0
  · simp [h]
  · have e1 : ((a0.length : Int) == 0) = false := by simpa using h
    rw [e1, decide_eq_false h]
    refine raw_meas (L := fun m s => L0 m s) (R := fun s c => spec_TopOf_L0 k c s) (fun m s => h0 m s) (fun s => 0 < s.length ∧ s.length ≤ 1048576) (fun s => s.length) (fun s => k (topN s.length s)) (fun s c hI hc => ?_) n a0 ⟨by omega, hlen⟩ (by omega)
    unfold spec_TopOf_L0 spec_TopOf_P_L0
    by_cases h1 : 1 < s.length
    · have e2 : decide ((s.length : Int) > 1) = true := by simp; omega
      have hu := up_len s
      have e3 : decide (s.length ≤ 1048576) = true := by simpa using hI.2
      have := hc (up s) ⟨by omega, by omega⟩ (by omega)
      simp only [e2, e3, cond_true, this]
      congr 1
      obtain ⟨q, hq⟩ : ∃ q, s.length = q + 1 := ⟨s.length - 1, by omega⟩
      rw [hq]
      show _ = cond (decide (1 < s.length)) (topN q (up s)) _
      rw [decide_eq_true h1]
      exact topN_more _ _ _ (by omega) (by omega)
    · have e2 : decide ((s.length : Int) > 1) = false := by simp; omega
      have e3 : inRange 0 s.length = true := by unfold inRange; simp; omega
      have e4 : s.length = 1 := by omega
      rw [e4] at e3
      simp [e2, e3, e4, topN]
def OP_spec_TopOf (f0 : (List Int) → Int) (f1 : (List Int) → (List Int)) (g1 : (List Int) → Bool) : Orac := (orcX 139 [.val (.slice 3 (.int .i64))] (fun d => g1 d.1) (fun d => [⟨(.slice 3 (.int .i64)), f1 d.1⟩]) (orcX 77 [.val (.slice 3 (.int .i64))] (fun d => true) (fun d => [⟨(.int .i64), f0 d.1⟩]) nilO))
def O_spec_TopOf : Orac := OP_spec_TopOf N.spec_Hash N.spec_l10Up G.spec_l10Up
theorem ok_spec_TopOf : OracOk Tryz.prog sigs O_spec_TopOf := (orcX_ok rfl rfl (fun d g => said_spec_l10Up d.1 g) (orcX_ok rfl rfl (fun d g => said_spec_Hash d.1) nilO_ok))
def A_spec_TopOf : Ann := fun b => cond (Nat.beq b 0) ⟨[(3, false)], []⟩ (⟨[], []⟩)
def S_spec_TopOf_0 (v0_0 : (List Int)) : St := [(kT 3, some (.tv (.v (.slice 3 (.int .i64)) v0_0 .no)))]
noncomputable def L_P_spec_TopOf_0 (f0 : (List Int) → Int) (f1 : (List Int) → (List Int)) (g1 : (List Int) → Bool) (n m : Nat) : St → Option Ret := loopOf tab sigs (OP_spec_TopOf f0 f1 g1) A_spec_TopOf Tryz.f104 [((.int .i64), .no)] n (fun _ => 0) 0 m
theorem bP_spec_TopOf_0 (f0 : (List Int) → Int) (f1 : (List Int) → (List Int)) (g1 : (List Int) → Bool) (n m : Nat) (v0_0 : (List Int)) : L_P_spec_TopOf_0 f0 f1 g1 n (m + 1) (S_spec_TopOf_0 v0_0) = spec_TopOf_P_L0 f0 f1 g1 (fun r0 => some [⟨(.int .i64), r0⟩]) (fun v0_0 => L_P_spec_TopOf_0 f0 f1 g1 n m (S_spec_TopOf_0 v0_0)) v0_0 := by kernel_rfl
theorem aP_spec_TopOf (f0 : (List Int) → Int) (f1 : (List Int) → (List Int)) (g1 : (List Int) → Bool) (n : Nat) (a0 : (List Int)) : absF tab sigs (OP_spec_TopOf f0 f1 g1) A_spec_TopOf Tryz.f104 [((.int .i64), .no)] n [.val (.slice 3 (.int .i64)) a0] = spec_TopOf_P f0 f1 g1 (fun r0 => some [⟨(.int .i64), r0⟩]) (fun v0_0 => L_P_spec_TopOf_0 f0 f1 g1 n n (S_spec_TopOf_0 v0_0)) a0 := by kernel_rfl
theorem said_spec_TopOf (a0 : (List Int)) (g : G.spec_TopOf a0 = true) : Said Tryz.prog sigs_104 104 [.val (.slice 3 (.int .i64)) a0] [⟨(.int .i64), N.spec_TopOf a0⟩] := said_len (T := tab) (A := A_spec_TopOf) tabOk ok_spec_TopOf tabOk.follows Tryz.func104 (by kernel_rfl) (by kernel_rfl) (fun hl => let ⟨n, hn⟩ := spec_TopOf_ok (ρ := Ret) (fun r0 => some [⟨(.int .i64), r0⟩]) a0 hl.1 g; ⟨n, (aP_spec_TopOf N.spec_Hash N.spec_l10Up G.spec_l10Up n a0).trans (hn n (Nat.le_refl n) (fun  m v0_0 => L_P_spec_TopOf_0 N.spec_Hash N.spec_l10Up G.spec_l10Up n  m (S_spec_TopOf_0 v0_0)) (fun  m v0_0 => bP_spec_TopOf_0 N.spec_Hash N.spec_l10Up G.spec_l10Up n  m v0_0))⟩)
abbrev N.impl_hash (l : List Int) : Int := hash l
def impl_hash {ρ : Type} (k : Int → Option ρ) (a0 : (List Int)) : Option ρ := (k (N.impl_Hash a0))
theorem impl_hash_ok {ρ : Type} (k : Int → Option ρ) (a0 : (List Int)) (l_a0 : lnL (fun _ => True) a0) : impl_hash k  a0 = k (N.impl_hash a0) := by
  rfl
def OP_impl_hash (f0 : (List Int) → Int) : Orac := (orcX 71 [.val (.slice 3 (.int .i64))] (fun d => true) (fun d => [⟨(.int .i64), f0 d.1⟩]) nilO)
def O_impl_hash : Orac := OP_impl_hash N.impl_Hash
def impl_hash_P {ρ : Type} (f0 : (List Int) → Int) (k : Int → Option ρ) (a0 : (List Int)) : Option ρ := (k (f0 a0))
theorem ok_impl_hash : OracOk Tryz.prog sigs O_impl_hash := (orcX_ok rfl rfl (fun d g => said_impl_Hash d.1) nilO_ok)
def A_impl_hash : Ann := fun b => ⟨[], []⟩
theorem aP_impl_hash (f0 : (List Int) → Int) (n : Nat) (a0 : (List Int)) : absF tab sigs (OP_impl_hash f0) A_impl_hash Tryz.f91 [((.int .i64), .no)] n [.val (.slice 3 (.int .i64)) a0] = impl_hash_P f0 (fun r0 => some [⟨(.int .i64), r0⟩])  a0 := by kernel_rfl
theorem said_impl_hash (a0 : (List Int)) : Said Tryz.prog sigs_91 91 [.val (.slice 3 (.int .i64)) a0] [⟨(.int .i64), N.impl_hash a0⟩] := said_len (T := tab) (A := A_impl_hash) tabOk ok_impl_hash tabOk.follows Tryz.func91 (by kernel_rfl) (by kernel_rfl) (fun hl => ⟨0, (aP_impl_hash N.impl_Hash 0 a0).trans (impl_hash_ok (ρ := Ret) (fun r0 => some [⟨(.int .i64), r0⟩]) a0 hl.1)⟩)
abbrev N.impl_NodeOf (a b : Int) : Int := nodeOf a b
def impl_NodeOf {ρ : Type} (k : Int → Option ρ) (a0 : Int) (a1 : Int) : Option ρ := (k (N.impl_hash [(229 : Int), a0, a1]))
theorem impl_NodeOf_ok {ρ : Type} (k : Int → Option ρ) (a0 : Int) (a1 : Int) : impl_NodeOf k  a0 a1 = k (N.impl_NodeOf a0 a1) := by
  rfl
def OP_impl_NodeOf (f0 : (List Int) → Int) : Orac := (orcX 91 [.val (.slice 3 (.int .i64))] (fun d => true) (fun d => [⟨(.int .i64), f0 d.1⟩]) nilO)
def O_impl_NodeOf : Orac := OP_impl_NodeOf N.impl_hash
def impl_NodeOf_P {ρ : Type} (f0 : (List Int) → Int) (k : Int → Option ρ) (a0 : Int) (a1 : Int) : Option ρ := (k (f0 [(229 : Int), a0, a1]))
theorem ok_impl_NodeOf : OracOk Tryz.prog sigs O_impl_NodeOf := (orcX_ok rfl rfl (fun d g => said_impl_hash d.1) nilO_ok)
def A_impl_NodeOf : Ann := fun b => ⟨[], []⟩
theorem aP_impl_NodeOf (f0 : (List Int) → Int) (n : Nat) (a0 : Int) (a1 : Int) : absF tab sigs (OP_impl_NodeOf f0) A_impl_NodeOf Tryz.f140 [((.int .i64), .no)] n [.val (.int .i64) a0, .val (.int .i64) a1] = impl_NodeOf_P f0 (fun r0 => some [⟨(.int .i64), r0⟩])  a0 a1 := by kernel_rfl
theorem said_impl_NodeOf (a0 : Int) (a1 : Int) : Said Tryz.prog sigs_140 140 [.val (.int .i64) a0, .val (.int .i64) a1] [⟨(.int .i64), N.impl_NodeOf a0 a1⟩] := said_len (T := tab) (A := A_impl_NodeOf) tabOk ok_impl_NodeOf tabOk.follows Tryz.func140 (by kernel_rfl) (by kernel_rfl) (fun hl => ⟨0, (aP_impl_NodeOf N.impl_hash 0 a0 a1).trans (impl_NodeOf_ok (ρ := Ret) (fun r0 => some [⟨(.int .i64), r0⟩]) a0 a1)⟩)
abbrev G.impl_above (l : List Int) : Bool := decide (l.length ≤ 1048576)
abbrev N.impl_above (l : List Int) : List Int := up l
def impl_above_P_L0 {ρ : Type} (f0 : Int → Int → Int) (k : (List Int) → Option ρ) (L0 : (List Int) → Int → (List Int) → Option ρ) (v0_0 : (List Int)) (v0_1 : Int) (v0_2 : (List Int)) : Option ρ := (cond (decide (v0_1 < (List.length v0_0 : Int))) (cond (decide ((IntKind.wrap .i64 (v0_1 + (1 : Int))) < (List.length v0_0 : Int))) (cond (inRange v0_1 (List.length v0_0)) (cond (inRange (IntKind.wrap .i64 (v0_1 + (1 : Int))) (List.length v0_0)) (cond (fit (List.length v0_2) (List.length [(f0 (List.getD v0_0 (Int.toNat v0_1) (0 : Int)) (List.getD v0_0 (Int.toNat (IntKind.wrap .i64 (v0_1 + (1 : Int)))) (0 : Int)))])) (L0 v0_0 (IntKind.wrap .i64 (v0_1 + (2 : Int))) (List.append v0_2 [(f0 (List.getD v0_0 (Int.toNat v0_1) (0 : Int)) (List.getD v0_0 (Int.toNat (IntKind.wrap .i64 (v0_1 + (1 : Int)))) (0 : Int)))])) none) none) none) (cond (inRange v0_1 (List.length v0_0)) (cond (fit (List.length v0_2) (List.length [(List.getD v0_0 (Int.toNat v0_1) (0 : Int))])) (L0 v0_0 (IntKind.wrap .i64 (v0_1 + (2 : Int))) (List.append v0_2 [(List.getD v0_0 (Int.toNat v0_1) (0 : Int))])) none) none)) (k v0_2))
def impl_above_P {ρ : Type} (f0 : Int → Int → Int) (k : (List Int) → Option ρ) (L0 : (List Int) → Int → (List Int) → Option ρ) (a0 : (List Int)) : Option ρ := (L0 a0 (0 : Int) ([] : (List Int)))
def impl_above_L0 {ρ : Type} (k : (List Int) → Option ρ) (L0 : (List Int) → Int → (List Int) → Option ρ) (v0_0 : (List Int)) (v0_1 : Int) (v0_2 : (List Int)) : Option ρ := impl_above_P_L0 N.impl_NodeOf k L0 v0_0 v0_1 v0_2
def impl_above {ρ : Type} (k : (List Int) → Option ρ) (L0 : (List Int) → Int → (List Int) → Option ρ) (a0 : (List Int)) : Option ρ := impl_above_P N.impl_NodeOf k L0 a0
theorem impl_above_ok {ρ : Type} (k : (List Int) → Option ρ) (a0 : (List Int)) (l_a0 : lnL (fun _ => True) a0) (g : G.impl_above a0 = true) : ∃ n0, ∀ n, n0 ≤ n → ∀ (L0 : Nat → (List Int) → Int → (List Int) → Option ρ) (h0 : ∀ ( m : Nat) (v0_0 : (List Int)) (v0_1 : Int) (v0_2 : (List Int)), L0 (m + 1) v0_0 v0_1 v0_2 = impl_above_L0 k (L0 m) v0_0 v0_1 v0_2), impl_above k (L0 n) a0 = k (N.impl_above a0) := by
  unfold G.impl_above at g
  exact spec_l10Up_ok k a0 l_a0 g
def OP_impl_above (f0 : Int → Int → Int) : Orac := (orcX 140 [.val (.int .i64), .val (.int .i64)] (fun d => true) (fun d => [⟨(.int .i64), f0 d.1 d.2.1⟩]) nilO)
def O_impl_above : Orac := OP_impl_above N.impl_NodeOf
theorem ok_impl_above : OracOk Tryz.prog sigs O_impl_above := (orcX_ok rfl rfl (fun d g => said_impl_NodeOf d.1 d.2.1) nilO_ok)
def A_impl_above : Ann := fun b => cond (Nat.beq b 0) ⟨[(0, false), (3, true), (4, false)], []⟩ (⟨[], []⟩)
def S_impl_above_0 (v0_0 : (List Int)) (v0_1 : Int) (v0_2 : (List Int)) : St := [(kT 0, some (.tv (.v (.slice 3 (.int .i64)) v0_0 .no))), (kT 3, some (.tv (.v (.slice 3 (.int .i64)) [] (.own 24)))), (kT 4, some (.tv (.v (.int .i64) v0_1 .no))), (kR 24, some (.row 3 (.int .i64) v0_2))]
noncomputable def L_P_impl_above_0 (f0 : Int → Int → Int) (n m : Nat) : St → Option Ret := loopOf tab sigs (OP_impl_above f0) A_impl_above Tryz.f92 [((.slice 3 (.int .i64)), (.own 0))] n (fun _ => 0) 0 m
theorem bP_impl_above_0 (f0 : Int → Int → Int) (n m : Nat) (v0_0 : (List Int)) (v0_1 : Int) (v0_2 : (List Int)) : L_P_impl_above_0 f0 n (m + 1) (S_impl_above_0 v0_0 v0_1 v0_2) = impl_above_P_L0 f0 (fun r0 => some [⟨(.slice 3 (.int .i64)), r0⟩]) (fun v0_0 v0_1 v0_2 => L_P_impl_above_0 f0 n m (S_impl_above_0 v0_0 v0_1 v0_2)) v0_0 v0_1 v0_2 := by kernel_rfl
theorem aP_impl_above (f0 : Int → Int → Int) (n : Nat) (a0 : (List Int)) : absF tab sigs (OP_impl_above f0) A_impl_above Tryz.f92 [((.slice 3 (.int .i64)), (.own 0))] n [.val (.slice 3 (.int .i64)) a0] = impl_above_P f0 (fun r0 => some [⟨(.slice 3 (.int .i64)), r0⟩]) (fun v0_0 v0_1 v0_2 => L_P_impl_above_0 f0 n n (S_impl_above_0 v0_0 v0_1 v0_2)) a0 := by kernel_rfl
theorem said_impl_above (a0 : (List Int)) (g : G.impl_above a0 = true) : Said Tryz.prog sigs_92 92 [.val (.slice 3 (.int .i64)) a0] [⟨(.slice 3 (.int .i64)), N.impl_above a0⟩] := said_len (T := tab) (A := A_impl_above) tabOk ok_impl_above tabOk.follows Tryz.func92 (by kernel_rfl) (by kernel_rfl) (fun hl => let ⟨n, hn⟩ := impl_above_ok (ρ := Ret) (fun r0 => some [⟨(.slice 3 (.int .i64)), r0⟩]) a0 hl.1 g; ⟨n, (aP_impl_above N.impl_NodeOf n a0).trans (hn n (Nat.le_refl n) (fun  m v0_0 v0_1 v0_2 => L_P_impl_above_0 N.impl_NodeOf n  m (S_impl_above_0 v0_0 v0_1 v0_2)) (fun  m v0_0 v0_1 v0_2 => bP_impl_above_0 N.impl_NodeOf n  m v0_0 v0_1 v0_2))⟩)
abbrev G.impl_TopOf (l : List Int) : Bool := decide (l.length ≤ 1048576)
abbrev N.impl_TopOf (l : List Int) : Int := topOf l
def impl_TopOf_P_L0 {ρ : Type} (f0 : (List Int) → Int) (f1 : (List Int) → (List Int)) (g1 : (List Int) → Bool) (k : Int → Option ρ) (L0 : (List Int) → Option ρ) (v0_0 : (List Int)) : Option ρ := (cond (decide ((List.length v0_0 : Int) > (1 : Int))) (cond (g1 v0_0) (L0 (f1 v0_0)) none) (cond (inRange (0 : Int) (List.length v0_0)) (k (List.getD v0_0 0 (0 : Int))) none))
def impl_TopOf_P {ρ : Type} (f0 : (List Int) → Int) (f1 : (List Int) → (List Int)) (g1 : (List Int) → Bool) (k : Int → Option ρ) (L0 : (List Int) → Option ρ) (a0 : (List Int)) : Option ρ := (cond ((List.length a0 : Int) == (0 : Int)) (k (f0 [(229 : Int)])) (L0 a0))
def impl_TopOf_L0 {ρ : Type} (k : Int → Option ρ) (L0 : (List Int) → Option ρ) (v0_0 : (List Int)) : Option ρ := impl_TopOf_P_L0 N.impl_hash N.impl_above G.impl_above k L0 v0_0
def impl_TopOf {ρ : Type} (k : Int → Option ρ) (L0 : (List Int) → Option ρ) (a0 : (List Int)) : Option ρ := impl_TopOf_P N.impl_hash N.impl_above G.impl_above k L0 a0
theorem impl_TopOf_ok {ρ : Type} (k : Int → Option ρ) (a0 : (List Int)) (l_a0 : lnL (fun _ => True) a0) (g : G.impl_TopOf a0 = true) : ∃ n0, ∀ n, n0 ≤ n → ∀ (L0 : Nat → (List Int) → Option ρ) (h0 : ∀ ( m : Nat) (v0_0 : (List Int)), L0 (m + 1) v0_0 = impl_TopOf_L0 k (L0 m) v0_0), impl_TopOf k (L0 n) a0 = k (N.impl_TopOf a0) := by
  unfold G.impl_TopOf at g
  exact spec_TopOf_ok k a0 l_a0 g
def OP_impl_TopOf (f0 : (List Int) → Int) (f1 : (List Int) → (List Int)) (g1 : (List Int) → Bool) : Orac := (orcX 92 [.val (.slice 3 (.int .i64))] (fun d => g1 d.1) (fun d => [⟨(.slice 3 (.int .i64)), f1 d.1⟩]) (orcX 91 [.val (.slice 3 (.int .i64))] (fun d => true) (fun d => [⟨(.int .i64), f0 d.1⟩]) nilO))
def O_impl_TopOf : Orac := OP_impl_TopOf N.impl_hash N.impl_above G.impl_above
theorem ok_impl_TopOf : OracOk Tryz.prog sigs O_impl_TopOf := (orcX_ok rfl rfl (fun d g => said_impl_above d.1 g) (orcX_ok rfl rfl (fun d g => said_impl_hash d.1) nilO_ok))
def A_impl_TopOf : Ann := fun b => cond (Nat.beq b 0) ⟨[(0, false)], []⟩ (⟨[], []⟩)
def S_impl_TopOf_0 (v0_0 : (List Int)) : St := [(kT 0, some (.tv (.v (.slice 3 (.int .i64)) v0_0 .no)))]
noncomputable def L_P_impl_TopOf_0 (f0 : (List Int) → Int) (f1 : (List Int) → (List Int)) (g1 : (List Int) → Bool) (n m : Nat) : St → Option Ret := loopOf tab sigs (OP_impl_TopOf f0 f1 g1) A_impl_TopOf Tryz.f43 [((.int .i64), .no)] n (fun _ => 0) 0 m
theorem bP_impl_TopOf_0 (f0 : (List Int) → Int) (f1 : (List Int) → (List Int)) (g1 : (List Int) → Bool) (n m : Nat) (v0_0 : (List Int)) : L_P_impl_TopOf_0 f0 f1 g1 n (m + 1) (S_impl_TopOf_0 v0_0) = impl_TopOf_P_L0 f0 f1 g1 (fun r0 => some [⟨(.int .i64), r0⟩]) (fun v0_0 => L_P_impl_TopOf_0 f0 f1 g1 n m (S_impl_TopOf_0 v0_0)) v0_0 := by kernel_rfl
theorem aP_impl_TopOf (f0 : (List Int) → Int) (f1 : (List Int) → (List Int)) (g1 : (List Int) → Bool) (n : Nat) (a0 : (List Int)) : absF tab sigs (OP_impl_TopOf f0 f1 g1) A_impl_TopOf Tryz.f43 [((.int .i64), .no)] n [.val (.slice 3 (.int .i64)) a0] = impl_TopOf_P f0 f1 g1 (fun r0 => some [⟨(.int .i64), r0⟩]) (fun v0_0 => L_P_impl_TopOf_0 f0 f1 g1 n n (S_impl_TopOf_0 v0_0)) a0 := by kernel_rfl
theorem said_impl_TopOf (a0 : (List Int)) (g : G.impl_TopOf a0 = true) : Said Tryz.prog sigs_43 43 [.val (.slice 3 (.int .i64)) a0] [⟨(.int .i64), N.impl_TopOf a0⟩] := said_len (T := tab) (A := A_impl_TopOf) tabOk ok_impl_TopOf tabOk.follows Tryz.func43 (by kernel_rfl) (by kernel_rfl) (fun hl => let ⟨n, hn⟩ := impl_TopOf_ok (ρ := Ret) (fun r0 => some [⟨(.int .i64), r0⟩]) a0 hl.1 g; ⟨n, (aP_impl_TopOf N.impl_hash N.impl_above G.impl_above n a0).trans (hn n (Nat.le_refl n) (fun  m v0_0 => L_P_impl_TopOf_0 N.impl_hash N.impl_above G.impl_above n  m (S_impl_TopOf_0 v0_0)) (fun  m v0_0 => bP_impl_TopOf_0 N.impl_hash N.impl_above G.impl_above n  m v0_0))⟩)
abbrev N.impl_rootFrom (n top : Int) : Int := rootFrom n top
def impl_rootFrom {ρ : Type} (k : Int → Option ρ) (a0 : Int) (a1 : Int) : Option ρ := (k (N.impl_hash [(231 : Int), a0, a1]))
theorem impl_rootFrom_ok {ρ : Type} (k : Int → Option ρ) (a0 : Int) (a1 : Int) : impl_rootFrom k  a0 a1 = k (N.impl_rootFrom a0 a1) := by
  rfl
def OP_impl_rootFrom (f0 : (List Int) → Int) : Orac := (orcX 91 [.val (.slice 3 (.int .i64))] (fun d => true) (fun d => [⟨(.int .i64), f0 d.1⟩]) nilO)
def O_impl_rootFrom : Orac := OP_impl_rootFrom N.impl_hash
def impl_rootFrom_P {ρ : Type} (f0 : (List Int) → Int) (k : Int → Option ρ) (a0 : Int) (a1 : Int) : Option ρ := (k (f0 [(231 : Int), a0, a1]))
theorem ok_impl_rootFrom : OracOk Tryz.prog sigs O_impl_rootFrom := (orcX_ok rfl rfl (fun d g => said_impl_hash d.1) nilO_ok)
def A_impl_rootFrom : Ann := fun b => ⟨[], []⟩
theorem aP_impl_rootFrom (f0 : (List Int) → Int) (n : Nat) (a0 : Int) (a1 : Int) : absF tab sigs (OP_impl_rootFrom f0) A_impl_rootFrom Tryz.f42 [((.int .i64), .no)] n [.val (.int .i64) a0, .val (.int .i64) a1] = impl_rootFrom_P f0 (fun r0 => some [⟨(.int .i64), r0⟩])  a0 a1 := by kernel_rfl
theorem said_impl_rootFrom (a0 : Int) (a1 : Int) : Said Tryz.prog sigs_42 42 [.val (.int .i64) a0, .val (.int .i64) a1] [⟨(.int .i64), N.impl_rootFrom a0 a1⟩] := said_len (T := tab) (A := A_impl_rootFrom) tabOk ok_impl_rootFrom tabOk.follows Tryz.func42 (by kernel_rfl) (by kernel_rfl) (fun hl => ⟨0, (aP_impl_rootFrom N.impl_hash 0 a0 a1).trans (impl_rootFrom_ok (ρ := Ret) (fun r0 => some [⟨(.int .i64), r0⟩]) a0 a1)⟩)
abbrev G.impl_RootOf (l : List TEntry) : Bool := decide (wEs l ≤ 1048576)
abbrev N.impl_RootOf (l : List TEntry) : Int := rootOf l
def impl_RootOf {ρ : Type} (k : Int → Option ρ) (a0 : (List TEntry)) : Option ρ := (cond (G.impl_LeavesOf a0) (cond (G.impl_TopOf (N.impl_LeavesOf a0)) (k (N.impl_rootFrom (List.length a0 : Int) (N.impl_TopOf (N.impl_LeavesOf a0)))) none) none)
theorem impl_RootOf_ok {ρ : Type} (k : Int → Option ρ) (a0 : (List TEntry)) (l_a0 : lnL (fun y => (True ∧ (True ∧ (True ∧ lnL (fun _ => True) y.2.2.2)))) a0) (g : G.impl_RootOf a0 = true) : impl_RootOf k  a0 = k (N.impl_RootOf a0) := by
  unfold G.impl_RootOf at g
  have hw : wEs a0 ≤ 1048576 := of_decide_eq_true g
  have hl : decide ((a0.map leafOf).length ≤ 1048576) = true := by unfold wEs at hw; simp; omega
  show cond (decide (wEs a0 ≤ 1048576)) (cond (decide ((a0.map leafOf).length ≤ 1048576)) _ none) none = _
  rw [g, hl]
  rfl
def OP_impl_RootOf (f0 : (List TEntry) → (List Int)) (g0 : (List TEntry) → Bool) (f1 : (List Int) → Int) (g1 : (List Int) → Bool) (f2 : Int → Int → Int) : Orac := (orcX 42 [.val (.int .i64), .val (.int .i64)] (fun d => true) (fun d => [⟨(.int .i64), f2 d.1 d.2.1⟩]) (orcX 43 [.val (.slice 3 (.int .i64))] (fun d => g1 d.1) (fun d => [⟨(.int .i64), f1 d.1⟩]) (orcX 44 [.val (.slice 29 TyEntry)] (fun d => g0 d.1) (fun d => [⟨(.slice 3 (.int .i64)), f0 d.1⟩]) nilO)))
def O_impl_RootOf : Orac := OP_impl_RootOf N.impl_LeavesOf G.impl_LeavesOf N.impl_TopOf G.impl_TopOf N.impl_rootFrom
def impl_RootOf_P {ρ : Type} (f0 : (List TEntry) → (List Int)) (g0 : (List TEntry) → Bool) (f1 : (List Int) → Int) (g1 : (List Int) → Bool) (f2 : Int → Int → Int) (k : Int → Option ρ) (a0 : (List TEntry)) : Option ρ := (cond (g0 a0) (cond (g1 (f0 a0)) (k (f2 (List.length a0 : Int) (f1 (f0 a0)))) none) none)
theorem ok_impl_RootOf : OracOk Tryz.prog sigs O_impl_RootOf := (orcX_ok rfl rfl (fun d g => said_impl_rootFrom d.1 d.2.1) (orcX_ok rfl rfl (fun d g => said_impl_TopOf d.1 g) (orcX_ok rfl rfl (fun d g => said_impl_LeavesOf d.1 g) nilO_ok)))
def A_impl_RootOf : Ann := fun b => ⟨[], []⟩
theorem aP_impl_RootOf (f0 : (List TEntry) → (List Int)) (g0 : (List TEntry) → Bool) (f1 : (List Int) → Int) (g1 : (List Int) → Bool) (f2 : Int → Int → Int) (n : Nat) (a0 : (List TEntry)) : absF tab sigs (OP_impl_RootOf f0 g0 f1 g1 f2) A_impl_RootOf Tryz.f10 [((.int .i64), .no)] n [.val (.slice 29 TyEntry) a0] = impl_RootOf_P f0 g0 f1 g1 f2 (fun r0 => some [⟨(.int .i64), r0⟩])  a0 := by kernel_rfl
theorem said_impl_RootOf (a0 : (List TEntry)) (g : G.impl_RootOf a0 = true) : Said Tryz.prog sigs_10 10 [.val (.slice 29 TyEntry) a0] [⟨(.int .i64), N.impl_RootOf a0⟩] := said_len (T := tab) (A := A_impl_RootOf) tabOk ok_impl_RootOf tabOk.follows Tryz.func10 (by kernel_rfl) (by kernel_rfl) (fun hl => ⟨0, (aP_impl_RootOf N.impl_LeavesOf G.impl_LeavesOf N.impl_TopOf G.impl_TopOf N.impl_rootFrom 0 a0).trans (impl_RootOf_ok (ρ := Ret) (fun r0 => some [⟨(.int .i64), r0⟩]) a0 hl.1 g)⟩)
abbrev G.slices_Clone_int (a : List Int) : Bool := decide (a.length ≤ 1048576)
abbrev N.slices_Clone_int (a : List Int) : List Int := a
noncomputable def slices_Clone_int {ρ : Type} (k : (List Int) → Option ρ) (a0 : (List Int)) : Option ρ := (cond (List.isEmpty a0) (both (k []) (cond (fit (List.length ([] : (List Int))) (List.length a0)) (k (List.append ([] : (List Int)) a0)) none)) (cond (fit (List.length ([] : (List Int))) (List.length a0)) (k (List.append ([] : (List Int)) a0)) none))
theorem slices_Clone_int_ok {ρ : Type} (k : (List Int) → Option ρ) (a0 : (List Int)) (l_a0 : lnL (fun _ => True) a0) (g : G.slices_Clone_int a0 = true) : slices_Clone_int k  a0 = k (N.slices_Clone_int a0) := by
  unfold G.slices_Clone_int at g
  have h1 : fit (List.length ([] : List Int)) (List.length a0) = true := fit_of (by have := of_decide_eq_true g; simp; omega)
  unfold slices_Clone_int
  rw [h1]
  cases a0 with
  | nil => exact both_self _
  | cons x l => rfl
def O_slices_Clone_int : Orac := nilO
theorem ok_slices_Clone_int : OracOk Tryz.prog sigs O_slices_Clone_int := nilO_ok
def A_slices_Clone_int : Ann := fun b => ⟨[], []⟩
theorem a_slices_Clone_int (n : Nat) (a0 : (List Int)) : absF tab sigs O_slices_Clone_int A_slices_Clone_int Tryz.f113 [((.slice 3 (.int .i64)), (.own 0))] n [.val (.slice 3 (.int .i64)) a0] = slices_Clone_int (fun r0 => some [⟨(.slice 3 (.int .i64)), r0⟩])  a0 := by kernel_rfl
theorem said_slices_Clone_int (a0 : (List Int)) (g : G.slices_Clone_int a0 = true) : Said Tryz.prog sigs_113 113 [.val (.slice 3 (.int .i64)) a0] [⟨(.slice 3 (.int .i64)), N.slices_Clone_int a0⟩] := said_len (T := tab) (A := A_slices_Clone_int) tabOk ok_slices_Clone_int tabOk.follows Tryz.func113 (by kernel_rfl) (by kernel_rfl) (fun hl => ⟨0, (a_slices_Clone_int 0 a0).trans (slices_Clone_int_ok (ρ := Ret) (fun r0 => some [⟨(.slice 3 (.int .i64)), r0⟩]) a0 hl.1 g)⟩)
abbrev G.impl_copyKeys (a : TKeys) : Bool := decide (wK a ≤ 1048576)
abbrev N.impl_copyKeys (a : TKeys) : TKeys := a
def impl_copyKeys {ρ : Type} (k : TKeys → Option ρ) (a0 : TKeys) : Option ρ := (cond (G.slices_Clone_int a0.1) (k ((N.slices_Clone_int a0.1), a0.2)) none)
theorem impl_copyKeys_ok {ρ : Type} (k : TKeys → Option ρ) (a0 : TKeys) (l_a0 : (lnL (fun _ => True) a0.1 ∧ True)) (g : G.impl_copyKeys a0 = true) : impl_copyKeys k  a0 = k (N.impl_copyKeys a0) := by
  unfold G.impl_copyKeys at g
  show cond (decide (wK a0 ≤ 1048576)) _ none = _
  rw [g]
  rfl
def OP_impl_copyKeys (f0 : (List Int) → (List Int)) (g0 : (List Int) → Bool) : Orac := (orcX 113 [.val (.slice 3 (.int .i64))] (fun d => g0 d.1) (fun d => [⟨(.slice 3 (.int .i64)), f0 d.1⟩]) nilO)
def O_impl_copyKeys : Orac := OP_impl_copyKeys N.slices_Clone_int G.slices_Clone_int
def impl_copyKeys_P {ρ : Type} (f0 : (List Int) → (List Int)) (g0 : (List Int) → Bool) (k : TKeys → Option ρ) (a0 : TKeys) : Option ρ := (cond (g0 a0.1) (k ((f0 a0.1), a0.2)) none)
theorem ok_impl_copyKeys : OracOk Tryz.prog sigs O_impl_copyKeys := (orcX_ok rfl rfl (fun d g => said_slices_Clone_int d.1 g) nilO_ok)
def A_impl_copyKeys : Ann := fun b => ⟨[], []⟩
theorem aP_impl_copyKeys (f0 : (List Int) → (List Int)) (g0 : (List Int) → Bool) (n : Nat) (a0 : TKeys) : absF tab sigs (OP_impl_copyKeys f0 g0) A_impl_copyKeys Tryz.f62 [((.pair (.slice 3 (.int .i64)) (.int .i64)), (.pair (.own 0) .no))] n [.val (.pair (.slice 3 (.int .i64)) (.int .i64)) a0] = impl_copyKeys_P f0 g0 (fun r0 => some [⟨(.pair (.slice 3 (.int .i64)) (.int .i64)), r0⟩])  a0 := by kernel_rfl
theorem said_impl_copyKeys (a0 : TKeys) (g : G.impl_copyKeys a0 = true) : Said Tryz.prog sigs_62 62 [.val (.pair (.slice 3 (.int .i64)) (.int .i64)) a0] [⟨(.pair (.slice 3 (.int .i64)) (.int .i64)), N.impl_copyKeys a0⟩] := said_len (T := tab) (A := A_impl_copyKeys) tabOk ok_impl_copyKeys tabOk.follows Tryz.func62 (by kernel_rfl) (by kernel_rfl) (fun hl => ⟨0, (aP_impl_copyKeys N.slices_Clone_int G.slices_Clone_int 0 a0).trans (impl_copyKeys_ok (ρ := Ret) (fun r0 => some [⟨(.pair (.slice 3 (.int .i64)) (.int .i64)), r0⟩]) a0 hl.1 g)⟩)
abbrev G.impl_IsLabel (s : ByteArray) : Bool := decide (s.size ≤ 1048576)
abbrev N.impl_IsLabel (s : ByteArray) : Bool := isLabel s
def impl_IsLabel_P_L0 {ρ : Type} (f0 : Int → Int → Int → Bool) (k : Bool → Option ρ) (L0 : ByteArray → Int → Int → Option ρ) (v0_0 : ByteArray) (v0_1 : Int) (v0_2 : Int) : Option ρ := (cond (decide (v0_2 < v0_1)) (cond (inRange v0_2 (ByteArray.size v0_0)) (cond (decide ((bt v0_0 v0_2) ≥ (97 : Int))) (cond (decide ((bt v0_0 v0_2) ≤ (122 : Int))) (L0 v0_0 v0_1 (IntKind.wrap .i64 (v0_2 + (1 : Int)))) (cond (decide ((bt v0_0 v0_2) ≥ (48 : Int))) (cond (decide ((bt v0_0 v0_2) ≤ (57 : Int))) (L0 v0_0 v0_1 (IntKind.wrap .i64 (v0_2 + (1 : Int)))) (cond ((bt v0_0 v0_2) == (45 : Int)) (cond (decide (v0_2 > (0 : Int))) (cond (!(decide (v0_2 < (IntKind.wrap .i64 ((ByteArray.size v0_0 : Int) - (1 : Int)))))) (k false) (L0 v0_0 v0_1 (IntKind.wrap .i64 (v0_2 + (1 : Int))))) (k false)) (k false))) (cond ((bt v0_0 v0_2) == (45 : Int)) (cond (decide (v0_2 > (0 : Int))) (cond (!(decide (v0_2 < (IntKind.wrap .i64 ((ByteArray.size v0_0 : Int) - (1 : Int)))))) (k false) (L0 v0_0 v0_1 (IntKind.wrap .i64 (v0_2 + (1 : Int))))) (k false)) (k false)))) (cond (decide ((bt v0_0 v0_2) ≥ (48 : Int))) (cond (decide ((bt v0_0 v0_2) ≤ (57 : Int))) (L0 v0_0 v0_1 (IntKind.wrap .i64 (v0_2 + (1 : Int)))) (cond ((bt v0_0 v0_2) == (45 : Int)) (cond (decide (v0_2 > (0 : Int))) (cond (!(decide (v0_2 < (IntKind.wrap .i64 ((ByteArray.size v0_0 : Int) - (1 : Int)))))) (k false) (L0 v0_0 v0_1 (IntKind.wrap .i64 (v0_2 + (1 : Int))))) (k false)) (k false))) (cond ((bt v0_0 v0_2) == (45 : Int)) (cond (decide (v0_2 > (0 : Int))) (cond (!(decide (v0_2 < (IntKind.wrap .i64 ((ByteArray.size v0_0 : Int) - (1 : Int)))))) (k false) (L0 v0_0 v0_1 (IntKind.wrap .i64 (v0_2 + (1 : Int))))) (k false)) (k false)))) none) (k (f0 (ByteArray.size v0_0 : Int) (1 : Int) (8 : Int))))
def impl_IsLabel_P {ρ : Type} (f0 : Int → Int → Int → Bool) (k : Bool → Option ρ) (L0 : ByteArray → Int → Int → Option ρ) (a0 : ByteArray) : Option ρ := (L0 a0 (ByteArray.size a0 : Int) (0 : Int))
def impl_IsLabel_L0 {ρ : Type} (k : Bool → Option ρ) (L0 : ByteArray → Int → Int → Option ρ) (v0_0 : ByteArray) (v0_1 : Int) (v0_2 : Int) : Option ρ := impl_IsLabel_P_L0 N.impl_InRange k L0 v0_0 v0_1 v0_2
def impl_IsLabel {ρ : Type} (k : Bool → Option ρ) (L0 : ByteArray → Int → Int → Option ρ) (a0 : ByteArray) : Option ρ := impl_IsLabel_P N.impl_InRange k L0 a0
theorem impl_IsLabel_ok {ρ : Type} (k : Bool → Option ρ) (a0 : ByteArray) (g : G.impl_IsLabel a0 = true) : ∃ n0, ∀ n, n0 ≤ n → ∀ (L0 : Nat → ByteArray → Int → Int → Option ρ) (h0 : ∀ ( m : Nat) (v0_0 : ByteArray) (v0_1 : Int) (v0_2 : Int), L0 (m + 1) v0_0 v0_1 v0_2 = impl_IsLabel_L0 k (L0 m) v0_0 v0_1 v0_2), impl_IsLabel k (L0 n) a0 = k (N.impl_IsLabel a0) := by
  unfold G.impl_IsLabel at g
  have hlen : a0.size ≤ 1048576 := of_decide_eq_true g
  refine ⟨a0.size + 1, fun n hn L0 h0 => ?_⟩
  show L0 n a0 (a0.size : Int) 0 = k (isLabel a0)
  have hrun := raw_run0 (σ := Unit) (s := ()) (L := fun m i _ => L0 m a0 (a0.size : Int) i) (R := fun i _ c => impl_IsLabel_L0 k (fun _ _ i => c i ()) a0 (a0.size : Int) i) (fun m i s => h0 m a0 (a0.size : Int) i) a0.size (fun _ _ => True) (fun j _ => cond (labelBytes a0 (a0.size - j) j) (k (inR (a0.size : Int) 1 8)) (k false)) (fun j s c hj _ hc => ?_) (fun s c _ => ?_) hn trivial
  · refine hrun.trans ?_
    unfold isLabel
    rw [Nat.sub_zero]
    cases labelBytes a0 a0.size 0 <;> cases inR (a0.size : Int) 1 8 <;> rfl
  · obtain ⟨m, hm⟩ : ∃ m, a0.size - j = m + 1 := ⟨a0.size - j - 1, by omega⟩
    have hm2 : a0.size - (j + 1) = m := by omega
    have hc' := hc () trivial
    rw [hm2] at hc'
    have e1 : decide ((j : Int) < IntKind.wrap .i64 ((a0.size : Int) - 1)) = decide (j + 1 < a0.size) := by rw [wrap_id (by omega) (by omega)]; simp only [decide_eq_decide]; omega
    have e2 : decide ((j : Int) > 0) = decide (0 < j) := by simp only [decide_eq_decide]; omega
    rw [hm]
    unfold labelBytes okByte isLetter
    simp only [impl_IsLabel_L0, impl_IsLabel_P_L0, lt_nat, inRange_nat, decide_eq_true hj, cond_true, wrap_succ (j := j) (by unfold big; omega), hc', e1, e2, ge_iff_le, N.impl_InRange]
    generalize bt a0 (j : Int) = b
    cases decide (97 ≤ b) <;> cases decide (b ≤ 122) <;> cases decide (48 ≤ b) <;> cases decide (b ≤ 57) <;> cases b == 45 <;> cases decide (0 < j) <;> cases decide (j + 1 < a0.size) <;> rfl
  · rw [Nat.sub_self]
    simp [impl_IsLabel_L0, impl_IsLabel_P_L0, labelBytes]
def OP_impl_IsLabel (f0 : Int → Int → Int → Bool) : Orac := (orcX 45 [.val (.int .i64), .val (.int .i64), .val (.int .i64)] (fun d => true) (fun d => [⟨.bool, f0 d.1 d.2.1 d.2.2.1⟩]) nilO)
def O_impl_IsLabel : Orac := OP_impl_IsLabel N.impl_InRange
theorem ok_impl_IsLabel : OracOk Tryz.prog sigs O_impl_IsLabel := (orcX_ok rfl rfl (fun d g => said_impl_InRange d.1 d.2.1 d.2.2.1) nilO_ok)
def A_impl_IsLabel : Ann := fun b => cond (Nat.beq b 0) ⟨[(0, false), (6, false), (7, false)], []⟩ (⟨[], []⟩)
def S_impl_IsLabel_0 (v0_0 : ByteArray) (v0_1 : Int) (v0_2 : Int) : St := [(kT 0, some (.tv (.v .str v0_0 .no))), (kT 6, some (.tv (.v (.int .i64) v0_1 .no))), (kT 7, some (.tv (.v (.int .i64) v0_2 .no)))]
noncomputable def L_P_impl_IsLabel_0 (f0 : Int → Int → Int → Bool) (n m : Nat) : St → Option Ret := loopOf tab sigs (OP_impl_IsLabel f0) A_impl_IsLabel Tryz.f30 [(.bool, .no)] n (fun _ => 0) 0 m
theorem bP_impl_IsLabel_0 (f0 : Int → Int → Int → Bool) (n m : Nat) (v0_0 : ByteArray) (v0_1 : Int) (v0_2 : Int) : L_P_impl_IsLabel_0 f0 n (m + 1) (S_impl_IsLabel_0 v0_0 v0_1 v0_2) = impl_IsLabel_P_L0 f0 (fun r0 => some [⟨.bool, r0⟩]) (fun v0_0 v0_1 v0_2 => L_P_impl_IsLabel_0 f0 n m (S_impl_IsLabel_0 v0_0 v0_1 v0_2)) v0_0 v0_1 v0_2 := by kernel_rfl
theorem aP_impl_IsLabel (f0 : Int → Int → Int → Bool) (n : Nat) (a0 : ByteArray) : absF tab sigs (OP_impl_IsLabel f0) A_impl_IsLabel Tryz.f30 [(.bool, .no)] n [.val .str a0] = impl_IsLabel_P f0 (fun r0 => some [⟨.bool, r0⟩]) (fun v0_0 v0_1 v0_2 => L_P_impl_IsLabel_0 f0 n n (S_impl_IsLabel_0 v0_0 v0_1 v0_2)) a0 := by kernel_rfl
theorem said_impl_IsLabel (a0 : ByteArray) (g : G.impl_IsLabel a0 = true) : Said Tryz.prog sigs_30 30 [.val .str a0] [⟨.bool, N.impl_IsLabel a0⟩] := said_len (T := tab) (A := A_impl_IsLabel) tabOk ok_impl_IsLabel tabOk.follows Tryz.func30 (by kernel_rfl) (by kernel_rfl) (fun hl => let ⟨n, hn⟩ := impl_IsLabel_ok (ρ := Ret) (fun r0 => some [⟨.bool, r0⟩]) a0 g; ⟨n, (aP_impl_IsLabel N.impl_InRange n a0).trans (hn n (Nat.le_refl n) (fun  m v0_0 v0_1 v0_2 => L_P_impl_IsLabel_0 N.impl_InRange n  m (S_impl_IsLabel_0 v0_0 v0_1 v0_2)) (fun  m v0_0 v0_1 v0_2 => bP_impl_IsLabel_0 N.impl_InRange n  m v0_0 v0_1 v0_2))⟩)
abbrev N.impl_isDigest (n : Int) : Bool := isDigest n
def impl_isDigest {ρ : Type} (k : Bool → Option ρ) (a0 : Int) : Option ρ := (k (N.impl_InRange a0 (0 : Int) (2147483646 : Int)))
theorem impl_isDigest_ok {ρ : Type} (k : Bool → Option ρ) (a0 : Int) : impl_isDigest k  a0 = k (N.impl_isDigest a0) := by
  rfl
def OP_impl_isDigest (f0 : Int → Int → Int → Bool) : Orac := (orcX 45 [.val (.int .i64), .val (.int .i64), .val (.int .i64)] (fun d => true) (fun d => [⟨.bool, f0 d.1 d.2.1 d.2.2.1⟩]) nilO)
def O_impl_isDigest : Orac := OP_impl_isDigest N.impl_InRange
def impl_isDigest_P {ρ : Type} (f0 : Int → Int → Int → Bool) (k : Bool → Option ρ) (a0 : Int) : Option ρ := (k (f0 a0 (0 : Int) (2147483646 : Int)))
theorem ok_impl_isDigest : OracOk Tryz.prog sigs O_impl_isDigest := (orcX_ok rfl rfl (fun d g => said_impl_InRange d.1 d.2.1 d.2.2.1) nilO_ok)
def A_impl_isDigest : Ann := fun b => ⟨[], []⟩
theorem aP_impl_isDigest (f0 : Int → Int → Int → Bool) (n : Nat) (a0 : Int) : absF tab sigs (OP_impl_isDigest f0) A_impl_isDigest Tryz.f114 [(.bool, .no)] n [.val (.int .i64) a0] = impl_isDigest_P f0 (fun r0 => some [⟨.bool, r0⟩])  a0 := by kernel_rfl
theorem said_impl_isDigest (a0 : Int) : Said Tryz.prog sigs_114 114 [.val (.int .i64) a0] [⟨.bool, N.impl_isDigest a0⟩] := said_len (T := tab) (A := A_impl_isDigest) tabOk ok_impl_isDigest tabOk.follows Tryz.func114 (by kernel_rfl) (by kernel_rfl) (fun hl => ⟨0, (aP_impl_isDigest N.impl_InRange 0 a0).trans (impl_isDigest_ok (ρ := Ret) (fun r0 => some [⟨.bool, r0⟩]) a0)⟩)
abbrev G.impl_IsPath_s1 (s : ByteArray) : Bool := decide (s.size ≤ 1048576)
abbrev N.impl_IsPath_s1 (s : ByteArray) : Bool := !(isLabel s)
def impl_IsPath_s1 {ρ : Type} (k : Bool → Option ρ) (a0 : ByteArray) : Option ρ := (cond (G.impl_IsLabel a0) (k (!(N.impl_IsLabel a0))) none)
theorem impl_IsPath_s1_ok {ρ : Type} (k : Bool → Option ρ) (a0 : ByteArray) (g : G.impl_IsPath_s1 a0 = true) : impl_IsPath_s1 k  a0 = k (N.impl_IsPath_s1 a0) := by
  unfold G.impl_IsPath_s1 at g
  show cond (decide (a0.size ≤ 1048576)) _ none = _
  rw [g]
  rfl
def OP_impl_IsPath_s1 (f0 : ByteArray → Bool) (g0 : ByteArray → Bool) : Orac := (orcX 30 [.val .str] (fun d => g0 d.1) (fun d => [⟨.bool, f0 d.1⟩]) nilO)
def O_impl_IsPath_s1 : Orac := OP_impl_IsPath_s1 N.impl_IsLabel G.impl_IsLabel
def impl_IsPath_s1_P {ρ : Type} (f0 : ByteArray → Bool) (g0 : ByteArray → Bool) (k : Bool → Option ρ) (a0 : ByteArray) : Option ρ := (cond (g0 a0) (k (!(f0 a0))) none)
theorem ok_impl_IsPath_s1 : OracOk Tryz.prog sigs O_impl_IsPath_s1 := (orcX_ok rfl rfl (fun d g => said_impl_IsLabel d.1 g) nilO_ok)
def A_impl_IsPath_s1 : Ann := fun b => ⟨[], []⟩
theorem aP_impl_IsPath_s1 (f0 : ByteArray → Bool) (g0 : ByteArray → Bool) (n : Nat) (a0 : ByteArray) : absF tab sigs (OP_impl_IsPath_s1 f0 g0) A_impl_IsPath_s1 Tryz.f164 [(.bool, .no)] n [.val .str a0] = impl_IsPath_s1_P f0 g0 (fun r0 => some [⟨.bool, r0⟩])  a0 := by kernel_rfl
theorem said_impl_IsPath_s1 (a0 : ByteArray) (g : G.impl_IsPath_s1 a0 = true) : Said Tryz.prog sigs_164 164 [.val .str a0] [⟨.bool, N.impl_IsPath_s1 a0⟩] := said_len (T := tab) (A := A_impl_IsPath_s1) tabOk ok_impl_IsPath_s1 tabOk.follows Tryz.func164 (by kernel_rfl) (by kernel_rfl) (fun hl => ⟨0, (aP_impl_IsPath_s1 N.impl_IsLabel G.impl_IsLabel 0 a0).trans (impl_IsPath_s1_ok (ρ := Ret) (fun r0 => some [⟨.bool, r0⟩]) a0 g)⟩)
abbrev G.slices_IndexFunc_string__impl_IsPath_s1 (p : List ByteArray) : Bool := decide (wP p ≤ 1048576)
abbrev N.slices_IndexFunc_string__impl_IsPath_s1 (p : List ByteArray) : Int := idxFrom (fun s => !(isLabel s)) 0 p
def slices_IndexFunc_string__impl_IsPath_s1_P_L0 {ρ : Type} (f0 : ByteArray → Bool) (g0 : ByteArray → Bool) (k : Int → Option ρ) (L0 : (List ByteArray) → Int → Int → Option ρ) (v0_0 : (List ByteArray)) (v0_1 : Int) (v0_2 : Int) : Option ρ := (cond (decide (v0_2 < v0_1)) (cond (inRange v0_2 (List.length v0_0)) (cond (g0 (List.getD v0_0 (Int.toNat v0_2) ByteArray.empty)) (cond (f0 (List.getD v0_0 (Int.toNat v0_2) ByteArray.empty)) (k v0_2) (L0 v0_0 v0_1 (IntKind.wrap .i64 (v0_2 + (1 : Int))))) none) none) (k (-1 : Int)))
def slices_IndexFunc_string__impl_IsPath_s1_P {ρ : Type} (f0 : ByteArray → Bool) (g0 : ByteArray → Bool) (k : Int → Option ρ) (L0 : (List ByteArray) → Int → Int → Option ρ) (a0 : (List ByteArray)) : Option ρ := (L0 a0 (List.length a0 : Int) (0 : Int))
def slices_IndexFunc_string__impl_IsPath_s1_L0 {ρ : Type} (k : Int → Option ρ) (L0 : (List ByteArray) → Int → Int → Option ρ) (v0_0 : (List ByteArray)) (v0_1 : Int) (v0_2 : Int) : Option ρ := slices_IndexFunc_string__impl_IsPath_s1_P_L0 N.impl_IsPath_s1 G.impl_IsPath_s1 k L0 v0_0 v0_1 v0_2
def slices_IndexFunc_string__impl_IsPath_s1 {ρ : Type} (k : Int → Option ρ) (L0 : (List ByteArray) → Int → Int → Option ρ) (a0 : (List ByteArray)) : Option ρ := slices_IndexFunc_string__impl_IsPath_s1_P N.impl_IsPath_s1 G.impl_IsPath_s1 k L0 a0
theorem slices_IndexFunc_string__impl_IsPath_s1_ok {ρ : Type} (k : Int → Option ρ) (a0 : (List ByteArray)) (l_a0 : lnL (fun _ => True) a0) (g : G.slices_IndexFunc_string__impl_IsPath_s1 a0 = true) : ∃ n0, ∀ n, n0 ≤ n → ∀ (L0 : Nat → (List ByteArray) → Int → Int → Option ρ) (h0 : ∀ ( m : Nat) (v0_0 : (List ByteArray)) (v0_1 : Int) (v0_2 : Int), L0 (m + 1) v0_0 v0_1 v0_2 = slices_IndexFunc_string__impl_IsPath_s1_L0 k (L0 m) v0_0 v0_1 v0_2), slices_IndexFunc_string__impl_IsPath_s1 k (L0 n) a0 = k (N.slices_IndexFunc_string__impl_IsPath_s1 a0) := by
  unfold G.slices_IndexFunc_string__impl_IsPath_s1 at g
  have hw : wP a0 ≤ 1048576 := of_decide_eq_true g
  have hl : a0.length ≤ 1048576 := by unfold wP at hw; omega
  refine ⟨a0.length + 1, fun n hn L0 h0 => ?_⟩
  refine raw_idx (a := a0) ByteArray.empty (fun s => !(isLabel s)) (k := k) (σ := Unit) (s := ()) (L := fun m i _ => L0 m a0 (a0.length : Int) i) (R := fun i s c => slices_IndexFunc_string__impl_IsPath_s1_L0 k (fun _ _ i => c i ()) a0 (a0.length : Int) i) (fun m i s => h0 m a0 (a0.length : Int) i) (fun j s c hj => ?_) (fun s c => ?_) hn
  · have hm := wP_mem (getD_mem (d := ByteArray.empty) hj)
    have g2 : decide ((a0.getD j ByteArray.empty).size ≤ 1048576) = true := by simp only [decide_eq_true_eq]; omega
    simp only [slices_IndexFunc_string__impl_IsPath_s1_L0, slices_IndexFunc_string__impl_IsPath_s1_P_L0, lt_nat, inRange_nat, decide_eq_true hj, cond_true, Int.toNat_natCast, G.impl_IsPath_s1, N.impl_IsPath_s1, g2, wrap_succ (j := j) (by unfold big; omega)]
  · simp [slices_IndexFunc_string__impl_IsPath_s1_L0, slices_IndexFunc_string__impl_IsPath_s1_P_L0]
def OP_slices_IndexFunc_string__impl_IsPath_s1 (f0 : ByteArray → Bool) (g0 : ByteArray → Bool) : Orac := (orcX 164 [.val .str] (fun d => g0 d.1) (fun d => [⟨.bool, f0 d.1⟩]) nilO)
def O_slices_IndexFunc_string__impl_IsPath_s1 : Orac := OP_slices_IndexFunc_string__impl_IsPath_s1 N.impl_IsPath_s1 G.impl_IsPath_s1
theorem ok_slices_IndexFunc_string__impl_IsPath_s1 : OracOk Tryz.prog sigs O_slices_IndexFunc_string__impl_IsPath_s1 := (orcX_ok rfl rfl (fun d g => said_impl_IsPath_s1 d.1 g) nilO_ok)
def A_slices_IndexFunc_string__impl_IsPath_s1 : Ann := fun b => cond (Nat.beq b 0) ⟨[(0, false), (1, false), (7, false), (8, false)], []⟩ (⟨[], []⟩)
def S_slices_IndexFunc_string__impl_IsPath_s1_0 (v0_0 : (List ByteArray)) (v0_1 : Int) (v0_2 : Int) : St := [(kT 0, some (.tv (.v (.slice 9 .str) v0_0 .no))), (kT 1, some (.tv (.clo 164 []))), (kT 7, some (.tv (.v (.int .i64) v0_1 .no))), (kT 8, some (.tv (.v (.int .i64) v0_2 .no)))]
noncomputable def L_P_slices_IndexFunc_string__impl_IsPath_s1_0 (f0 : ByteArray → Bool) (g0 : ByteArray → Bool) (n m : Nat) : St → Option Ret := loopOf tab sigs (OP_slices_IndexFunc_string__impl_IsPath_s1 f0 g0) A_slices_IndexFunc_string__impl_IsPath_s1 Tryz.f170 [((.int .i64), .no)] n (fun _ => 0) 0 m
theorem bP_slices_IndexFunc_string__impl_IsPath_s1_0 (f0 : ByteArray → Bool) (g0 : ByteArray → Bool) (n m : Nat) (v0_0 : (List ByteArray)) (v0_1 : Int) (v0_2 : Int) : L_P_slices_IndexFunc_string__impl_IsPath_s1_0 f0 g0 n (m + 1) (S_slices_IndexFunc_string__impl_IsPath_s1_0 v0_0 v0_1 v0_2) = slices_IndexFunc_string__impl_IsPath_s1_P_L0 f0 g0 (fun r0 => some [⟨(.int .i64), r0⟩]) (fun v0_0 v0_1 v0_2 => L_P_slices_IndexFunc_string__impl_IsPath_s1_0 f0 g0 n m (S_slices_IndexFunc_string__impl_IsPath_s1_0 v0_0 v0_1 v0_2)) v0_0 v0_1 v0_2 := by kernel_rfl
theorem aP_slices_IndexFunc_string__impl_IsPath_s1 (f0 : ByteArray → Bool) (g0 : ByteArray → Bool) (n : Nat) (a0 : (List ByteArray)) : absF tab sigs (OP_slices_IndexFunc_string__impl_IsPath_s1 f0 g0) A_slices_IndexFunc_string__impl_IsPath_s1 Tryz.f170 [((.int .i64), .no)] n [.val (.slice 9 .str) a0, .clo 164 []] = slices_IndexFunc_string__impl_IsPath_s1_P f0 g0 (fun r0 => some [⟨(.int .i64), r0⟩]) (fun v0_0 v0_1 v0_2 => L_P_slices_IndexFunc_string__impl_IsPath_s1_0 f0 g0 n n (S_slices_IndexFunc_string__impl_IsPath_s1_0 v0_0 v0_1 v0_2)) a0 := by kernel_rfl
theorem said_slices_IndexFunc_string__impl_IsPath_s1 (a0 : (List ByteArray)) (g : G.slices_IndexFunc_string__impl_IsPath_s1 a0 = true) : Said Tryz.prog sigs_170 170 [.val (.slice 9 .str) a0, .clo 164 []] [⟨(.int .i64), N.slices_IndexFunc_string__impl_IsPath_s1 a0⟩] := said_len (T := tab) (A := A_slices_IndexFunc_string__impl_IsPath_s1) tabOk ok_slices_IndexFunc_string__impl_IsPath_s1 tabOk.follows Tryz.func170 (by kernel_rfl) (by kernel_rfl) (fun hl => let ⟨n, hn⟩ := slices_IndexFunc_string__impl_IsPath_s1_ok (ρ := Ret) (fun r0 => some [⟨(.int .i64), r0⟩]) a0 hl.1 g; ⟨n, (aP_slices_IndexFunc_string__impl_IsPath_s1 N.impl_IsPath_s1 G.impl_IsPath_s1 n a0).trans (hn n (Nat.le_refl n) (fun  m v0_0 v0_1 v0_2 => L_P_slices_IndexFunc_string__impl_IsPath_s1_0 N.impl_IsPath_s1 G.impl_IsPath_s1 n  m (S_slices_IndexFunc_string__impl_IsPath_s1_0 v0_0 v0_1 v0_2)) (fun  m v0_0 v0_1 v0_2 => bP_slices_IndexFunc_string__impl_IsPath_s1_0 N.impl_IsPath_s1 G.impl_IsPath_s1 n  m v0_0 v0_1 v0_2))⟩)
abbrev G.slices_ContainsFunc_string__impl_IsPath_s1 (p : List ByteArray) : Bool := decide (wP p ≤ 1048576)
abbrev N.slices_ContainsFunc_string__impl_IsPath_s1 (p : List ByteArray) : Bool := p.any (fun s => !(isLabel s))
def slices_ContainsFunc_string__impl_IsPath_s1 {ρ : Type} (k : Bool → Option ρ) (a0 : (List ByteArray)) : Option ρ := (cond (G.slices_IndexFunc_string__impl_IsPath_s1 a0) (k (decide ((N.slices_IndexFunc_string__impl_IsPath_s1 a0) ≥ (0 : Int)))) none)
theorem slices_ContainsFunc_string__impl_IsPath_s1_ok {ρ : Type} (k : Bool → Option ρ) (a0 : (List ByteArray)) (l_a0 : lnL (fun _ => True) a0) (g : G.slices_ContainsFunc_string__impl_IsPath_s1 a0 = true) : slices_ContainsFunc_string__impl_IsPath_s1 k  a0 = k (N.slices_ContainsFunc_string__impl_IsPath_s1 a0) := by
  unfold G.slices_ContainsFunc_string__impl_IsPath_s1 at g
  show cond (decide (wP a0 ≤ 1048576)) _ none = _
  rw [g]
  show k (decide (idxFrom (fun s => !(isLabel s)) 0 a0 ≥ 0)) = _
  rw [idxFrom_any]
def OP_slices_ContainsFunc_string__impl_IsPath_s1 (f0 : (List ByteArray) → Int) (g0 : (List ByteArray) → Bool) : Orac := (orcX 170 [.val (.slice 9 .str), .clo 164 []] (fun d => g0 d.1) (fun d => [⟨(.int .i64), f0 d.1⟩]) nilO)
def O_slices_ContainsFunc_string__impl_IsPath_s1 : Orac := OP_slices_ContainsFunc_string__impl_IsPath_s1 N.slices_IndexFunc_string__impl_IsPath_s1 G.slices_IndexFunc_string__impl_IsPath_s1
def slices_ContainsFunc_string__impl_IsPath_s1_P {ρ : Type} (f0 : (List ByteArray) → Int) (g0 : (List ByteArray) → Bool) (k : Bool → Option ρ) (a0 : (List ByteArray)) : Option ρ := (cond (g0 a0) (k (decide ((f0 a0) ≥ (0 : Int)))) none)
theorem ok_slices_ContainsFunc_string__impl_IsPath_s1 : OracOk Tryz.prog sigs O_slices_ContainsFunc_string__impl_IsPath_s1 := (orcX_ok rfl rfl (fun d g => said_slices_IndexFunc_string__impl_IsPath_s1 d.1 g) nilO_ok)
def A_slices_ContainsFunc_string__impl_IsPath_s1 : Ann := fun b => ⟨[], []⟩
theorem aP_slices_ContainsFunc_string__impl_IsPath_s1 (f0 : (List ByteArray) → Int) (g0 : (List ByteArray) → Bool) (n : Nat) (a0 : (List ByteArray)) : absF tab sigs (OP_slices_ContainsFunc_string__impl_IsPath_s1 f0 g0) A_slices_ContainsFunc_string__impl_IsPath_s1 Tryz.f163 [(.bool, .no)] n [.val (.slice 9 .str) a0, .clo 164 []] = slices_ContainsFunc_string__impl_IsPath_s1_P f0 g0 (fun r0 => some [⟨.bool, r0⟩])  a0 := by kernel_rfl
theorem said_slices_ContainsFunc_string__impl_IsPath_s1 (a0 : (List ByteArray)) (g : G.slices_ContainsFunc_string__impl_IsPath_s1 a0 = true) : Said Tryz.prog sigs_163 163 [.val (.slice 9 .str) a0, .clo 164 []] [⟨.bool, N.slices_ContainsFunc_string__impl_IsPath_s1 a0⟩] := said_len (T := tab) (A := A_slices_ContainsFunc_string__impl_IsPath_s1) tabOk ok_slices_ContainsFunc_string__impl_IsPath_s1 tabOk.follows Tryz.func163 (by kernel_rfl) (by kernel_rfl) (fun hl => ⟨0, (aP_slices_ContainsFunc_string__impl_IsPath_s1 N.slices_IndexFunc_string__impl_IsPath_s1 G.slices_IndexFunc_string__impl_IsPath_s1 0 a0).trans (slices_ContainsFunc_string__impl_IsPath_s1_ok (ρ := Ret) (fun r0 => some [⟨.bool, r0⟩]) a0 hl.1 g)⟩)
abbrev G.impl_IsPath (p : List ByteArray) : Bool := decide (wP p ≤ 1048576)
abbrev N.impl_IsPath (p : List ByteArray) : Bool := isPath p
def impl_IsPath {ρ : Type} (k : Bool → Option ρ) (a0 : (List ByteArray)) : Option ρ := (cond (N.impl_InRange (List.length a0 : Int) (1 : Int) (4 : Int)) (cond (G.slices_ContainsFunc_string__impl_IsPath_s1 a0) (k (!(N.slices_ContainsFunc_string__impl_IsPath_s1 a0))) none) (k false))
theorem impl_IsPath_ok {ρ : Type} (k : Bool → Option ρ) (a0 : (List ByteArray)) (l_a0 : lnL (fun _ => True) a0) (g : G.impl_IsPath a0 = true) : impl_IsPath k  a0 = k (N.impl_IsPath a0) := by
  unfold G.impl_IsPath at g
  show cond (inR (a0.length : Int) 1 4) (cond (decide (wP a0 ≤ 1048576)) (k (!(a0.any (fun s => !(isLabel s))))) none) (k false) = k (inR (a0.length : Int) 1 4 && a0.all isLabel)
  rw [g, any_not]
  cases inR (a0.length : Int) 1 4 <;> rfl
def OP_impl_IsPath (f0 : Int → Int → Int → Bool) (f1 : (List ByteArray) → Bool) (g1 : (List ByteArray) → Bool) : Orac := (orcX 163 [.val (.slice 9 .str), .clo 164 []] (fun d => g1 d.1) (fun d => [⟨.bool, f1 d.1⟩]) (orcX 45 [.val (.int .i64), .val (.int .i64), .val (.int .i64)] (fun d => true) (fun d => [⟨.bool, f0 d.1 d.2.1 d.2.2.1⟩]) nilO))
def O_impl_IsPath : Orac := OP_impl_IsPath N.impl_InRange N.slices_ContainsFunc_string__impl_IsPath_s1 G.slices_ContainsFunc_string__impl_IsPath_s1
def impl_IsPath_P {ρ : Type} (f0 : Int → Int → Int → Bool) (f1 : (List ByteArray) → Bool) (g1 : (List ByteArray) → Bool) (k : Bool → Option ρ) (a0 : (List ByteArray)) : Option ρ := (cond (f0 (List.length a0 : Int) (1 : Int) (4 : Int)) (cond (g1 a0) (k (!(f1 a0))) none) (k false))
theorem ok_impl_IsPath : OracOk Tryz.prog sigs O_impl_IsPath := (orcX_ok rfl rfl (fun d g => said_slices_ContainsFunc_string__impl_IsPath_s1 d.1 g) (orcX_ok rfl rfl (fun d g => said_impl_InRange d.1 d.2.1 d.2.2.1) nilO_ok))
def A_impl_IsPath : Ann := fun b => ⟨[], []⟩
theorem aP_impl_IsPath (f0 : Int → Int → Int → Bool) (f1 : (List ByteArray) → Bool) (g1 : (List ByteArray) → Bool) (n : Nat) (a0 : (List ByteArray)) : absF tab sigs (OP_impl_IsPath f0 f1 g1) A_impl_IsPath Tryz.f137 [(.bool, .no)] n [.val (.slice 9 .str) a0] = impl_IsPath_P f0 f1 g1 (fun r0 => some [⟨.bool, r0⟩])  a0 := by kernel_rfl
theorem said_impl_IsPath (a0 : (List ByteArray)) (g : G.impl_IsPath a0 = true) : Said Tryz.prog sigs_137 137 [.val (.slice 9 .str) a0] [⟨.bool, N.impl_IsPath a0⟩] := said_len (T := tab) (A := A_impl_IsPath) tabOk ok_impl_IsPath tabOk.follows Tryz.func137 (by kernel_rfl) (by kernel_rfl) (fun hl => ⟨0, (aP_impl_IsPath N.impl_InRange N.slices_ContainsFunc_string__impl_IsPath_s1 G.slices_ContainsFunc_string__impl_IsPath_s1 0 a0).trans (impl_IsPath_ok (ρ := Ret) (fun r0 => some [⟨.bool, r0⟩]) a0 hl.1 g)⟩)
abbrev G.impl_IsEntry (e : TEntry) : Bool := decide (wE e ≤ 1048576)
abbrev N.impl_IsEntry (e : TEntry) : Bool := isEntry e
def impl_IsEntry_P {ρ : Type} (f0 : ByteArray → Bool) (g0 : ByteArray → Bool) (f1 : Int → Int → Int → Bool) (f2 : Int → Bool) (f3 : (List ByteArray) → Bool) (g3 : (List ByteArray) → Bool) (k : Bool → Option ρ) (a0 : TEntry) : Option ρ := (cond (g0 a0.1) (cond (!(f0 a0.1)) (k false) (cond (a0.2.1 == (1 : Int)) (cond (f1 a0.2.2.1 (0 : Int) (999999 : Int)) (k ((List.length a0.2.2.2 : Int) == (0 : Int))) (k false)) (cond (a0.2.1 == (2 : Int)) (cond (f2 a0.2.2.1) (k ((List.length a0.2.2.2 : Int) == (0 : Int))) (k false)) (cond (a0.2.1 == (3 : Int)) (cond (f2 a0.2.2.1) (cond (g3 a0.2.2.2) (k (f3 a0.2.2.2)) none) (k false)) (k false))))) none)
def impl_IsEntry {ρ : Type} (k : Bool → Option ρ) (a0 : TEntry) : Option ρ := impl_IsEntry_P N.impl_IsLabel G.impl_IsLabel N.impl_InRange N.impl_isDigest N.impl_IsPath G.impl_IsPath k a0
theorem impl_IsEntry_ok {ρ : Type} (k : Bool → Option ρ) (a0 : TEntry) (l_a0 : (True ∧ (True ∧ (True ∧ lnL (fun _ => True) a0.2.2.2)))) (g : G.impl_IsEntry a0 = true) : impl_IsEntry k  a0 = k (N.impl_IsEntry a0) := by
  unfold G.impl_IsEntry at g
  have hw : wE a0 ≤ 1048576 := of_decide_eq_true g
  have g1 : decide (a0.1.size ≤ 1048576) = true := by unfold wE at hw; simp; omega
  have g2 : decide (wP a0.2.2.2 ≤ 1048576) = true := by unfold wE at hw; simp; omega
  simp only [impl_IsEntry, impl_IsEntry_P, G.impl_IsLabel, N.impl_IsLabel, G.impl_IsPath, N.impl_IsPath, N.impl_InRange, N.impl_isDigest, g1, g2, cond_true, isEntry]
  by_cases h1 : a0.2.1 = 1
  · have e1 : (a0.2.1 == 1) = true := by simp [h1]
    have e2 : (a0.2.1 == 2) = false := by simp [h1]
    have e3 : (a0.2.1 == 3) = false := by simp [h1]
    simp only [e1, e2, e3]
    cases isLabel a0.1 <;> cases inR a0.2.2.1 0 999999 <;> simp
  by_cases h2 : a0.2.1 = 2
  · have e1 : (a0.2.1 == 1) = false := by simp [h2]
    have e2 : (a0.2.1 == 2) = true := by simp [h2]
    have e3 : (a0.2.1 == 3) = false := by simp [h2]
    simp only [e1, e2, e3]
    cases isLabel a0.1 <;> cases isDigest a0.2.2.1 <;> simp
  have e1 : (a0.2.1 == 1) = false := by simp [h1]
  have e2 : (a0.2.1 == 2) = false := by simp [h2]
  simp only [e1, e2]
  cases a0.2.1 == 3 <;> cases isLabel a0.1 <;> cases isDigest a0.2.2.1 <;> simp
def OP_impl_IsEntry (f0 : ByteArray → Bool) (g0 : ByteArray → Bool) (f1 : Int → Int → Int → Bool) (f2 : Int → Bool) (f3 : (List ByteArray) → Bool) (g3 : (List ByteArray) → Bool) : Orac := (orcX 137 [.val (.slice 9 .str)] (fun d => g3 d.1) (fun d => [⟨.bool, f3 d.1⟩]) (orcX 114 [.val (.int .i64)] (fun d => true) (fun d => [⟨.bool, f2 d.1⟩]) (orcX 45 [.val (.int .i64), .val (.int .i64), .val (.int .i64)] (fun d => true) (fun d => [⟨.bool, f1 d.1 d.2.1 d.2.2.1⟩]) (orcX 30 [.val .str] (fun d => g0 d.1) (fun d => [⟨.bool, f0 d.1⟩]) nilO))))
def O_impl_IsEntry : Orac := OP_impl_IsEntry N.impl_IsLabel G.impl_IsLabel N.impl_InRange N.impl_isDigest N.impl_IsPath G.impl_IsPath
theorem ok_impl_IsEntry : OracOk Tryz.prog sigs O_impl_IsEntry := (orcX_ok rfl rfl (fun d g => said_impl_IsPath d.1 g) (orcX_ok rfl rfl (fun d g => said_impl_isDigest d.1) (orcX_ok rfl rfl (fun d g => said_impl_InRange d.1 d.2.1 d.2.2.1) (orcX_ok rfl rfl (fun d g => said_impl_IsLabel d.1 g) nilO_ok))))
def A_impl_IsEntry : Ann := fun b => ⟨[], []⟩
theorem aP_impl_IsEntry (f0 : ByteArray → Bool) (g0 : ByteArray → Bool) (f1 : Int → Int → Int → Bool) (f2 : Int → Bool) (f3 : (List ByteArray) → Bool) (g3 : (List ByteArray) → Bool) (n : Nat) (a0 : TEntry) : absF tab sigs (OP_impl_IsEntry f0 g0 f1 f2 f3 g3) A_impl_IsEntry Tryz.f80 [(.bool, .no)] n [.val TyEntry a0] = impl_IsEntry_P f0 g0 f1 f2 f3 g3 (fun r0 => some [⟨.bool, r0⟩])  a0 := by kernel_rfl
theorem said_impl_IsEntry (a0 : TEntry) (g : G.impl_IsEntry a0 = true) : Said Tryz.prog sigs_80 80 [.val TyEntry a0] [⟨.bool, N.impl_IsEntry a0⟩] := said_len (T := tab) (A := A_impl_IsEntry) tabOk ok_impl_IsEntry tabOk.follows Tryz.func80 (by kernel_rfl) (by kernel_rfl) (fun hl => ⟨0, (aP_impl_IsEntry N.impl_IsLabel G.impl_IsLabel N.impl_InRange N.impl_isDigest N.impl_IsPath G.impl_IsPath 0 a0).trans (impl_IsEntry_ok (ρ := Ret) (fun r0 => some [⟨.bool, r0⟩]) a0 hl.1 g)⟩)
abbrev N.internal_bytealg_CompareString (a b : ByteArray) : Int := cmpStr a b
-- HAND
open Go.Proofs.YthgbcbnmdioknaaGreat in
theorem calls_cmp (a b : ByteArray) (w : World) : Calls Tryz.prog 143 #[.string a, .string b] w fun e w' => e = .returned (.int .i64 (Lib.compareBytes a.data.toList b.data.toList)) ∧ w' = w := by
  go_enter Tryz.func143, Tryz.ntmps143
  go_wp2
  rw [run_callFunc_extern Tryz.func166 (by kernel_rfl) (by kernel_rfl) (by kernel_rfl) (e := Extern.BytealgCompare.compare) (by kernel_rfl), Lib.run_compareString]
  simp only [Result.andThen]
  rw [Oper.upon_value]
  go_wp2
  go_ret
  exact ⟨rfl, rfl⟩
theorem said_internal_bytealg_CompareString (a0 a1 : ByteArray) : Said Tryz.prog sigs_143 143 [.val .str a0, .val .str a1] [⟨.int .i64, N.internal_bytealg_CompareString a0 a1⟩] :=
  said_int Tryz.func143 (by kernel_rfl) (by kernel_rfl) (fun w ok vs h => by
    obtain ⟨v0, vs0, rfl, h0, v1, vs1, rfl, h1, rfl⟩ := h
    rw [avr_str h0, avr_str h1, show N.internal_bytealg_CompareString a0 a1 = _ from (cmp_data a0 a1).symm]
    exact calls_cmp a0 a1 w)

abbrev N.strings_Compare (a b : ByteArray) : Int := cmpStr a b
def strings_Compare {ρ : Type} (k : Int → Option ρ) (a0 : ByteArray) (a1 : ByteArray) : Option ρ := (k (N.internal_bytealg_CompareString a0 a1))
theorem strings_Compare_ok {ρ : Type} (k : Int → Option ρ) (a0 : ByteArray) (a1 : ByteArray) : strings_Compare k  a0 a1 = k (N.strings_Compare a0 a1) := by
  rfl
def OP_strings_Compare (f0 : ByteArray → ByteArray → Int) : Orac := (orcX 143 [.val .str, .val .str] (fun d => true) (fun d => [⟨(.int .i64), f0 d.1 d.2.1⟩]) nilO)
def O_strings_Compare : Orac := OP_strings_Compare N.internal_bytealg_CompareString
def strings_Compare_P {ρ : Type} (f0 : ByteArray → ByteArray → Int) (k : Int → Option ρ) (a0 : ByteArray) (a1 : ByteArray) : Option ρ := (k (f0 a0 a1))
theorem ok_strings_Compare : OracOk Tryz.prog sigs O_strings_Compare := (orcX_ok rfl rfl (fun d g => said_internal_bytealg_CompareString d.1 d.2.1) nilO_ok)
def A_strings_Compare : Ann := fun b => ⟨[], []⟩
theorem aP_strings_Compare (f0 : ByteArray → ByteArray → Int) (n : Nat) (a0 : ByteArray) (a1 : ByteArray) : absF tab sigs (OP_strings_Compare f0) A_strings_Compare Tryz.f97 [((.int .i64), .no)] n [.val .str a0, .val .str a1] = strings_Compare_P f0 (fun r0 => some [⟨(.int .i64), r0⟩])  a0 a1 := by kernel_rfl
theorem said_strings_Compare (a0 : ByteArray) (a1 : ByteArray) : Said Tryz.prog sigs_97 97 [.val .str a0, .val .str a1] [⟨(.int .i64), N.strings_Compare a0 a1⟩] := said_len (T := tab) (A := A_strings_Compare) tabOk ok_strings_Compare tabOk.follows Tryz.func97 (by kernel_rfl) (by kernel_rfl) (fun hl => ⟨0, (aP_strings_Compare N.internal_bytealg_CompareString 0 a0 a1).trans (strings_Compare_ok (ρ := Ret) (fun r0 => some [⟨(.int .i64), r0⟩]) a0 a1)⟩)
abbrev N.impl_CompareLabels (a b : ByteArray) : Int := cmpStr a b
def impl_CompareLabels {ρ : Type} (k : Int → Option ρ) (a0 : ByteArray) (a1 : ByteArray) : Option ρ := (k (N.strings_Compare a0 a1))
theorem impl_CompareLabels_ok {ρ : Type} (k : Int → Option ρ) (a0 : ByteArray) (a1 : ByteArray) : impl_CompareLabels k  a0 a1 = k (N.impl_CompareLabels a0 a1) := by
  rfl
def OP_impl_CompareLabels (f0 : ByteArray → ByteArray → Int) : Orac := (orcX 97 [.val .str, .val .str] (fun d => true) (fun d => [⟨(.int .i64), f0 d.1 d.2.1⟩]) nilO)
def O_impl_CompareLabels : Orac := OP_impl_CompareLabels N.strings_Compare
def impl_CompareLabels_P {ρ : Type} (f0 : ByteArray → ByteArray → Int) (k : Int → Option ρ) (a0 : ByteArray) (a1 : ByteArray) : Option ρ := (k (f0 a0 a1))
theorem ok_impl_CompareLabels : OracOk Tryz.prog sigs O_impl_CompareLabels := (orcX_ok rfl rfl (fun d g => said_strings_Compare d.1 d.2.1) nilO_ok)
def A_impl_CompareLabels : Ann := fun b => ⟨[], []⟩
theorem aP_impl_CompareLabels (f0 : ByteArray → ByteArray → Int) (n : Nat) (a0 : ByteArray) (a1 : ByteArray) : absF tab sigs (OP_impl_CompareLabels f0) A_impl_CompareLabels Tryz.f47 [((.int .i64), .no)] n [.val .str a0, .val .str a1] = impl_CompareLabels_P f0 (fun r0 => some [⟨(.int .i64), r0⟩])  a0 a1 := by kernel_rfl
theorem said_impl_CompareLabels (a0 : ByteArray) (a1 : ByteArray) : Said Tryz.prog sigs_47 47 [.val .str a0, .val .str a1] [⟨(.int .i64), N.impl_CompareLabels a0 a1⟩] := said_len (T := tab) (A := A_impl_CompareLabels) tabOk ok_impl_CompareLabels tabOk.follows Tryz.func47 (by kernel_rfl) (by kernel_rfl) (fun hl => ⟨0, (aP_impl_CompareLabels N.strings_Compare 0 a0 a1).trans (impl_CompareLabels_ok (ρ := Ret) (fun r0 => some [⟨(.int .i64), r0⟩]) a0 a1)⟩)
abbrev G.impl_AreEntries (l : List TEntry) : Bool := decide (wEs l ≤ 1048576)
abbrev N.impl_AreEntries (l : List TEntry) : Bool := areEntries l
def impl_AreEntries_P_L0 {ρ : Type} (f0 : TEntry → Bool) (g0 : TEntry → Bool) (f1 : ByteArray → ByteArray → Int) (k : Bool → Option ρ) (L0 : (List TEntry) → (List TEntry) → Int → Int → Option ρ) (v0_0 : (List TEntry)) (v0_1 : (List TEntry)) (v0_2 : Int) (v0_3 : Int) : Option ρ := (cond (decide (v0_3 < v0_2)) (cond (inRange v0_3 (List.length v0_1)) (cond (g0 (List.getD v0_1 (Int.toNat v0_3) (ByteArray.empty, ((0 : Int), ((0 : Int), []))))) (cond (!(f0 (List.getD v0_1 (Int.toNat v0_3) (ByteArray.empty, ((0 : Int), ((0 : Int), [])))))) (k false) (cond (decide (v0_3 > (0 : Int))) (cond (inRange (IntKind.wrap .i64 (v0_3 - (1 : Int))) (List.length v0_0)) (cond (decide ((f1 (List.getD v0_1 (Int.toNat v0_3) (ByteArray.empty, ((0 : Int), ((0 : Int), [])))).1 (List.getD v0_0 (Int.toNat (IntKind.wrap .i64 (v0_3 - (1 : Int)))) (ByteArray.empty, ((0 : Int), ((0 : Int), [])))).1) ≤ (0 : Int))) (k false) (L0 v0_0 v0_1 v0_2 (IntKind.wrap .i64 (v0_3 + (1 : Int))))) none) (L0 v0_0 v0_1 v0_2 (IntKind.wrap .i64 (v0_3 + (1 : Int)))))) none) none) (k (decide ((List.length v0_0 : Int) ≤ (12 : Int)))))
def impl_AreEntries_P {ρ : Type} (f0 : TEntry → Bool) (g0 : TEntry → Bool) (f1 : ByteArray → ByteArray → Int) (k : Bool → Option ρ) (L0 : (List TEntry) → (List TEntry) → Int → Int → Option ρ) (a0 : (List TEntry)) : Option ρ := (L0 a0 a0 (List.length a0 : Int) (0 : Int))
def impl_AreEntries_L0 {ρ : Type} (k : Bool → Option ρ) (L0 : (List TEntry) → (List TEntry) → Int → Int → Option ρ) (v0_0 : (List TEntry)) (v0_1 : (List TEntry)) (v0_2 : Int) (v0_3 : Int) : Option ρ := impl_AreEntries_P_L0 N.impl_IsEntry G.impl_IsEntry N.impl_CompareLabels k L0 v0_0 v0_1 v0_2 v0_3
def impl_AreEntries {ρ : Type} (k : Bool → Option ρ) (L0 : (List TEntry) → (List TEntry) → Int → Int → Option ρ) (a0 : (List TEntry)) : Option ρ := impl_AreEntries_P N.impl_IsEntry G.impl_IsEntry N.impl_CompareLabels k L0 a0
theorem impl_AreEntries_ok {ρ : Type} (k : Bool → Option ρ) (a0 : (List TEntry)) (l_a0 : lnL (fun y => (True ∧ (True ∧ (True ∧ lnL (fun _ => True) y.2.2.2)))) a0) (g : G.impl_AreEntries a0 = true) : ∃ n0, ∀ n, n0 ≤ n → ∀ (L0 : Nat → (List TEntry) → (List TEntry) → Int → Int → Option ρ) (h0 : ∀ ( m : Nat) (v0_0 : (List TEntry)) (v0_1 : (List TEntry)) (v0_2 : Int) (v0_3 : Int), L0 (m + 1) v0_0 v0_1 v0_2 v0_3 = impl_AreEntries_L0 k (L0 m) v0_0 v0_1 v0_2 v0_3), impl_AreEntries k (L0 n) a0 = k (N.impl_AreEntries a0) := by
  unfold G.impl_AreEntries at g
  have hw : wEs a0 ≤ 1048576 := of_decide_eq_true g
  have hl : a0.length ≤ 1048576 := by unfold wEs at hw; omega
  refine ⟨a0.length + 1, fun n hn L0 h0 => ?_⟩
  have hrun := raw_run0 (σ := Unit) (s := ()) (L := fun m i _ => L0 m a0 a0 (a0.length : Int) i) (R := fun i _ c => impl_AreEntries_L0 k (fun _ _ _ i => c i ()) a0 a0 (a0.length : Int) i) (fun m i s => h0 m a0 a0 (a0.length : Int) i) a0.length (fun _ _ => True) (fun j _ => cond (areFrom a0 (a0.length - j) j) (k (decide (a0.length ≤ 12))) (k false)) (fun j s c hj _ hc => ?_) (fun s c _ => ?_) hn trivial
  · refine hrun.trans ?_
    show _ = k (areFrom a0 a0.length 0 && decide (a0.length ≤ 12))
    rw [Nat.sub_zero]
    cases areFrom a0 a0.length 0 <;> rfl
  · obtain ⟨m, hm⟩ : ∃ m, a0.length - j = m + 1 := ⟨a0.length - j - 1, by omega⟩
    have hm2 : a0.length - (j + 1) = m := by omega
    have hc' := hc () trivial
    rw [hm2] at hc'
    have hmem := wEs_mem (getD_mem (d := (ByteArray.empty, (0, (0, [])))) hj)
    have g2 : decide (wE (a0.getD j (ByteArray.empty, (0, (0, [])))) ≤ 1048576) = true := by simp only [decide_eq_true_eq]; omega
    rw [hm]
    unfold areFrom
    by_cases h0j : j = 0
    · subst h0j
      simp only [impl_AreEntries_L0, impl_AreEntries_P_L0, lt_nat, inRange_nat, decide_eq_true hj, cond_true, Int.toNat_natCast, G.impl_IsEntry, N.impl_IsEntry, g2, wrap_succ (j := 0) (by unfold big; omega), hc']
      cases isEntry (a0.getD 0 (ByteArray.empty, (0, (0, [])))) <;> simp
    · have e1 : decide ((j : Int) > 0) = true := by simp; omega
      have e2 : IntKind.wrap .i64 ((j : Int) - 1) = ((j - 1 : Nat) : Int) := by rw [wrap_id (by omega) (by omega)]; omega
      have e3 : j - 1 < a0.length := by omega
      simp only [impl_AreEntries_L0, impl_AreEntries_P_L0, lt_nat, inRange_nat, decide_eq_true hj, cond_true, Int.toNat_natCast, G.impl_IsEntry, N.impl_IsEntry, N.impl_CompareLabels, g2, e1, e2, decide_eq_true e3, wrap_succ (j := j) (by unfold big; omega), hc', decide_eq_false h0j, cmpStr_swap]
      cases isEntry (a0.getD j (ByteArray.empty, (0, (0, [])))) <;> cases cmpStr (a0.getD (j - 1) (ByteArray.empty, (0, (0, [])))).1 (a0.getD j (ByteArray.empty, (0, (0, [])))).1 == -1 <;> simp
  · have e1 : decide ((a0.length : Int) ≤ 12) = decide (a0.length ≤ 12) := by simp only [decide_eq_decide]; omega
    rw [Nat.sub_self]
    simp [impl_AreEntries_L0, impl_AreEntries_P_L0, areFrom, e1]
def OP_impl_AreEntries (f0 : TEntry → Bool) (g0 : TEntry → Bool) (f1 : ByteArray → ByteArray → Int) : Orac := (orcX 47 [.val .str, .val .str] (fun d => true) (fun d => [⟨(.int .i64), f1 d.1 d.2.1⟩]) (orcX 80 [.val TyEntry] (fun d => g0 d.1) (fun d => [⟨.bool, f0 d.1⟩]) nilO))
def O_impl_AreEntries : Orac := OP_impl_AreEntries N.impl_IsEntry G.impl_IsEntry N.impl_CompareLabels
theorem ok_impl_AreEntries : OracOk Tryz.prog sigs O_impl_AreEntries := (orcX_ok rfl rfl (fun d g => said_impl_CompareLabels d.1 d.2.1) (orcX_ok rfl rfl (fun d g => said_impl_IsEntry d.1 g) nilO_ok))
def A_impl_AreEntries : Ann := fun b => cond (Nat.beq b 0) ⟨[(0, false), (5, false), (6, false), (7, false)], []⟩ (⟨[], []⟩)
def S_impl_AreEntries_0 (v0_0 : (List TEntry)) (v0_1 : (List TEntry)) (v0_2 : Int) (v0_3 : Int) : St := [(kT 0, some (.tv (.v (.slice 29 TyEntry) v0_0 .no))), (kT 5, some (.tv (.v (.slice 29 TyEntry) v0_1 .no))), (kT 6, some (.tv (.v (.int .i64) v0_2 .no))), (kT 7, some (.tv (.v (.int .i64) v0_3 .no)))]
noncomputable def L_P_impl_AreEntries_0 (f0 : TEntry → Bool) (g0 : TEntry → Bool) (f1 : ByteArray → ByteArray → Int) (n m : Nat) : St → Option Ret := loopOf tab sigs (OP_impl_AreEntries f0 g0 f1) A_impl_AreEntries Tryz.f29 [(.bool, .no)] n (fun _ => 0) 0 m
theorem bP_impl_AreEntries_0 (f0 : TEntry → Bool) (g0 : TEntry → Bool) (f1 : ByteArray → ByteArray → Int) (n m : Nat) (v0_0 : (List TEntry)) (v0_1 : (List TEntry)) (v0_2 : Int) (v0_3 : Int) : L_P_impl_AreEntries_0 f0 g0 f1 n (m + 1) (S_impl_AreEntries_0 v0_0 v0_1 v0_2 v0_3) = impl_AreEntries_P_L0 f0 g0 f1 (fun r0 => some [⟨.bool, r0⟩]) (fun v0_0 v0_1 v0_2 v0_3 => L_P_impl_AreEntries_0 f0 g0 f1 n m (S_impl_AreEntries_0 v0_0 v0_1 v0_2 v0_3)) v0_0 v0_1 v0_2 v0_3 := by kernel_rfl
theorem aP_impl_AreEntries (f0 : TEntry → Bool) (g0 : TEntry → Bool) (f1 : ByteArray → ByteArray → Int) (n : Nat) (a0 : (List TEntry)) : absF tab sigs (OP_impl_AreEntries f0 g0 f1) A_impl_AreEntries Tryz.f29 [(.bool, .no)] n [.val (.slice 29 TyEntry) a0] = impl_AreEntries_P f0 g0 f1 (fun r0 => some [⟨.bool, r0⟩]) (fun v0_0 v0_1 v0_2 v0_3 => L_P_impl_AreEntries_0 f0 g0 f1 n n (S_impl_AreEntries_0 v0_0 v0_1 v0_2 v0_3)) a0 := by kernel_rfl
theorem said_impl_AreEntries (a0 : (List TEntry)) (g : G.impl_AreEntries a0 = true) : Said Tryz.prog sigs_29 29 [.val (.slice 29 TyEntry) a0] [⟨.bool, N.impl_AreEntries a0⟩] := said_len (T := tab) (A := A_impl_AreEntries) tabOk ok_impl_AreEntries tabOk.follows Tryz.func29 (by kernel_rfl) (by kernel_rfl) (fun hl => let ⟨n, hn⟩ := impl_AreEntries_ok (ρ := Ret) (fun r0 => some [⟨.bool, r0⟩]) a0 hl.1 g; ⟨n, (aP_impl_AreEntries N.impl_IsEntry G.impl_IsEntry N.impl_CompareLabels n a0).trans (hn n (Nat.le_refl n) (fun  m v0_0 v0_1 v0_2 v0_3 => L_P_impl_AreEntries_0 N.impl_IsEntry G.impl_IsEntry N.impl_CompareLabels n  m (S_impl_AreEntries_0 v0_0 v0_1 v0_2 v0_3)) (fun  m v0_0 v0_1 v0_2 v0_3 => bP_impl_AreEntries_0 N.impl_IsEntry G.impl_IsEntry N.impl_CompareLabels n  m v0_0 v0_1 v0_2 v0_3))⟩)
abbrev N.impl_isSpan (h : THead) : Bool := isSpan h
def impl_isSpan {ρ : Type} (k : Bool → Option ρ) (a0 : THead) : Option ρ := (cond (decide (a0.2.2.2.1 ≥ (0 : Int))) (cond (decide (a0.2.2.2.1 ≤ a0.2.2.2.2.1)) (cond (decide (a0.2.2.2.2.1 ≤ (100000 : Int))) (k (decide ((IntKind.wrap .i64 (a0.2.2.2.2.1 - a0.2.2.2.1)) ≤ (200 : Int)))) (k false)) (k false)) (k false))
theorem impl_isSpan_ok {ρ : Type} (k : Bool → Option ρ) (a0 : THead) (l_a0 : (lenT TyHead a0)) : impl_isSpan k  a0 = k (N.impl_isSpan a0) := by
  simp only [impl_isSpan, isSpan, ge_iff_le]
  cases decide (0 ≤ a0.2.2.2.1)
  · rfl
  cases decide (a0.2.2.2.1 ≤ a0.2.2.2.2.1)
  · rfl
  cases decide (a0.2.2.2.2.1 ≤ 100000) <;> rfl
def O_impl_isSpan : Orac := nilO
theorem ok_impl_isSpan : OracOk Tryz.prog sigs O_impl_isSpan := nilO_ok
def A_impl_isSpan : Ann := fun b => ⟨[], []⟩
theorem a_impl_isSpan (n : Nat) (a0 : THead) : absF tab sigs O_impl_isSpan A_impl_isSpan Tryz.f115 [(.bool, .no)] n [.val TyHead a0] = impl_isSpan (fun r0 => some [⟨.bool, r0⟩])  a0 := by kernel_rfl
theorem said_impl_isSpan (a0 : THead) : Said Tryz.prog sigs_115 115 [.val TyHead a0] [⟨.bool, N.impl_isSpan a0⟩] := said_len (T := tab) (A := A_impl_isSpan) tabOk ok_impl_isSpan tabOk.follows Tryz.func115 (by kernel_rfl) (by kernel_rfl) (fun hl => ⟨0, (a_impl_isSpan 0 a0).trans (impl_isSpan_ok (ρ := Ret) (fun r0 => some [⟨.bool, r0⟩]) a0 hl.1)⟩)
abbrev N.impl_ascending (l : List Int) : Bool := asc l
def impl_ascending_L0 {ρ : Type} (k : Bool → Option ρ) (L0 : (List Int) → Int → Int → Option ρ) (v0_0 : (List Int)) (v0_1 : Int) (v0_2 : Int) : Option ρ := (cond (decide (v0_2 < v0_1)) (cond (decide (v0_2 > (0 : Int))) (cond (inRange v0_2 (List.length v0_0)) (cond (inRange (IntKind.wrap .i64 (v0_2 - (1 : Int))) (List.length v0_0)) (cond (decide ((List.getD v0_0 (Int.toNat v0_2) (0 : Int)) ≤ (List.getD v0_0 (Int.toNat (IntKind.wrap .i64 (v0_2 - (1 : Int)))) (0 : Int)))) (k false) (L0 v0_0 v0_1 (IntKind.wrap .i64 (v0_2 + (1 : Int))))) none) none) (L0 v0_0 v0_1 (IntKind.wrap .i64 (v0_2 + (1 : Int))))) (k true))
def impl_ascending {ρ : Type} (k : Bool → Option ρ) (L0 : (List Int) → Int → Int → Option ρ) (a0 : (List Int)) : Option ρ := (L0 a0 (List.length a0 : Int) (0 : Int))
theorem impl_ascending_ok {ρ : Type} (k : Bool → Option ρ) (a0 : (List Int)) (l_a0 : lnL (fun _ => True) a0) : ∃ n0, ∀ n, n0 ≤ n → ∀ (L0 : Nat → (List Int) → Int → Int → Option ρ) (h0 : ∀ ( m : Nat) (v0_0 : (List Int)) (v0_1 : Int) (v0_2 : Int), L0 (m + 1) v0_0 v0_1 v0_2 = impl_ascending_L0 k (L0 m) v0_0 v0_1 v0_2), impl_ascending k (L0 n) a0 = k (N.impl_ascending a0) := by
  refine ⟨a0.length + 1, fun n hn L0 h0 => ?_⟩
  have hb : a0.length ≤ 9223372036854775807 := l_a0.1
  have hrun := raw_run0 (σ := Unit) (s := ()) (L := fun m i _ => L0 m a0 (a0.length : Int) i) (R := fun i _ c => impl_ascending_L0 k (fun _ _ i => c i ()) a0 (a0.length : Int) i) (fun m i s => h0 m a0 (a0.length : Int) i) a0.length (fun _ _ => True) (fun j _ => k (ascFrom a0 (a0.length - j) j)) (fun j s c hj _ hc => ?_) (fun s c _ => ?_) hn trivial
  · refine hrun.trans ?_
    rw [Nat.sub_zero]
    rfl
  · obtain ⟨m, hm⟩ : ∃ m, a0.length - j = m + 1 := ⟨a0.length - j - 1, by omega⟩
    have hm2 : a0.length - (j + 1) = m := by omega
    have hc' := hc () trivial
    rw [hm2] at hc'
    rw [hm]
    unfold ascFrom
    by_cases h0j : j = 0
    · subst h0j
      simp only [impl_ascending_L0, lt_nat, inRange_nat, decide_eq_true hj, cond_true, wrap_succ (j := 0) (by unfold big; omega), hc']
      simp
    · have e1 : decide ((j : Int) > 0) = true := by simp; omega
      have e2 : IntKind.wrap .i64 ((j : Int) - 1) = ((j - 1 : Nat) : Int) := by rw [wrap_id (by omega) (by omega)]; omega
      have e3 : j - 1 < a0.length := by omega
      have e4 : decide (a0.getD j 0 ≤ a0.getD (j - 1) 0) = !decide (a0.getD (j - 1) 0 < a0.getD j 0) := by rw [← decide_not]; simp
      simp only [impl_ascending_L0, lt_nat, inRange_nat, decide_eq_true hj, cond_true, Int.toNat_natCast, e1, e2, e4, decide_eq_true e3, wrap_succ (j := j) (by unfold big; omega), hc', decide_eq_false h0j]
      cases decide (a0.getD (j - 1) 0 < a0.getD j 0) <;> simp
  · rw [Nat.sub_self]
    simp [impl_ascending_L0, ascFrom]
def O_impl_ascending : Orac := nilO
theorem ok_impl_ascending : OracOk Tryz.prog sigs O_impl_ascending := nilO_ok
def A_impl_ascending : Ann := fun b => cond (Nat.beq b 0) ⟨[(0, false), (5, false), (6, false)], []⟩ (⟨[], []⟩)
def S_impl_ascending_0 (v0_0 : (List Int)) (v0_1 : Int) (v0_2 : Int) : St := [(kT 0, some (.tv (.v (.slice 3 (.int .i64)) v0_0 .no))), (kT 5, some (.tv (.v (.int .i64) v0_1 .no))), (kT 6, some (.tv (.v (.int .i64) v0_2 .no)))]
noncomputable def L_impl_ascending_0 (n m : Nat) : St → Option Ret := loopOf tab sigs O_impl_ascending A_impl_ascending Tryz.f152 [(.bool, .no)] n (fun _ => 0) 0 m
theorem b_impl_ascending_0 (n m : Nat) (v0_0 : (List Int)) (v0_1 : Int) (v0_2 : Int) : L_impl_ascending_0 n (m + 1) (S_impl_ascending_0 v0_0 v0_1 v0_2) = impl_ascending_L0 (fun r0 => some [⟨.bool, r0⟩]) (fun v0_0 v0_1 v0_2 => L_impl_ascending_0 n m (S_impl_ascending_0 v0_0 v0_1 v0_2)) v0_0 v0_1 v0_2 := by kernel_rfl
theorem a_impl_ascending (n : Nat) (a0 : (List Int)) : absF tab sigs O_impl_ascending A_impl_ascending Tryz.f152 [(.bool, .no)] n [.val (.slice 3 (.int .i64)) a0] = impl_ascending (fun r0 => some [⟨.bool, r0⟩]) (fun v0_0 v0_1 v0_2 => L_impl_ascending_0 n n (S_impl_ascending_0 v0_0 v0_1 v0_2)) a0 := by kernel_rfl
theorem said_impl_ascending (a0 : (List Int)) : Said Tryz.prog sigs_152 152 [.val (.slice 3 (.int .i64)) a0] [⟨.bool, N.impl_ascending a0⟩] := said_len (T := tab) (A := A_impl_ascending) tabOk ok_impl_ascending tabOk.follows Tryz.func152 (by kernel_rfl) (by kernel_rfl) (fun hl => let ⟨n, hn⟩ := impl_ascending_ok (ρ := Ret) (fun r0 => some [⟨.bool, r0⟩]) a0 hl.1; ⟨n, (a_impl_ascending n a0).trans (hn n (Nat.le_refl n) (fun  m v0_0 v0_1 v0_2 => L_impl_ascending_0 n  m (S_impl_ascending_0 v0_0 v0_1 v0_2)) (fun  m v0_0 v0_1 v0_2 => b_impl_ascending_0 n  m v0_0 v0_1 v0_2))⟩)
abbrev N.impl_isKey (n : Int) : Bool := isKey n
def impl_isKey {ρ : Type} (k : Bool → Option ρ) (a0 : Int) : Option ρ := (k (N.impl_InRange a0 (1 : Int) (99 : Int)))
theorem impl_isKey_ok {ρ : Type} (k : Bool → Option ρ) (a0 : Int) : impl_isKey k  a0 = k (N.impl_isKey a0) := by
  rfl
def OP_impl_isKey (f0 : Int → Int → Int → Bool) : Orac := (orcX 45 [.val (.int .i64), .val (.int .i64), .val (.int .i64)] (fun d => true) (fun d => [⟨.bool, f0 d.1 d.2.1 d.2.2.1⟩]) nilO)
def O_impl_isKey : Orac := OP_impl_isKey N.impl_InRange
def impl_isKey_P {ρ : Type} (f0 : Int → Int → Int → Bool) (k : Bool → Option ρ) (a0 : Int) : Option ρ := (k (f0 a0 (1 : Int) (99 : Int)))
theorem ok_impl_isKey : OracOk Tryz.prog sigs O_impl_isKey := (orcX_ok rfl rfl (fun d g => said_impl_InRange d.1 d.2.1 d.2.2.1) nilO_ok)
def A_impl_isKey : Ann := fun b => ⟨[], []⟩
theorem aP_impl_isKey (f0 : Int → Int → Int → Bool) (n : Nat) (a0 : Int) : absF tab sigs (OP_impl_isKey f0) A_impl_isKey Tryz.f153 [(.bool, .no)] n [.val (.int .i64) a0] = impl_isKey_P f0 (fun r0 => some [⟨.bool, r0⟩])  a0 := by kernel_rfl
theorem said_impl_isKey (a0 : Int) : Said Tryz.prog sigs_153 153 [.val (.int .i64) a0] [⟨.bool, N.impl_isKey a0⟩] := said_len (T := tab) (A := A_impl_isKey) tabOk ok_impl_isKey tabOk.follows Tryz.func153 (by kernel_rfl) (by kernel_rfl) (fun hl => ⟨0, (aP_impl_isKey N.impl_InRange 0 a0).trans (impl_isKey_ok (ρ := Ret) (fun r0 => some [⟨.bool, r0⟩]) a0)⟩)
abbrev N.impl_IsKeys (k : TKeys) : Bool := isKeys k
def impl_IsKeys_P {ρ : Type} (f0 : Int → Int → Int → Bool) (f1 : (List Int) → Bool) (f2 : Int → Bool) (k : Bool → Option ρ) (a0 : TKeys) : Option ρ := (cond (f0 (List.length a0.1 : Int) (1 : Int) (4 : Int)) (cond (f1 a0.1) (cond (inRange (0 : Int) (List.length a0.1)) (cond (f2 (List.getD a0.1 0 (0 : Int))) (cond (inRange (IntKind.wrap .i64 ((List.length a0.1 : Int) - (1 : Int))) (List.length a0.1)) (cond (f2 (List.getD a0.1 (Int.toNat (IntKind.wrap .i64 ((List.length a0.1 : Int) - (1 : Int)))) (0 : Int))) (k (f0 a0.2 (1 : Int) (List.length a0.1 : Int))) (k false)) none) (k false)) none) (k false)) (k false))
def impl_IsKeys {ρ : Type} (k : Bool → Option ρ) (a0 : TKeys) : Option ρ := impl_IsKeys_P N.impl_InRange N.impl_ascending N.impl_isKey k a0
theorem impl_IsKeys_ok {ρ : Type} (k : Bool → Option ρ) (a0 : TKeys) (l_a0 : (lnL (fun _ => True) a0.1 ∧ True)) : impl_IsKeys k  a0 = k (N.impl_IsKeys a0) := by
  have hb : a0.1.length ≤ 9223372036854775807 := l_a0.1.1
  simp only [impl_IsKeys, impl_IsKeys_P, N.impl_InRange, N.impl_ascending, N.impl_isKey, N.impl_IsKeys, isKeys]
  cases hr : inR (a0.1.length : Int) 1 4 with
  | false => rfl
  | true =>
    have hr2 : 1 ≤ (a0.1.length : Int) ∧ (a0.1.length : Int) ≤ 4 := by simpa [inR] using hr
    have e0 : inRange 0 a0.1.length = true := by
      unfold inRange
      rw [decide_eq_true (p := (0 : Int) < (a0.1.length : Int)) (by omega)]
      rfl
    have e1 : IntKind.wrap .i64 ((a0.1.length : Int) - 1) = ((a0.1.length - 1 : Nat) : Int) := by rw [wrap_id (by omega) (by omega)]; omega
    have e2 : inRange ((a0.1.length - 1 : Nat) : Int) a0.1.length = true := by rw [inRange_nat]; simp; omega
    simp only [e0, e1, e2, cond_true, Int.toNat_natCast]
    cases asc a0.1 <;> cases isKey (a0.1.getD 0 0) <;> cases isKey (a0.1.getD (a0.1.length - 1) 0) <;> rfl
def OP_impl_IsKeys (f0 : Int → Int → Int → Bool) (f1 : (List Int) → Bool) (f2 : Int → Bool) : Orac := (orcX 153 [.val (.int .i64)] (fun d => true) (fun d => [⟨.bool, f2 d.1⟩]) (orcX 152 [.val (.slice 3 (.int .i64))] (fun d => true) (fun d => [⟨.bool, f1 d.1⟩]) (orcX 45 [.val (.int .i64), .val (.int .i64), .val (.int .i64)] (fun d => true) (fun d => [⟨.bool, f0 d.1 d.2.1 d.2.2.1⟩]) nilO)))
def O_impl_IsKeys : Orac := OP_impl_IsKeys N.impl_InRange N.impl_ascending N.impl_isKey
theorem ok_impl_IsKeys : OracOk Tryz.prog sigs O_impl_IsKeys := (orcX_ok rfl rfl (fun d g => said_impl_isKey d.1) (orcX_ok rfl rfl (fun d g => said_impl_ascending d.1) (orcX_ok rfl rfl (fun d g => said_impl_InRange d.1 d.2.1 d.2.2.1) nilO_ok)))
def A_impl_IsKeys : Ann := fun b => ⟨[], []⟩
theorem aP_impl_IsKeys (f0 : Int → Int → Int → Bool) (f1 : (List Int) → Bool) (f2 : Int → Bool) (n : Nat) (a0 : TKeys) : absF tab sigs (OP_impl_IsKeys f0 f1 f2) A_impl_IsKeys Tryz.f116 [(.bool, .no)] n [.val (.pair (.slice 3 (.int .i64)) (.int .i64)) a0] = impl_IsKeys_P f0 f1 f2 (fun r0 => some [⟨.bool, r0⟩])  a0 := by kernel_rfl
theorem said_impl_IsKeys (a0 : TKeys) : Said Tryz.prog sigs_116 116 [.val (.pair (.slice 3 (.int .i64)) (.int .i64)) a0] [⟨.bool, N.impl_IsKeys a0⟩] := said_len (T := tab) (A := A_impl_IsKeys) tabOk ok_impl_IsKeys tabOk.follows Tryz.func116 (by kernel_rfl) (by kernel_rfl) (fun hl => ⟨0, (aP_impl_IsKeys N.impl_InRange N.impl_ascending N.impl_isKey 0 a0).trans (impl_IsKeys_ok (ρ := Ret) (fun r0 => some [⟨.bool, r0⟩]) a0 hl.1)⟩)
abbrev N.impl_NoKeys (k : TKeys) : Bool := noKeys k
def impl_NoKeys {ρ : Type} (k : Bool → Option ρ) (a0 : TKeys) : Option ρ := (cond (a0.2 == (0 : Int)) (k ((List.length a0.1 : Int) == (0 : Int))) (k false))
theorem impl_NoKeys_ok {ρ : Type} (k : Bool → Option ρ) (a0 : TKeys) (l_a0 : (lnL (fun _ => True) a0.1 ∧ True)) : impl_NoKeys k  a0 = k (N.impl_NoKeys a0) := by
  simp only [impl_NoKeys, N.impl_NoKeys, noKeys]
  cases a0.2 == 0 <;> rfl
def O_impl_NoKeys : Orac := nilO
theorem ok_impl_NoKeys : OracOk Tryz.prog sigs O_impl_NoKeys := nilO_ok
def A_impl_NoKeys : Ann := fun b => ⟨[], []⟩
theorem a_impl_NoKeys (n : Nat) (a0 : TKeys) : absF tab sigs O_impl_NoKeys A_impl_NoKeys Tryz.f119 [(.bool, .no)] n [.val (.pair (.slice 3 (.int .i64)) (.int .i64)) a0] = impl_NoKeys (fun r0 => some [⟨.bool, r0⟩])  a0 := by kernel_rfl
theorem said_impl_NoKeys (a0 : TKeys) : Said Tryz.prog sigs_119 119 [.val (.pair (.slice 3 (.int .i64)) (.int .i64)) a0] [⟨.bool, N.impl_NoKeys a0⟩] := said_len (T := tab) (A := A_impl_NoKeys) tabOk ok_impl_NoKeys tabOk.follows Tryz.func119 (by kernel_rfl) (by kernel_rfl) (fun hl => ⟨0, (a_impl_NoKeys 0 a0).trans (impl_NoKeys_ok (ρ := Ret) (fun r0 => some [⟨.bool, r0⟩]) a0 hl.1)⟩)
abbrev N.impl_isMaybe (k : TKeys) : Bool := isMaybe k
def impl_isMaybe {ρ : Type} (k : Bool → Option ρ) (a0 : TKeys) : Option ρ := (cond (N.impl_NoKeys a0) (k true) (k (N.impl_IsKeys a0)))
theorem impl_isMaybe_ok {ρ : Type} (k : Bool → Option ρ) (a0 : TKeys) (l_a0 : (lnL (fun _ => True) a0.1 ∧ True)) : impl_isMaybe k  a0 = k (N.impl_isMaybe a0) := by
  simp only [impl_isMaybe, N.impl_NoKeys, N.impl_IsKeys, N.impl_isMaybe, isMaybe]
  cases noKeys a0 <;> rfl
def OP_impl_isMaybe (f0 : TKeys → Bool) (f1 : TKeys → Bool) : Orac := (orcX 116 [.val (.pair (.slice 3 (.int .i64)) (.int .i64))] (fun d => true) (fun d => [⟨.bool, f1 d.1⟩]) (orcX 119 [.val (.pair (.slice 3 (.int .i64)) (.int .i64))] (fun d => true) (fun d => [⟨.bool, f0 d.1⟩]) nilO))
def O_impl_isMaybe : Orac := OP_impl_isMaybe N.impl_NoKeys N.impl_IsKeys
def impl_isMaybe_P {ρ : Type} (f0 : TKeys → Bool) (f1 : TKeys → Bool) (k : Bool → Option ρ) (a0 : TKeys) : Option ρ := (cond (f0 a0) (k true) (k (f1 a0)))
theorem ok_impl_isMaybe : OracOk Tryz.prog sigs O_impl_isMaybe := (orcX_ok rfl rfl (fun d g => said_impl_IsKeys d.1) (orcX_ok rfl rfl (fun d g => said_impl_NoKeys d.1) nilO_ok))
def A_impl_isMaybe : Ann := fun b => ⟨[], []⟩
theorem aP_impl_isMaybe (f0 : TKeys → Bool) (f1 : TKeys → Bool) (n : Nat) (a0 : TKeys) : absF tab sigs (OP_impl_isMaybe f0 f1) A_impl_isMaybe Tryz.f117 [(.bool, .no)] n [.val (.pair (.slice 3 (.int .i64)) (.int .i64)) a0] = impl_isMaybe_P f0 f1 (fun r0 => some [⟨.bool, r0⟩])  a0 := by kernel_rfl
theorem said_impl_isMaybe (a0 : TKeys) : Said Tryz.prog sigs_117 117 [.val (.pair (.slice 3 (.int .i64)) (.int .i64)) a0] [⟨.bool, N.impl_isMaybe a0⟩] := said_len (T := tab) (A := A_impl_isMaybe) tabOk ok_impl_isMaybe tabOk.follows Tryz.func117 (by kernel_rfl) (by kernel_rfl) (fun hl => ⟨0, (aP_impl_isMaybe N.impl_NoKeys N.impl_IsKeys 0 a0).trans (impl_isMaybe_ok (ρ := Ret) (fun r0 => some [⟨.bool, r0⟩]) a0 hl.1)⟩)
abbrev N.impl_isWait (w : Int) (k : TKeys) : Bool := isWait w k
def impl_isWait {ρ : Type} (k : Bool → Option ρ) (a0 : Int) (a1 : TKeys) : Option ρ := (cond (N.impl_NoKeys a1) (k (a0 == (0 : Int))) (k (N.impl_InRange a0 (1 : Int) (500 : Int))))
theorem impl_isWait_ok {ρ : Type} (k : Bool → Option ρ) (a0 : Int) (a1 : TKeys) (l_a1 : (lnL (fun _ => True) a1.1 ∧ True)) : impl_isWait k  a0 a1 = k (N.impl_isWait a0 a1) := by
  simp only [impl_isWait, N.impl_NoKeys, N.impl_InRange, N.impl_isWait, isWait]
  cases noKeys a1 <;> rfl
def OP_impl_isWait (f0 : TKeys → Bool) (f1 : Int → Int → Int → Bool) : Orac := (orcX 45 [.val (.int .i64), .val (.int .i64), .val (.int .i64)] (fun d => true) (fun d => [⟨.bool, f1 d.1 d.2.1 d.2.2.1⟩]) (orcX 119 [.val (.pair (.slice 3 (.int .i64)) (.int .i64))] (fun d => true) (fun d => [⟨.bool, f0 d.1⟩]) nilO))
def O_impl_isWait : Orac := OP_impl_isWait N.impl_NoKeys N.impl_InRange
def impl_isWait_P {ρ : Type} (f0 : TKeys → Bool) (f1 : Int → Int → Int → Bool) (k : Bool → Option ρ) (a0 : Int) (a1 : TKeys) : Option ρ := (cond (f0 a1) (k (a0 == (0 : Int))) (k (f1 a0 (1 : Int) (500 : Int))))
theorem ok_impl_isWait : OracOk Tryz.prog sigs O_impl_isWait := (orcX_ok rfl rfl (fun d g => said_impl_InRange d.1 d.2.1 d.2.2.1) (orcX_ok rfl rfl (fun d g => said_impl_NoKeys d.1) nilO_ok))
def A_impl_isWait : Ann := fun b => ⟨[], []⟩
theorem aP_impl_isWait (f0 : TKeys → Bool) (f1 : Int → Int → Int → Bool) (n : Nat) (a0 : Int) (a1 : TKeys) : absF tab sigs (OP_impl_isWait f0 f1) A_impl_isWait Tryz.f118 [(.bool, .no)] n [.val (.int .i64) a0, .val (.pair (.slice 3 (.int .i64)) (.int .i64)) a1] = impl_isWait_P f0 f1 (fun r0 => some [⟨.bool, r0⟩])  a0 a1 := by kernel_rfl
theorem said_impl_isWait (a0 : Int) (a1 : TKeys) : Said Tryz.prog sigs_118 118 [.val (.int .i64) a0, .val (.pair (.slice 3 (.int .i64)) (.int .i64)) a1] [⟨.bool, N.impl_isWait a0 a1⟩] := said_len (T := tab) (A := A_impl_isWait) tabOk ok_impl_isWait tabOk.follows Tryz.func118 (by kernel_rfl) (by kernel_rfl) (fun hl => ⟨0, (aP_impl_isWait N.impl_NoKeys N.impl_InRange 0 a0 a1).trans (impl_isWait_ok (ρ := Ret) (fun r0 => some [⟨.bool, r0⟩]) a0 a1 hl.2.1)⟩)
abbrev N.impl_IsHead (h : THead) : Bool := isHead h
def impl_IsHead_P {ρ : Type} (f0 : Int → Bool) (f1 : Int → Int → Int → Bool) (f2 : THead → Bool) (f3 : TKeys → Bool) (f4 : TKeys → Bool) (f5 : Int → TKeys → Bool) (f6 : TKeys → Bool) (k : Bool → Option ρ) (a0 : THead) : Option ρ := (cond (f0 a0.1) (cond (f0 a0.2.2.2.2.2.2.1) (cond (f0 a0.2.2.2.2.2.2.2.1) (cond (f1 a0.2.1 (0 : Int) (200 : Int)) (cond (f1 a0.2.2.1 (1 : Int) (3 : Int)) (cond (f2 a0) (cond (f1 a0.2.2.2.2.2.1 (0 : Int) (12 : Int)) (cond (f3 a0.2.2.2.2.2.2.2.2.1) (cond (f4 a0.2.2.2.2.2.2.2.2.2.1) (cond (f4 a0.2.2.2.2.2.2.2.2.2.2.2.1) (cond (f5 a0.2.2.2.2.2.2.2.2.2.2.1 a0.2.2.2.2.2.2.2.2.2.1) (cond a0.2.2.2.2.2.2.2.2.2.2.2.2 (k (!(f6 a0.2.2.2.2.2.2.2.2.2.2.2.1))) (k true)) (k false)) (k false)) (k false)) (k false)) (k false)) (k false)) (k false)) (k false)) (k false)) (k false)) (k false))
def impl_IsHead {ρ : Type} (k : Bool → Option ρ) (a0 : THead) : Option ρ := impl_IsHead_P N.impl_isDigest N.impl_InRange N.impl_isSpan N.impl_IsKeys N.impl_isMaybe N.impl_isWait N.impl_NoKeys k a0
theorem impl_IsHead_ok {ρ : Type} (k : Bool → Option ρ) (a0 : THead) (l_a0 : (lenT TyHead a0)) : impl_IsHead k  a0 = k (N.impl_IsHead a0) := by
  simp only [impl_IsHead, impl_IsHead_P, N.impl_isDigest, N.impl_InRange, N.impl_isSpan, N.impl_IsKeys, N.impl_isMaybe, N.impl_isWait, N.impl_NoKeys, N.impl_IsHead, isHead]
  cases isDigest a0.1
  · rfl
  cases isDigest a0.2.2.2.2.2.2.1
  · rfl
  cases isDigest a0.2.2.2.2.2.2.2.1
  · rfl
  cases inR a0.2.1 0 200
  · rfl
  cases inR a0.2.2.1 1 3
  · rfl
  cases isSpan a0
  · rfl
  cases inR a0.2.2.2.2.2.1 0 12
  · rfl
  cases isKeys a0.2.2.2.2.2.2.2.2.1
  · rfl
  cases isMaybe a0.2.2.2.2.2.2.2.2.2.1
  · rfl
  cases isMaybe a0.2.2.2.2.2.2.2.2.2.2.2.1
  · rfl
  cases isWait a0.2.2.2.2.2.2.2.2.2.2.1 a0.2.2.2.2.2.2.2.2.2.1
  · rfl
  cases a0.2.2.2.2.2.2.2.2.2.2.2.2 <;> rfl
def OP_impl_IsHead (f0 : Int → Bool) (f1 : Int → Int → Int → Bool) (f2 : THead → Bool) (f3 : TKeys → Bool) (f4 : TKeys → Bool) (f5 : Int → TKeys → Bool) (f6 : TKeys → Bool) : Orac := (orcX 119 [.val (.pair (.slice 3 (.int .i64)) (.int .i64))] (fun d => true) (fun d => [⟨.bool, f6 d.1⟩]) (orcX 118 [.val (.int .i64), .val (.pair (.slice 3 (.int .i64)) (.int .i64))] (fun d => true) (fun d => [⟨.bool, f5 d.1 d.2.1⟩]) (orcX 117 [.val (.pair (.slice 3 (.int .i64)) (.int .i64))] (fun d => true) (fun d => [⟨.bool, f4 d.1⟩]) (orcX 116 [.val (.pair (.slice 3 (.int .i64)) (.int .i64))] (fun d => true) (fun d => [⟨.bool, f3 d.1⟩]) (orcX 115 [.val TyHead] (fun d => true) (fun d => [⟨.bool, f2 d.1⟩]) (orcX 45 [.val (.int .i64), .val (.int .i64), .val (.int .i64)] (fun d => true) (fun d => [⟨.bool, f1 d.1 d.2.1 d.2.2.1⟩]) (orcX 114 [.val (.int .i64)] (fun d => true) (fun d => [⟨.bool, f0 d.1⟩]) nilO)))))))
def O_impl_IsHead : Orac := OP_impl_IsHead N.impl_isDigest N.impl_InRange N.impl_isSpan N.impl_IsKeys N.impl_isMaybe N.impl_isWait N.impl_NoKeys
theorem ok_impl_IsHead : OracOk Tryz.prog sigs O_impl_IsHead := (orcX_ok rfl rfl (fun d g => said_impl_NoKeys d.1) (orcX_ok rfl rfl (fun d g => said_impl_isWait d.1 d.2.1) (orcX_ok rfl rfl (fun d g => said_impl_isMaybe d.1) (orcX_ok rfl rfl (fun d g => said_impl_IsKeys d.1) (orcX_ok rfl rfl (fun d g => said_impl_isSpan d.1) (orcX_ok rfl rfl (fun d g => said_impl_InRange d.1 d.2.1 d.2.2.1) (orcX_ok rfl rfl (fun d g => said_impl_isDigest d.1) nilO_ok)))))))
def A_impl_IsHead : Ann := fun b => ⟨[], []⟩
theorem aP_impl_IsHead (f0 : Int → Bool) (f1 : Int → Int → Int → Bool) (f2 : THead → Bool) (f3 : TKeys → Bool) (f4 : TKeys → Bool) (f5 : Int → TKeys → Bool) (f6 : TKeys → Bool) (n : Nat) (a0 : THead) : absF tab sigs (OP_impl_IsHead f0 f1 f2 f3 f4 f5 f6) A_impl_IsHead Tryz.f63 [(.bool, .no)] n [.val TyHead a0] = impl_IsHead_P f0 f1 f2 f3 f4 f5 f6 (fun r0 => some [⟨.bool, r0⟩])  a0 := by kernel_rfl
theorem said_impl_IsHead (a0 : THead) : Said Tryz.prog sigs_63 63 [.val TyHead a0] [⟨.bool, N.impl_IsHead a0⟩] := said_len (T := tab) (A := A_impl_IsHead) tabOk ok_impl_IsHead tabOk.follows Tryz.func63 (by kernel_rfl) (by kernel_rfl) (fun hl => ⟨0, (aP_impl_IsHead N.impl_isDigest N.impl_InRange N.impl_isSpan N.impl_IsKeys N.impl_isMaybe N.impl_isWait N.impl_NoKeys 0 a0).trans (impl_IsHead_ok (ρ := Ret) (fun r0 => some [⟨.bool, r0⟩]) a0 hl.1)⟩)
end Go.Proofs.YthgbcbnmdioknaaGreat.Ref
