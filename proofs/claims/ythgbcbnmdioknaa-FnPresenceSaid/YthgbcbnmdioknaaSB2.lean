/- Functions of the program: what each computes, and that it does so.
   Conditions: as each theorem states. -/
import Derived.Test.YthgbcbnmdioknaaSB1
set_option linter.unusedVariables false
set_option linter.unusedSimpArgs false
set_option maxRecDepth 100000
namespace Go.Proofs.Ythgbcbnmdioknaa.Ref
open Go.RowKit Go.Proofs.YthgbcbnmdioknaaW.PrintWords Go.Proofs.YthgbcbnmdioknaaW.PrintLast
abbrev N.impl_hash (l : List Int) : Int := hash l
def impl_hash {ρ : Type} (k : Int → Option ρ) (a0 : (List Int)) : Option ρ := (k (N.impl_Hash a0))
theorem impl_hash_ok {ρ : Type} (k : Int → Option ρ) (a0 : (List Int)) (l_a0 : lnL (fun _ => True) a0) : impl_hash k  a0 = k (N.impl_hash a0) := by
  rfl
def OP_impl_hash (f0 : (List Int) → Int) : Orac := (orcX 79 [.val (.slice 3 (.int .i64))] (fun d => true) (fun d => [⟨(.int .i64), f0 d.1⟩]) nilO)
def O_impl_hash : Orac := OP_impl_hash N.impl_Hash
def impl_hash_P {ρ : Type} (f0 : (List Int) → Int) (k : Int → Option ρ) (a0 : (List Int)) : Option ρ := (k (f0 a0))
theorem ok_impl_hash : OracOk Try.prog sigs O_impl_hash := (orcX_ok rfl rfl (fun d g => said_impl_Hash d.1) nilO_ok)
def A_impl_hash : Ann := fun b => ⟨[], []⟩
theorem aP_impl_hash (f0 : (List Int) → Int) (n : Nat) (a0 : (List Int)) : absF tab sigs (OP_impl_hash f0) A_impl_hash Try.f47 [((.int .i64), .no)] n [.val (.slice 3 (.int .i64)) a0] = impl_hash_P f0 (fun r0 => some [⟨(.int .i64), r0⟩])  a0 := by kernel_rfl
theorem said_impl_hash (a0 : (List Int)) : Said Try.prog sigs_47 47 [.val (.slice 3 (.int .i64)) a0] [⟨(.int .i64), N.impl_hash a0⟩] := said_len (T := tab) (A := A_impl_hash) tabOk ok_impl_hash tabOk.follows Try.func47 (by kernel_rfl) (by kernel_rfl) (fun hl => ⟨0, (aP_impl_hash N.impl_Hash 0 a0).trans (impl_hash_ok (ρ := Ret) (fun r0 => some [⟨(.int .i64), r0⟩]) a0 hl.1)⟩)
abbrev N.impl_NodeOf (a b : Int) : Int := nodeOf a b
def impl_NodeOf {ρ : Type} (k : Int → Option ρ) (a0 : Int) (a1 : Int) : Option ρ := (k (N.impl_hash [(229 : Int), a0, a1]))
theorem impl_NodeOf_ok {ρ : Type} (k : Int → Option ρ) (a0 : Int) (a1 : Int) : impl_NodeOf k  a0 a1 = k (N.impl_NodeOf a0 a1) := by
  rfl
def OP_impl_NodeOf (f0 : (List Int) → Int) : Orac := (orcX 47 [.val (.slice 3 (.int .i64))] (fun d => true) (fun d => [⟨(.int .i64), f0 d.1⟩]) nilO)
def O_impl_NodeOf : Orac := OP_impl_NodeOf N.impl_hash
def impl_NodeOf_P {ρ : Type} (f0 : (List Int) → Int) (k : Int → Option ρ) (a0 : Int) (a1 : Int) : Option ρ := (k (f0 [(229 : Int), a0, a1]))
theorem ok_impl_NodeOf : OracOk Try.prog sigs O_impl_NodeOf := (orcX_ok rfl rfl (fun d g => said_impl_hash d.1) nilO_ok)
def A_impl_NodeOf : Ann := fun b => ⟨[], []⟩
theorem aP_impl_NodeOf (f0 : (List Int) → Int) (n : Nat) (a0 : Int) (a1 : Int) : absF tab sigs (OP_impl_NodeOf f0) A_impl_NodeOf Try.f19 [((.int .i64), .no)] n [.val (.int .i64) a0, .val (.int .i64) a1] = impl_NodeOf_P f0 (fun r0 => some [⟨(.int .i64), r0⟩])  a0 a1 := by kernel_rfl
theorem said_impl_NodeOf (a0 : Int) (a1 : Int) : Said Try.prog sigs_19 19 [.val (.int .i64) a0, .val (.int .i64) a1] [⟨(.int .i64), N.impl_NodeOf a0 a1⟩] := said_len (T := tab) (A := A_impl_NodeOf) tabOk ok_impl_NodeOf tabOk.follows Try.func19 (by kernel_rfl) (by kernel_rfl) (fun hl => ⟨0, (aP_impl_NodeOf N.impl_hash 0 a0 a1).trans (impl_NodeOf_ok (ρ := Ret) (fun r0 => some [⟨(.int .i64), r0⟩]) a0 a1)⟩)
abbrev G.impl_above (l : List Int) : Bool := decide (l.length ≤ 1048576)
abbrev N.impl_above (l : List Int) : List Int := up l
def impl_above_P_L0 {ρ : Type} (f0 : Int → Int → Int) (k : (List Int) → Option ρ) (L0 : (List Int) → Int → (List Int) → Option ρ) (v0_0 : (List Int)) (v0_1 : Int) (v0_2 : (List Int)) : Option ρ := (cond (decide (v0_1 < (List.length v0_0 : Int))) (cond (decide ((IntKind.wrap .i64 (v0_1 + (1 : Int))) < (List.length v0_0 : Int))) (cond (inRange v0_1 (List.length v0_0)) (cond (inRange (IntKind.wrap .i64 (v0_1 + (1 : Int))) (List.length v0_0)) (cond (fit (List.length v0_2) (List.length [(f0 (List.getD v0_0 (Int.toNat v0_1) (0 : Int)) (List.getD v0_0 (Int.toNat (IntKind.wrap .i64 (v0_1 + (1 : Int)))) (0 : Int)))])) (L0 v0_0 (IntKind.wrap .i64 (v0_1 + (2 : Int))) (List.append v0_2 [(f0 (List.getD v0_0 (Int.toNat v0_1) (0 : Int)) (List.getD v0_0 (Int.toNat (IntKind.wrap .i64 (v0_1 + (1 : Int)))) (0 : Int)))])) none) none) none) (cond (inRange v0_1 (List.length v0_0)) (cond (fit (List.length v0_2) (List.length [(List.getD v0_0 (Int.toNat v0_1) (0 : Int))])) (L0 v0_0 (IntKind.wrap .i64 (v0_1 + (2 : Int))) (List.append v0_2 [(List.getD v0_0 (Int.toNat v0_1) (0 : Int))])) none) none)) (k v0_2))
def impl_above_P {ρ : Type} (f0 : Int → Int → Int) (k : (List Int) → Option ρ) (L0 : (List Int) → Int → (List Int) → Option ρ) (a0 : (List Int)) : Option ρ := (L0 a0 (0 : Int) ([] : (List Int)))
def impl_above_L0 {ρ : Type} (k : (List Int) → Option ρ) (L0 : (List Int) → Int → (List Int) → Option ρ) (v0_0 : (List Int)) (v0_1 : Int) (v0_2 : (List Int)) : Option ρ := impl_above_P_L0 N.impl_NodeOf k L0 v0_0 v0_1 v0_2
def impl_above {ρ : Type} (k : (List Int) → Option ρ) (L0 : (List Int) → Int → (List Int) → Option ρ) (a0 : (List Int)) : Option ρ := impl_above_P N.impl_NodeOf k L0 a0
theorem impl_above_ok {ρ : Type} (k : (List Int) → Option ρ) (a0 : (List Int)) (l_a0 : lnL (fun _ => True) a0) (g : G.impl_above a0 = true) : ∃ n0, ∀ n, n0 ≤ n → ∀ (L0 : Nat → (List Int) → Int → (List Int) → Option ρ) (h0 : ∀ ( m : Nat) (v0_0 : (List Int)) (v0_1 : Int) (v0_2 : (List Int)), L0 (m + 1) v0_0 v0_1 v0_2 = impl_above_L0 k (L0 m) v0_0 v0_1 v0_2), impl_above k (L0 n) a0 = k (N.impl_above a0) := by
  unfold G.impl_above at g
  exact spec_l10Up_ok k a0 l_a0 g
def OP_impl_above (f0 : Int → Int → Int) : Orac := (orcX 19 [.val (.int .i64), .val (.int .i64)] (fun d => true) (fun d => [⟨(.int .i64), f0 d.1 d.2.1⟩]) nilO)
def O_impl_above : Orac := OP_impl_above N.impl_NodeOf
theorem ok_impl_above : OracOk Try.prog sigs O_impl_above := (orcX_ok rfl rfl (fun d g => said_impl_NodeOf d.1 d.2.1) nilO_ok)
def A_impl_above : Ann := fun b => cond (Nat.beq b 0) ⟨[(0, false), (3, true), (4, false)], []⟩ (⟨[], []⟩)
def S_impl_above_0 (v0_0 : (List Int)) (v0_1 : Int) (v0_2 : (List Int)) : St := [(kT 0, some (.tv (.v (.slice 3 (.int .i64)) v0_0 .no))), (kT 3, some (.tv (.v (.slice 3 (.int .i64)) [] (.own 24)))), (kT 4, some (.tv (.v (.int .i64) v0_1 .no))), (kR 24, some (.row 3 (.int .i64) v0_2))]
noncomputable def L_P_impl_above_0 (f0 : Int → Int → Int) (n m : Nat) : St → Option Ret := loopOf tab sigs (OP_impl_above f0) A_impl_above Try.f44 [((.slice 3 (.int .i64)), (.own 0))] n (fun _ => 0) 0 m
theorem bP_impl_above_0 (f0 : Int → Int → Int) (n m : Nat) (v0_0 : (List Int)) (v0_1 : Int) (v0_2 : (List Int)) : L_P_impl_above_0 f0 n (m + 1) (S_impl_above_0 v0_0 v0_1 v0_2) = impl_above_P_L0 f0 (fun r0 => some [⟨(.slice 3 (.int .i64)), r0⟩]) (fun v0_0 v0_1 v0_2 => L_P_impl_above_0 f0 n m (S_impl_above_0 v0_0 v0_1 v0_2)) v0_0 v0_1 v0_2 := by kernel_rfl
theorem aP_impl_above (f0 : Int → Int → Int) (n : Nat) (a0 : (List Int)) : absF tab sigs (OP_impl_above f0) A_impl_above Try.f44 [((.slice 3 (.int .i64)), (.own 0))] n [.val (.slice 3 (.int .i64)) a0] = impl_above_P f0 (fun r0 => some [⟨(.slice 3 (.int .i64)), r0⟩]) (fun v0_0 v0_1 v0_2 => L_P_impl_above_0 f0 n n (S_impl_above_0 v0_0 v0_1 v0_2)) a0 := by kernel_rfl
theorem said_impl_above (a0 : (List Int)) (g : G.impl_above a0 = true) : Said Try.prog sigs_44 44 [.val (.slice 3 (.int .i64)) a0] [⟨(.slice 3 (.int .i64)), N.impl_above a0⟩] := said_len (T := tab) (A := A_impl_above) tabOk ok_impl_above tabOk.follows Try.func44 (by kernel_rfl) (by kernel_rfl) (fun hl => let ⟨n, hn⟩ := impl_above_ok (ρ := Ret) (fun r0 => some [⟨(.slice 3 (.int .i64)), r0⟩]) a0 hl.1 g; ⟨n, (aP_impl_above N.impl_NodeOf n a0).trans (hn n (Nat.le_refl n) (fun  m v0_0 v0_1 v0_2 => L_P_impl_above_0 N.impl_NodeOf n  m (S_impl_above_0 v0_0 v0_1 v0_2)) (fun  m v0_0 v0_1 v0_2 => bP_impl_above_0 N.impl_NodeOf n  m v0_0 v0_1 v0_2))⟩)
abbrev G.impl_PathFor (l : List Int) (i : Int) : Bool := decide (l.length ≤ 1048576)
abbrev N.impl_PathFor (l : List Int) (i : Int) : List Int := pathFor l i
def impl_PathFor_P_L0 {ρ : Type} (f0 : Int → Int → Int → Bool) (f1 : (List Int) → (List Int)) (g1 : (List Int) → Bool) (k : (List Int) → Option ρ) (L0 : (List Int) → Int → (List Int) → Option ρ) (v0_0 : (List Int)) (v0_1 : Int) (v0_2 : (List Int)) : Option ρ := (cond (decide ((List.length v0_0 : Int) > (1 : Int))) (cond (decide ((xorI .i64 v0_1 (1 : Int)) < (List.length v0_0 : Int))) (cond (inRange (xorI .i64 v0_1 (1 : Int)) (List.length v0_0)) (cond (fit (List.length v0_2) (List.length [(List.getD v0_0 (Int.toNat (xorI .i64 v0_1 (1 : Int))) (0 : Int))])) (cond (g1 v0_0) (L0 (f1 v0_0) (IntKind.wrap .i64 (Int.tdiv v0_1 (2 : Int))) (List.append v0_2 [(List.getD v0_0 (Int.toNat (xorI .i64 v0_1 (1 : Int))) (0 : Int))])) none) none) none) (cond (g1 v0_0) (L0 (f1 v0_0) (IntKind.wrap .i64 (Int.tdiv v0_1 (2 : Int))) v0_2) none)) (k v0_2))
def impl_PathFor_P {ρ : Type} (f0 : Int → Int → Int → Bool) (f1 : (List Int) → (List Int)) (g1 : (List Int) → Bool) (k : (List Int) → Option ρ) (L0 : (List Int) → Int → (List Int) → Option ρ) (a0 : (List Int)) (a1 : Int) : Option ρ := (cond (!(f0 a1 (0 : Int) (IntKind.wrap .i64 ((List.length a0 : Int) - (1 : Int))))) (k ([] : (List Int))) (L0 a0 a1 ([] : (List Int))))
def impl_PathFor_L0 {ρ : Type} (k : (List Int) → Option ρ) (L0 : (List Int) → Int → (List Int) → Option ρ) (v0_0 : (List Int)) (v0_1 : Int) (v0_2 : (List Int)) : Option ρ := impl_PathFor_P_L0 N.impl_InRange N.impl_above G.impl_above k L0 v0_0 v0_1 v0_2
def impl_PathFor {ρ : Type} (k : (List Int) → Option ρ) (L0 : (List Int) → Int → (List Int) → Option ρ) (a0 : (List Int)) (a1 : Int) : Option ρ := impl_PathFor_P N.impl_InRange N.impl_above G.impl_above k L0 a0 a1
theorem impl_PathFor_ok {ρ : Type} (k : (List Int) → Option ρ) (a0 : (List Int)) (a1 : Int) (l_a0 : lnL (fun _ => True) a0) (g : G.impl_PathFor a0 a1 = true) : ∃ n0, ∀ n, n0 ≤ n → ∀ (L0 : Nat → (List Int) → Int → (List Int) → Option ρ) (h0 : ∀ ( m : Nat) (v0_0 : (List Int)) (v0_1 : Int) (v0_2 : (List Int)), L0 (m + 1) v0_0 v0_1 v0_2 = impl_PathFor_L0 k (L0 m) v0_0 v0_1 v0_2), impl_PathFor k (L0 n) a0 a1 = k (N.impl_PathFor a0 a1) := by
  unfold G.impl_PathFor at g
  have hlen : a0.length ≤ 1048576 := of_decide_eq_true g
  refine ⟨a0.length + 1, fun n hn L0 h0 => ?_⟩
  show impl_PathFor k (L0 n) a0 a1 = k (pathFor a0 a1)
  unfold impl_PathFor impl_PathFor_P pathFor
  dsimp only [N.impl_InRange]
  rw [wrap_id (n := (a0.length : Int) - 1) (by omega) (by omega)]
  cases hi1 : inR a1 0 ((a0.length : Int) - 1) with
  | false => rfl
  | true =>
    have hi2 : 0 ≤ a1 ∧ a1 ≤ (a0.length : Int) - 1 := by simpa [inR] using hi1
    show L0 n a0 a1 [] = k (pathN a0.length a1.toNat a0)
    refine (raw_meas (σ := Int × List Int × List Int) (L := fun m s => L0 m s.2.1 s.1 s.2.2) (R := fun s c => impl_PathFor_L0 k (fun l i o => c (i, l, o)) s.2.1 s.1 s.2.2)
      (fun m s => h0 m _ _ _) (fun s => 0 ≤ s.1 ∧ s.1 < s.2.1.length ∧ s.2.2.length + s.2.1.length ≤ 1048576) (fun s => s.2.1.length) (fun s => k (s.2.2 ++ pathN s.2.1.length s.1.toNat s.2.1)) (fun s c hI hc => ?_) n (a1, a0, []) ⟨hi2.1, by dsimp only; omega, by simp; omega⟩ (by dsimp only; omega)).trans (by simp)
    obtain ⟨i, l, o⟩ := s
    obtain ⟨b0, b1, b2⟩ := hI
    dsimp only at b0 b1 b2 hc ⊢
    obtain ⟨i, rfl⟩ := Int.eq_ofNat_of_zero_le b0
    simp only [Int.toNat_natCast] at hc ⊢
    by_cases h1 : 1 < l.length
    · obtain ⟨f, hf⟩ : ∃ f, l.length = f + 1 := ⟨l.length - 1, by omega⟩
      have hu := up_len l
      have e1 : decide ((l.length : Int) > 1) = true := by simp; omega
      have hx : xorI .i64 (i : Int) 1 = ((sib i : Nat) : Int) := xor_sib (by omega)
      have g1 : decide (l.length ≤ 1048576) = true := by simp; omega
      have step : ∀ o', o'.length ≤ o.length + 1 → c (((i / 2 : Nat) : Int), up l, o') = k (o' ++ pathN f (i / 2) (up l)) := by
        intro o' ho'
        have := hc (((i / 2 : Nat) : Int), up l, o') ⟨by simp; omega, by simp; omega, by simp; omega⟩ (by simp; omega)
        simp only [Int.toNat_natCast] at this
        rw [this, pathN_more _ f _ _ (by omega) (by omega)]
      rw [hf]
      unfold pathN
      rw [decide_eq_true h1]
      by_cases hs : sib i < l.length
      · have e3 : fit o.length 1 = true := fit_of (by omega)
        simp only [impl_PathFor_L0, impl_PathFor_P_L0, e1, hx, lt_nat, inRange_nat, decide_eq_true hs, cond_true, Int.toNat_natCast, List.length_singleton, e3, List.append_eq, tdiv2 (i := i) (by omega), G.impl_above, g1, N.impl_above]
        rw [step _ (by simp)]
        simp
      · simp only [impl_PathFor_L0, impl_PathFor_P_L0, e1, hx, lt_nat, inRange_nat, decide_eq_false hs, cond_true, cond_false, tdiv2 (i := i) (by omega), G.impl_above, g1, N.impl_above]
        rw [step _ (by omega)]
        simp
    · have e1 : decide ((l.length : Int) > 1) = false := by simp; omega
      obtain ⟨f, hf⟩ : ∃ f, l.length = f + 1 := ⟨l.length - 1, by omega⟩
      rw [hf]
      unfold pathN
      rw [decide_eq_false h1]
      simp [impl_PathFor_L0, impl_PathFor_P_L0, e1]
def OP_impl_PathFor (f0 : Int → Int → Int → Bool) (f1 : (List Int) → (List Int)) (g1 : (List Int) → Bool) : Orac := (orcX 44 [.val (.slice 3 (.int .i64))] (fun d => g1 d.1) (fun d => [⟨(.slice 3 (.int .i64)), f1 d.1⟩]) (orcX 43 [.val (.int .i64), .val (.int .i64), .val (.int .i64)] (fun d => true) (fun d => [⟨.bool, f0 d.1 d.2.1 d.2.2.1⟩]) nilO))
def O_impl_PathFor : Orac := OP_impl_PathFor N.impl_InRange N.impl_above G.impl_above
theorem ok_impl_PathFor : OracOk Try.prog sigs O_impl_PathFor := (orcX_ok rfl rfl (fun d g => said_impl_above d.1 g) (orcX_ok rfl rfl (fun d g => said_impl_InRange d.1 d.2.1 d.2.2.1) nilO_ok))
def A_impl_PathFor : Ann := fun b => cond (Nat.beq b 0) ⟨[(0, false), (1, false), (5, true)], []⟩ (⟨[], []⟩)
def S_impl_PathFor_0 (v0_0 : (List Int)) (v0_1 : Int) (v0_2 : (List Int)) : St := [(kT 0, some (.tv (.v (.slice 3 (.int .i64)) v0_0 .no))), (kT 1, some (.tv (.v (.int .i64) v0_1 .no))), (kT 5, some (.tv (.v (.slice 3 (.int .i64)) [] (.own 40)))), (kR 40, some (.row 3 (.int .i64) v0_2))]
noncomputable def L_P_impl_PathFor_0 (f0 : Int → Int → Int → Bool) (f1 : (List Int) → (List Int)) (g1 : (List Int) → Bool) (n m : Nat) : St → Option Ret := loopOf tab sigs (OP_impl_PathFor f0 f1 g1) A_impl_PathFor Try.f8 [((.slice 3 (.int .i64)), (.own 0))] n (fun _ => 0) 0 m
theorem bP_impl_PathFor_0 (f0 : Int → Int → Int → Bool) (f1 : (List Int) → (List Int)) (g1 : (List Int) → Bool) (n m : Nat) (v0_0 : (List Int)) (v0_1 : Int) (v0_2 : (List Int)) : L_P_impl_PathFor_0 f0 f1 g1 n (m + 1) (S_impl_PathFor_0 v0_0 v0_1 v0_2) = impl_PathFor_P_L0 f0 f1 g1 (fun r0 => some [⟨(.slice 3 (.int .i64)), r0⟩]) (fun v0_0 v0_1 v0_2 => L_P_impl_PathFor_0 f0 f1 g1 n m (S_impl_PathFor_0 v0_0 v0_1 v0_2)) v0_0 v0_1 v0_2 := by kernel_rfl
theorem aP_impl_PathFor (f0 : Int → Int → Int → Bool) (f1 : (List Int) → (List Int)) (g1 : (List Int) → Bool) (n : Nat) (a0 : (List Int)) (a1 : Int) : absF tab sigs (OP_impl_PathFor f0 f1 g1) A_impl_PathFor Try.f8 [((.slice 3 (.int .i64)), (.own 0))] n [.val (.slice 3 (.int .i64)) a0, .val (.int .i64) a1] = impl_PathFor_P f0 f1 g1 (fun r0 => some [⟨(.slice 3 (.int .i64)), r0⟩]) (fun v0_0 v0_1 v0_2 => L_P_impl_PathFor_0 f0 f1 g1 n n (S_impl_PathFor_0 v0_0 v0_1 v0_2)) a0 a1 := by kernel_rfl
theorem said_impl_PathFor (a0 : (List Int)) (a1 : Int) (g : G.impl_PathFor a0 a1 = true) : Said Try.prog sigs_8 8 [.val (.slice 3 (.int .i64)) a0, .val (.int .i64) a1] [⟨(.slice 3 (.int .i64)), N.impl_PathFor a0 a1⟩] := said_len (T := tab) (A := A_impl_PathFor) tabOk ok_impl_PathFor tabOk.follows Try.func8 (by kernel_rfl) (by kernel_rfl) (fun hl => let ⟨n, hn⟩ := impl_PathFor_ok (ρ := Ret) (fun r0 => some [⟨(.slice 3 (.int .i64)), r0⟩]) a0 a1 hl.1 g; ⟨n, (aP_impl_PathFor N.impl_InRange N.impl_above G.impl_above n a0 a1).trans (hn n (Nat.le_refl n) (fun  m v0_0 v0_1 v0_2 => L_P_impl_PathFor_0 N.impl_InRange N.impl_above G.impl_above n  m (S_impl_PathFor_0 v0_0 v0_1 v0_2)) (fun  m v0_0 v0_1 v0_2 => bP_impl_PathFor_0 N.impl_InRange N.impl_above G.impl_above n  m v0_0 v0_1 v0_2))⟩)
abbrev G.impl_ProveEntry (l : List TEntry) (s : ByteArray) : Bool := decide (wEs l ≤ 1048576)
abbrev N.impl_ProveEntry (l : List TEntry) (s : ByteArray) : TProof × Bool := proveEntry l s
def impl_ProveEntry_P {ρ : Type} (f0 : (List TEntry) → ByteArray → Int) (f1 : (List TEntry) → (List Int)) (g1 : (List TEntry) → Bool) (f2 : (List Int) → Int → (List Int)) (g2 : (List Int) → Int → Bool) (k : TProof → Bool → Option ρ) (a0 : (List TEntry)) (a1 : ByteArray) : Option ρ := (cond (decide ((f0 a0 a1) < (0 : Int))) (k ((0 : Int), []) false) (cond (g1 a0) (cond (g2 (f1 a0) (f0 a0 a1)) (k ((f0 a0 a1), (f2 (f1 a0) (f0 a0 a1))) true) none) none))
def impl_ProveEntry {ρ : Type} (k : TProof → Bool → Option ρ) (a0 : (List TEntry)) (a1 : ByteArray) : Option ρ := impl_ProveEntry_P N.impl_FindEntry N.impl_LeavesOf G.impl_LeavesOf N.impl_PathFor G.impl_PathFor k a0 a1
theorem impl_ProveEntry_ok {ρ : Type} (k : TProof → Bool → Option ρ) (a0 : (List TEntry)) (a1 : ByteArray) (l_a0 : lnL (fun y => (True ∧ (True ∧ (True ∧ lnL (fun _ => True) y.2.2.2)))) a0) (g : G.impl_ProveEntry a0 a1 = true) : impl_ProveEntry k  a0 a1 = k (N.impl_ProveEntry a0 a1).1 (N.impl_ProveEntry a0 a1).2 := by
  unfold G.impl_ProveEntry at g
  have gl : (a0.map leafOf).length ≤ 1048576 := by rw [List.length_map]; exact Nat.le_trans (wEs_ge a0) (of_decide_eq_true g)
  simp only [impl_ProveEntry, impl_ProveEntry_P, N.impl_FindEntry, G.impl_LeavesOf, N.impl_LeavesOf, G.impl_PathFor, N.impl_PathFor, g, decide_eq_true gl, cond_true, proveEntry]
  cases decide (findEntry a0 a1 < 0) <;> rfl
def OP_impl_ProveEntry (f0 : (List TEntry) → ByteArray → Int) (f1 : (List TEntry) → (List Int)) (g1 : (List TEntry) → Bool) (f2 : (List Int) → Int → (List Int)) (g2 : (List Int) → Int → Bool) : Orac := (orcX 8 [.val (.slice 3 (.int .i64)), .val (.int .i64)] (fun d => g2 d.1 d.2.1) (fun d => [⟨(.slice 3 (.int .i64)), f2 d.1 d.2.1⟩]) (orcX 53 [.val (.slice 48 TyEntry)] (fun d => g1 d.1) (fun d => [⟨(.slice 3 (.int .i64)), f1 d.1⟩]) (orcX 59 [.val (.slice 48 TyEntry), .val .str] (fun d => true) (fun d => [⟨(.int .i64), f0 d.1 d.2.1⟩]) nilO)))
def O_impl_ProveEntry : Orac := OP_impl_ProveEntry N.impl_FindEntry N.impl_LeavesOf G.impl_LeavesOf N.impl_PathFor G.impl_PathFor
theorem ok_impl_ProveEntry : OracOk Try.prog sigs O_impl_ProveEntry := (orcX_ok rfl rfl (fun d g => said_impl_PathFor d.1 d.2.1 g) (orcX_ok rfl rfl (fun d g => said_impl_LeavesOf d.1 g) (orcX_ok rfl rfl (fun d g => said_impl_FindEntry d.1 d.2.1) nilO_ok)))
def A_impl_ProveEntry : Ann := fun b => ⟨[], []⟩
theorem aP_impl_ProveEntry (f0 : (List TEntry) → ByteArray → Int) (f1 : (List TEntry) → (List Int)) (g1 : (List TEntry) → Bool) (f2 : (List Int) → Int → (List Int)) (g2 : (List Int) → Int → Bool) (n : Nat) (a0 : (List TEntry)) (a1 : ByteArray) : absF tab sigs (OP_impl_ProveEntry f0 f1 g1 f2 g2) A_impl_ProveEntry Try.f21 [((.pair (.int .i64) (.slice 3 (.int .i64))), (.pair .no (.own 0))), (.bool, .no)] n [.val (.slice 48 TyEntry) a0, .val .str a1] = impl_ProveEntry_P f0 f1 g1 f2 g2 (fun r0 r1 => some [⟨(.pair (.int .i64) (.slice 3 (.int .i64))), r0⟩, ⟨.bool, r1⟩])  a0 a1 := by kernel_rfl
theorem said_impl_ProveEntry (a0 : (List TEntry)) (a1 : ByteArray) (g : G.impl_ProveEntry a0 a1 = true) : Said Try.prog sigs_21 21 [.val (.slice 48 TyEntry) a0, .val .str a1] [⟨(.pair (.int .i64) (.slice 3 (.int .i64))), (N.impl_ProveEntry a0 a1).1⟩, ⟨.bool, (N.impl_ProveEntry a0 a1).2⟩] := said_len (T := tab) (A := A_impl_ProveEntry) tabOk ok_impl_ProveEntry tabOk.follows Try.func21 (by kernel_rfl) (by kernel_rfl) (fun hl => ⟨0, (aP_impl_ProveEntry N.impl_FindEntry N.impl_LeavesOf G.impl_LeavesOf N.impl_PathFor G.impl_PathFor 0 a0 a1).trans (impl_ProveEntry_ok (ρ := Ret) (fun r0 r1 => some [⟨(.pair (.int .i64) (.slice 3 (.int .i64))), r0⟩, ⟨.bool, r1⟩]) a0 a1 hl.1 g)⟩)
abbrev N.spec_FindEntry (l : List TEntry) (s : ByteArray) : Int := findEntry l s
def spec_FindEntry_L0 {ρ : Type} (k : Int → Option ρ) (L0 : (List TEntry) → ByteArray → Int → Option ρ) (v0_0 : (List TEntry)) (v0_1 : ByteArray) (v0_2 : Int) : Option ρ := (cond (decide (v0_2 < (List.length v0_0 : Int))) (cond (inRange v0_2 (List.length v0_0)) (cond ((ByteArray.toList (List.getD v0_0 (Int.toNat v0_2) (ByteArray.empty, ((0 : Int), ((0 : Int), [])))).1) == (ByteArray.toList v0_1)) (k v0_2) (L0 v0_0 v0_1 (IntKind.wrap .i64 (v0_2 + (1 : Int))))) none) (k (-1 : Int)))
def spec_FindEntry {ρ : Type} (k : Int → Option ρ) (L0 : (List TEntry) → ByteArray → Int → Option ρ) (a0 : (List TEntry)) (a1 : ByteArray) : Option ρ := (L0 a0 a1 (0 : Int))
theorem spec_FindEntry_ok {ρ : Type} (k : Int → Option ρ) (a0 : (List TEntry)) (a1 : ByteArray) (l_a0 : lnL (fun y => (True ∧ (True ∧ (True ∧ lnL (fun _ => True) y.2.2.2)))) a0) : ∃ n0, ∀ n, n0 ≤ n → ∀ (L0 : Nat → (List TEntry) → ByteArray → Int → Option ρ) (h0 : ∀ ( m : Nat) (v0_0 : (List TEntry)) (v0_1 : ByteArray) (v0_2 : Int), L0 (m + 1) v0_0 v0_1 v0_2 = spec_FindEntry_L0 k (L0 m) v0_0 v0_1 v0_2), spec_FindEntry k (L0 n) a0 a1 = k (N.spec_FindEntry a0 a1) := by
  refine ⟨a0.length + 1, fun n hn L0 h0 => ?_⟩
  refine raw_idx (a := a0) (ByteArray.empty, (0, (0, []))) (fun e => eqStr e.1 a1) (k := k) (σ := Unit) (s := ()) (L := fun m i _ => L0 m a0 a1 i) (R := fun i s c => spec_FindEntry_L0 k (fun _ _ i => c i ()) a0 a1 i) (fun m i s => h0 m a0 a1 i) (fun j s c hj => ?_) (fun s c => ?_) hn
  · have : j < big := by have := l_a0.1; omega
    simp [spec_FindEntry_L0, lt_nat, inRange_nat, hj, wrap_succ this, eqStr]
  · simp [spec_FindEntry_L0]
def O_spec_FindEntry : Orac := nilO
theorem ok_spec_FindEntry : OracOk Try.prog sigs O_spec_FindEntry := nilO_ok
def A_spec_FindEntry : Ann := fun b => cond (Nat.beq b 0) ⟨[(0, false), (1, false), (5, false)], []⟩ (⟨[], []⟩)
def S_spec_FindEntry_0 (v0_0 : (List TEntry)) (v0_1 : ByteArray) (v0_2 : Int) : St := [(kT 0, some (.tv (.v (.slice 48 TyEntry) v0_0 .no))), (kT 1, some (.tv (.v .str v0_1 .no))), (kT 5, some (.tv (.v (.int .i64) v0_2 .no)))]
noncomputable def L_spec_FindEntry_0 (n m : Nat) : St → Option Ret := loopOf tab sigs O_spec_FindEntry A_spec_FindEntry Try.f25 [((.int .i64), .no)] n (fun _ => 0) 0 m
theorem b_spec_FindEntry_0 (n m : Nat) (v0_0 : (List TEntry)) (v0_1 : ByteArray) (v0_2 : Int) : L_spec_FindEntry_0 n (m + 1) (S_spec_FindEntry_0 v0_0 v0_1 v0_2) = spec_FindEntry_L0 (fun r0 => some [⟨(.int .i64), r0⟩]) (fun v0_0 v0_1 v0_2 => L_spec_FindEntry_0 n m (S_spec_FindEntry_0 v0_0 v0_1 v0_2)) v0_0 v0_1 v0_2 := by kernel_rfl
theorem a_spec_FindEntry (n : Nat) (a0 : (List TEntry)) (a1 : ByteArray) : absF tab sigs O_spec_FindEntry A_spec_FindEntry Try.f25 [((.int .i64), .no)] n [.val (.slice 48 TyEntry) a0, .val .str a1] = spec_FindEntry (fun r0 => some [⟨(.int .i64), r0⟩]) (fun v0_0 v0_1 v0_2 => L_spec_FindEntry_0 n n (S_spec_FindEntry_0 v0_0 v0_1 v0_2)) a0 a1 := by kernel_rfl
theorem said_spec_FindEntry (a0 : (List TEntry)) (a1 : ByteArray) : Said Try.prog sigs_25 25 [.val (.slice 48 TyEntry) a0, .val .str a1] [⟨(.int .i64), N.spec_FindEntry a0 a1⟩] := said_len (T := tab) (A := A_spec_FindEntry) tabOk ok_spec_FindEntry tabOk.follows Try.func25 (by kernel_rfl) (by kernel_rfl) (fun hl => let ⟨n, hn⟩ := spec_FindEntry_ok (ρ := Ret) (fun r0 => some [⟨(.int .i64), r0⟩]) a0 a1 hl.1; ⟨n, (a_spec_FindEntry n a0 a1).trans (hn n (Nat.le_refl n) (fun  m v0_0 v0_1 v0_2 => L_spec_FindEntry_0 n  m (S_spec_FindEntry_0 v0_0 v0_1 v0_2)) (fun  m v0_0 v0_1 v0_2 => b_spec_FindEntry_0 n  m v0_0 v0_1 v0_2))⟩)
abbrev G.spec_BytesToInts (b : List Int) : Bool := decide (b.length ≤ 1048577)
abbrev N.spec_BytesToInts (b : List Int) : List Int := bytesInts b
def spec_BytesToInts_L0 {ρ : Type} (k : (List Int) → Option ρ) (L0 : (List Int) → Int → (List Int) → Option ρ) (v0_0 : (List Int)) (v0_1 : Int) (v0_2 : (List Int)) : Option ρ := (cond (decide (v0_1 < (List.length v0_0 : Int))) (cond (inRange v0_1 (List.length v0_0)) (cond (fit (List.length v0_2) (List.length [(IntKind.wrap .i64 (List.getD v0_0 (Int.toNat v0_1) (0 : Int)))])) (L0 v0_0 (IntKind.wrap .i64 (v0_1 + (1 : Int))) (List.append v0_2 [(IntKind.wrap .i64 (List.getD v0_0 (Int.toNat v0_1) (0 : Int)))])) none) none) (k v0_2))
def spec_BytesToInts {ρ : Type} (k : (List Int) → Option ρ) (L0 : (List Int) → Int → (List Int) → Option ρ) (a0 : (List Int)) : Option ρ := (L0 a0 (0 : Int) [(List.length a0 : Int)])
theorem spec_BytesToInts_ok {ρ : Type} (k : (List Int) → Option ρ) (a0 : (List Int)) (l_a0 : lnL (fun _ => True) a0) (g : G.spec_BytesToInts a0 = true) : ∃ n0, ∀ n, n0 ≤ n → ∀ (L0 : Nat → (List Int) → Int → (List Int) → Option ρ) (h0 : ∀ ( m : Nat) (v0_0 : (List Int)) (v0_1 : Int) (v0_2 : (List Int)), L0 (m + 1) v0_0 v0_1 v0_2 = spec_BytesToInts_L0 k (L0 m) v0_0 v0_1 v0_2), spec_BytesToInts k (L0 n) a0 = k (N.spec_BytesToInts a0) := by
  unfold G.spec_BytesToInts at g
  have hlen : a0.length ≤ 1048577 := of_decide_eq_true g
  refine ⟨a0.length + 1, fun n hn L0 h0 => ?_⟩
  refine (raw_foldl (a := a0) 0 (fun o x => o ++ [IntKind.wrap .i64 x]) (k := k) (s := [(a0.length : Int)]) (L := fun m i s => L0 m a0 i s) (R := fun i s c => spec_BytesToInts_L0 k (fun _ i s => c i s) a0 i s) (fun m i s => h0 m a0 i s) (fun j o => o.length ≤ j + 1) (fun j s c hj hI => ?_) (fun j s hj hI => by simp; exact hI) (fun s c => ?_) hn (by simp)).trans (by rw [foldl_app]; rfl)
  · have : j < big := by unfold big; omega
    have e3 : fit s.length 1 = true := fit_of (by omega)
    simp only [spec_BytesToInts_L0, lt_nat, inRange_nat, decide_eq_true hj, cond_true, Int.toNat_natCast, List.length_singleton, e3, wrap_succ this, List.append_eq]
  · simp [spec_BytesToInts_L0]
def O_spec_BytesToInts : Orac := nilO
theorem ok_spec_BytesToInts : OracOk Try.prog sigs O_spec_BytesToInts := nilO_ok
def A_spec_BytesToInts : Ann := fun b => cond (Nat.beq b 0) ⟨[(0, false), (3, true), (4, false)], []⟩ (⟨[], []⟩)
def S_spec_BytesToInts_0 (v0_0 : (List Int)) (v0_1 : Int) (v0_2 : (List Int)) : St := [(kT 0, some (.tv (.v (.slice 5 (.int .u8)) v0_0 .no))), (kT 3, some (.tv (.v (.slice 3 (.int .i64)) [] (.own 24)))), (kT 4, some (.tv (.v (.int .i64) v0_1 .no))), (kR 24, some (.row 3 (.int .i64) v0_2))]
noncomputable def L_spec_BytesToInts_0 (n m : Nat) : St → Option Ret := loopOf tab sigs O_spec_BytesToInts A_spec_BytesToInts Try.f133 [((.slice 3 (.int .i64)), (.own 0))] n (fun _ => 0) 0 m
theorem b_spec_BytesToInts_0 (n m : Nat) (v0_0 : (List Int)) (v0_1 : Int) (v0_2 : (List Int)) : L_spec_BytesToInts_0 n (m + 1) (S_spec_BytesToInts_0 v0_0 v0_1 v0_2) = spec_BytesToInts_L0 (fun r0 => some [⟨(.slice 3 (.int .i64)), r0⟩]) (fun v0_0 v0_1 v0_2 => L_spec_BytesToInts_0 n m (S_spec_BytesToInts_0 v0_0 v0_1 v0_2)) v0_0 v0_1 v0_2 := by kernel_rfl
theorem a_spec_BytesToInts (n : Nat) (a0 : (List Int)) : absF tab sigs O_spec_BytesToInts A_spec_BytesToInts Try.f133 [((.slice 3 (.int .i64)), (.own 0))] n [.val (.slice 5 (.int .u8)) a0] = spec_BytesToInts (fun r0 => some [⟨(.slice 3 (.int .i64)), r0⟩]) (fun v0_0 v0_1 v0_2 => L_spec_BytesToInts_0 n n (S_spec_BytesToInts_0 v0_0 v0_1 v0_2)) a0 := by kernel_rfl
theorem said_spec_BytesToInts (a0 : (List Int)) (g : G.spec_BytesToInts a0 = true) : Said Try.prog sigs_133 133 [.val (.slice 5 (.int .u8)) a0] [⟨(.slice 3 (.int .i64)), N.spec_BytesToInts a0⟩] := said_len (T := tab) (A := A_spec_BytesToInts) tabOk ok_spec_BytesToInts tabOk.follows Try.func133 (by kernel_rfl) (by kernel_rfl) (fun hl => let ⟨n, hn⟩ := spec_BytesToInts_ok (ρ := Ret) (fun r0 => some [⟨(.slice 3 (.int .i64)), r0⟩]) a0 hl.1 g; ⟨n, (a_spec_BytesToInts n a0).trans (hn n (Nat.le_refl n) (fun  m v0_0 v0_1 v0_2 => L_spec_BytesToInts_0 n  m (S_spec_BytesToInts_0 v0_0 v0_1 v0_2)) (fun  m v0_0 v0_1 v0_2 => b_spec_BytesToInts_0 n  m v0_0 v0_1 v0_2))⟩)
abbrev G.spec_LabelInts (s : ByteArray) : Bool := decide (s.size ≤ 1048576)
abbrev N.spec_LabelInts (s : ByteArray) : List Int := labelInts s
def spec_LabelInts {ρ : Type} (k : (List Int) → Option ρ) (a0 : ByteArray) : Option ρ := (cond (decide ((ByteArray.size a0 : Int) ≤ 549755813888)) (cond (G.spec_BytesToInts (bytesOf a0)) (k (N.spec_BytesToInts (bytesOf a0))) none) none)
theorem spec_LabelInts_ok {ρ : Type} (k : (List Int) → Option ρ) (a0 : ByteArray) (g : G.spec_LabelInts a0 = true) : spec_LabelInts k  a0 = k (N.spec_LabelInts a0) := by
  unfold G.spec_LabelInts at g
  have h : a0.size ≤ 1048576 := of_decide_eq_true g
  have h1 : decide ((a0.size : Int) ≤ 549755813888) = true := by simp; omega
  have h2 : G.spec_BytesToInts (bytesOf a0) = true := decide_eq_true (by rw [bytesOf_length]; omega)
  show cond _ (cond _ _ none) none = _
  rw [h1, h2]
  rfl
def OP_spec_LabelInts (f0 : (List Int) → (List Int)) (g0 : (List Int) → Bool) : Orac := (orcX 133 [.val (.slice 5 (.int .u8))] (fun d => g0 d.1) (fun d => [⟨(.slice 3 (.int .i64)), f0 d.1⟩]) nilO)
def O_spec_LabelInts : Orac := OP_spec_LabelInts N.spec_BytesToInts G.spec_BytesToInts
def spec_LabelInts_P {ρ : Type} (f0 : (List Int) → (List Int)) (g0 : (List Int) → Bool) (k : (List Int) → Option ρ) (a0 : ByteArray) : Option ρ := (cond (decide ((ByteArray.size a0 : Int) ≤ 549755813888)) (cond (g0 (bytesOf a0)) (k (f0 (bytesOf a0))) none) none)
theorem ok_spec_LabelInts : OracOk Try.prog sigs O_spec_LabelInts := (orcX_ok rfl rfl (fun d g => said_spec_BytesToInts d.1 g) nilO_ok)
def A_spec_LabelInts : Ann := fun b => ⟨[], []⟩
theorem aP_spec_LabelInts (f0 : (List Int) → (List Int)) (g0 : (List Int) → Bool) (n : Nat) (a0 : ByteArray) : absF tab sigs (OP_spec_LabelInts f0 g0) A_spec_LabelInts Try.f113 [((.slice 3 (.int .i64)), (.own 0))] n [.val .str a0] = spec_LabelInts_P f0 g0 (fun r0 => some [⟨(.slice 3 (.int .i64)), r0⟩])  a0 := by kernel_rfl
theorem said_spec_LabelInts (a0 : ByteArray) (g : G.spec_LabelInts a0 = true) : Said Try.prog sigs_113 113 [.val .str a0] [⟨(.slice 3 (.int .i64)), N.spec_LabelInts a0⟩] := said_len (T := tab) (A := A_spec_LabelInts) tabOk ok_spec_LabelInts tabOk.follows Try.func113 (by kernel_rfl) (by kernel_rfl) (fun hl => ⟨0, (aP_spec_LabelInts N.spec_BytesToInts G.spec_BytesToInts 0 a0).trans (spec_LabelInts_ok (ρ := Ret) (fun r0 => some [⟨(.slice 3 (.int .i64)), r0⟩]) a0 g)⟩)
abbrev G.spec_EntryInts (e : TEntry) : Bool := decide (wE e ≤ 1048576)
abbrev N.spec_EntryInts (e : TEntry) : List Int := entryInts e
def spec_EntryInts_P_L0 {ρ : Type} (f0 : ByteArray → (List Int)) (g0 : ByteArray → Bool) (k : (List Int) → Option ρ) (L0 : Int → TEntry → (List Int) → Option ρ) (v0_0 : Int) (v0_1 : TEntry) (v0_2 : (List Int)) : Option ρ := (cond (decide (v0_0 < (List.length v0_1.2.2.2 : Int))) (cond (inRange v0_0 (List.length v0_1.2.2.2)) (cond (g0 (List.getD v0_1.2.2.2 (Int.toNat v0_0) ByteArray.empty)) (cond (fit (List.length v0_2) (List.length (f0 (List.getD v0_1.2.2.2 (Int.toNat v0_0) ByteArray.empty)))) (L0 (IntKind.wrap .i64 (v0_0 + (1 : Int))) v0_1 (List.append v0_2 (f0 (List.getD v0_1.2.2.2 (Int.toNat v0_0) ByteArray.empty)))) none) none) none) (k v0_2))
def spec_EntryInts_P {ρ : Type} (f0 : ByteArray → (List Int)) (g0 : ByteArray → Bool) (k : (List Int) → Option ρ) (L0 : Int → TEntry → (List Int) → Option ρ) (a0 : TEntry) : Option ρ := (cond (g0 a0.1) (cond (fit (List.length (f0 a0.1)) (List.length [a0.2.1, a0.2.2.1, (List.length a0.2.2.2 : Int)])) (L0 (0 : Int) a0 (List.append (f0 a0.1) [a0.2.1, a0.2.2.1, (List.length a0.2.2.2 : Int)])) none) none)
def spec_EntryInts_L0 {ρ : Type} (k : (List Int) → Option ρ) (L0 : Int → TEntry → (List Int) → Option ρ) (v0_0 : Int) (v0_1 : TEntry) (v0_2 : (List Int)) : Option ρ := spec_EntryInts_P_L0 N.spec_LabelInts G.spec_LabelInts k L0 v0_0 v0_1 v0_2
def spec_EntryInts {ρ : Type} (k : (List Int) → Option ρ) (L0 : Int → TEntry → (List Int) → Option ρ) (a0 : TEntry) : Option ρ := spec_EntryInts_P N.spec_LabelInts G.spec_LabelInts k L0 a0
theorem spec_EntryInts_ok {ρ : Type} (k : (List Int) → Option ρ) (a0 : TEntry) (l_a0 : (True ∧ (True ∧ (True ∧ lnL (fun _ => True) a0.2.2.2)))) (g : G.spec_EntryInts a0 = true) : ∃ n0, ∀ n, n0 ≤ n → ∀ (L0 : Nat → Int → TEntry → (List Int) → Option ρ) (h0 : ∀ ( m : Nat) (v0_0 : Int) (v0_1 : TEntry) (v0_2 : (List Int)), L0 (m + 1) v0_0 v0_1 v0_2 = spec_EntryInts_L0 k (L0 m) v0_0 v0_1 v0_2), spec_EntryInts k (L0 n) a0 = k (N.spec_EntryInts a0) := by
  unfold G.spec_EntryInts at g
  have hw : wE a0 ≤ 1048576 := of_decide_eq_true g
  have hw2 : a0.1.size + (a0.2.2.2.length + wsum ByteArray.size a0.2.2.2) ≤ 1048576 := hw
  have g1 : decide (a0.1.size ≤ 1048576) = true := by simp; omega
  have f1 : fit (labelInts a0.1).length 3 = true := fit_of (by rw [labelInts_len]; omega)
  refine ⟨a0.2.2.2.length + 1, fun n hn L0 h0 => ?_⟩
  show cond (decide (a0.1.size ≤ 1048576)) (cond (fit (labelInts a0.1).length 3) (L0 n 0 a0 (labelInts a0.1 ++ [a0.2.1, a0.2.2.1, (a0.2.2.2.length : Int)])) none) none = k (entryInts a0)
  rw [g1, f1]
  have key := raw_run0 (σ := List Int) (L := fun m i s => L0 m i a0 s) (R := fun i s c => spec_EntryInts_L0 k (fun i _ s => c i s) i a0 s) (fun m i s => h0 m i a0 s) a0.2.2.2.length (fun j s => s.length + wP (a0.2.2.2.drop j) ≤ 4194304) (fun j s => k (s ++ (a0.2.2.2.drop j).flatMap labelInts)) (fun j s c hj hI hc => ?_) (fun s c _ => ?_) hn (s := labelInts a0.1 ++ [a0.2.1, a0.2.2.1, (a0.2.2.2.length : Int)]) (by rw [List.drop_zero, List.length_append, labelInts_len]; unfold wP; simp; omega)
  · rw [List.drop_zero] at key
    exact key
  · have hd := drop_cons ByteArray.empty hj
    have hp : wP (a0.2.2.2.drop j) = 1 + (a0.2.2.2.getD j ByteArray.empty).size + wP (a0.2.2.2.drop (j + 1)) := by
      rw [hd]
      unfold wP
      rw [List.length_cons]
      show _ + (_ + _) = _
      omega
    have hm := wsum_mem (wt := ByteArray.size) (getD_mem (d := ByteArray.empty) hj)
    have g2 : decide ((a0.2.2.2.getD j ByteArray.empty).size ≤ 1048576) = true := by simp only [decide_eq_true_eq]; omega
    have e3 : fit s.length (labelInts (a0.2.2.2.getD j ByteArray.empty)).length = true := fit_of (by rw [labelInts_len]; omega)
    have := hc (s ++ labelInts (a0.2.2.2.getD j ByteArray.empty)) (by rw [List.length_append, labelInts_len]; omega)
    simp only [spec_EntryInts_L0, spec_EntryInts_P_L0, lt_nat, inRange_nat, decide_eq_true hj, cond_true, Int.toNat_natCast, G.spec_LabelInts, N.spec_LabelInts, g2, e3, wrap_succ (j := j) (by unfold big; omega), List.append_eq, this]
    rw [hd]
    simp
  · simp [spec_EntryInts_L0, spec_EntryInts_P_L0]
def OP_spec_EntryInts (f0 : ByteArray → (List Int)) (g0 : ByteArray → Bool) : Orac := (orcX 113 [.val .str] (fun d => g0 d.1) (fun d => [⟨(.slice 3 (.int .i64)), f0 d.1⟩]) nilO)
def O_spec_EntryInts : Orac := OP_spec_EntryInts N.spec_LabelInts G.spec_LabelInts
theorem ok_spec_EntryInts : OracOk Try.prog sigs O_spec_EntryInts := (orcX_ok rfl rfl (fun d g => said_spec_LabelInts d.1 g) nilO_ok)
def A_spec_EntryInts : Ann := fun b => cond (Nat.beq b 0) ⟨[(1, false), (3, true), (4, false)], [(1, false)]⟩ (⟨[], []⟩)
def S_spec_EntryInts_0 (v0_0 : Int) (v0_1 : TEntry) (v0_2 : (List Int)) : St := [(kT 1, some (.tv (.box 1 []))), (kT 3, some (.tv (.v (.slice 3 (.int .i64)) [] (.own 24)))), (kT 4, some (.tv (.v (.int .i64) v0_0 .no))), (kB 1, some (.box TyEntry v0_1 .no)), (kR 24, some (.row 3 (.int .i64) v0_2))]
noncomputable def L_P_spec_EntryInts_0 (f0 : ByteArray → (List Int)) (g0 : ByteArray → Bool) (n m : Nat) : St → Option Ret := loopOf tab sigs (OP_spec_EntryInts f0 g0) A_spec_EntryInts Try.f96 [((.slice 3 (.int .i64)), (.own 0))] n (fun _ => 0) 0 m
theorem bP_spec_EntryInts_0 (f0 : ByteArray → (List Int)) (g0 : ByteArray → Bool) (n m : Nat) (v0_0 : Int) (v0_1 : TEntry) (v0_2 : (List Int)) : L_P_spec_EntryInts_0 f0 g0 n (m + 1) (S_spec_EntryInts_0 v0_0 v0_1 v0_2) = spec_EntryInts_P_L0 f0 g0 (fun r0 => some [⟨(.slice 3 (.int .i64)), r0⟩]) (fun v0_0 v0_1 v0_2 => L_P_spec_EntryInts_0 f0 g0 n m (S_spec_EntryInts_0 v0_0 v0_1 v0_2)) v0_0 v0_1 v0_2 := by kernel_rfl
theorem aP_spec_EntryInts (f0 : ByteArray → (List Int)) (g0 : ByteArray → Bool) (n : Nat) (a0 : TEntry) : absF tab sigs (OP_spec_EntryInts f0 g0) A_spec_EntryInts Try.f96 [((.slice 3 (.int .i64)), (.own 0))] n [.val TyEntry a0] = spec_EntryInts_P f0 g0 (fun r0 => some [⟨(.slice 3 (.int .i64)), r0⟩]) (fun v0_0 v0_1 v0_2 => L_P_spec_EntryInts_0 f0 g0 n n (S_spec_EntryInts_0 v0_0 v0_1 v0_2)) a0 := by kernel_rfl
theorem said_spec_EntryInts (a0 : TEntry) (g : G.spec_EntryInts a0 = true) : Said Try.prog sigs_96 96 [.val TyEntry a0] [⟨(.slice 3 (.int .i64)), N.spec_EntryInts a0⟩] := said_len (T := tab) (A := A_spec_EntryInts) tabOk ok_spec_EntryInts tabOk.follows Try.func96 (by kernel_rfl) (by kernel_rfl) (fun hl => let ⟨n, hn⟩ := spec_EntryInts_ok (ρ := Ret) (fun r0 => some [⟨(.slice 3 (.int .i64)), r0⟩]) a0 hl.1 g; ⟨n, (aP_spec_EntryInts N.spec_LabelInts G.spec_LabelInts n a0).trans (hn n (Nat.le_refl n) (fun  m v0_0 v0_1 v0_2 => L_P_spec_EntryInts_0 N.spec_LabelInts G.spec_LabelInts n  m (S_spec_EntryInts_0 v0_0 v0_1 v0_2)) (fun  m v0_0 v0_1 v0_2 => bP_spec_EntryInts_0 N.spec_LabelInts G.spec_LabelInts n  m v0_0 v0_1 v0_2))⟩)
abbrev G.spec_LeafOf (e : TEntry) : Bool := decide (wE e ≤ 1048576)
abbrev N.spec_LeafOf (e : TEntry) : Int := leafOf e
def spec_LeafOf {ρ : Type} (k : Int → Option ρ) (a0 : TEntry) : Option ρ := (cond (G.spec_EntryInts a0) (cond (fit (List.length [(227 : Int)]) (List.length (N.spec_EntryInts a0))) (k (N.spec_Hash (List.append [(227 : Int)] (N.spec_EntryInts a0)))) none) none)
theorem spec_LeafOf_ok {ρ : Type} (k : Int → Option ρ) (a0 : TEntry) (l_a0 : (True ∧ (True ∧ (True ∧ lnL (fun _ => True) a0.2.2.2)))) (g : G.spec_LeafOf a0 = true) : spec_LeafOf k  a0 = k (N.spec_LeafOf a0) := by
  unfold G.spec_LeafOf at g
  have hw : wE a0 ≤ 1048576 := of_decide_eq_true g
  have f1 : fit 1 (entryInts a0).length = true := fit_of (by rw [entryInts_len]; omega)
  show cond (decide (wE a0 ≤ 1048576)) (cond (fit 1 (entryInts a0).length) _ none) none = _
  rw [g, f1]
  rfl
def OP_spec_LeafOf (f0 : TEntry → (List Int)) (g0 : TEntry → Bool) (f1 : (List Int) → Int) : Orac := (orcX 48 [.val (.slice 3 (.int .i64))] (fun d => true) (fun d => [⟨(.int .i64), f1 d.1⟩]) (orcX 96 [.val TyEntry] (fun d => g0 d.1) (fun d => [⟨(.slice 3 (.int .i64)), f0 d.1⟩]) nilO))
def O_spec_LeafOf : Orac := OP_spec_LeafOf N.spec_EntryInts G.spec_EntryInts N.spec_Hash
def spec_LeafOf_P {ρ : Type} (f0 : TEntry → (List Int)) (g0 : TEntry → Bool) (f1 : (List Int) → Int) (k : Int → Option ρ) (a0 : TEntry) : Option ρ := (cond (g0 a0) (cond (fit (List.length [(227 : Int)]) (List.length (f0 a0))) (k (f1 (List.append [(227 : Int)] (f0 a0)))) none) none)
theorem ok_spec_LeafOf : OracOk Try.prog sigs O_spec_LeafOf := (orcX_ok rfl rfl (fun d g => said_spec_Hash d.1) (orcX_ok rfl rfl (fun d g => said_spec_EntryInts d.1 g) nilO_ok))
def A_spec_LeafOf : Ann := fun b => ⟨[], []⟩
theorem aP_spec_LeafOf (f0 : TEntry → (List Int)) (g0 : TEntry → Bool) (f1 : (List Int) → Int) (n : Nat) (a0 : TEntry) : absF tab sigs (OP_spec_LeafOf f0 g0 f1) A_spec_LeafOf Try.f70 [((.int .i64), .no)] n [.val TyEntry a0] = spec_LeafOf_P f0 g0 f1 (fun r0 => some [⟨(.int .i64), r0⟩])  a0 := by kernel_rfl
theorem said_spec_LeafOf (a0 : TEntry) (g : G.spec_LeafOf a0 = true) : Said Try.prog sigs_70 70 [.val TyEntry a0] [⟨(.int .i64), N.spec_LeafOf a0⟩] := said_len (T := tab) (A := A_spec_LeafOf) tabOk ok_spec_LeafOf tabOk.follows Try.func70 (by kernel_rfl) (by kernel_rfl) (fun hl => ⟨0, (aP_spec_LeafOf N.spec_EntryInts G.spec_EntryInts N.spec_Hash 0 a0).trans (spec_LeafOf_ok (ρ := Ret) (fun r0 => some [⟨(.int .i64), r0⟩]) a0 hl.1 g)⟩)
abbrev G.spec_LeavesOf (l : List TEntry) : Bool := decide (wEs l ≤ 1048576)
abbrev N.spec_LeavesOf (l : List TEntry) : List Int := l.map leafOf
def spec_LeavesOf_P_L0 {ρ : Type} (f0 : TEntry → Int) (g0 : TEntry → Bool) (k : (List Int) → Option ρ) (L0 : (List TEntry) → Int → (List Int) → Option ρ) (v0_0 : (List TEntry)) (v0_1 : Int) (v0_2 : (List Int)) : Option ρ := (cond (decide (v0_1 < (List.length v0_0 : Int))) (cond (inRange v0_1 (List.length v0_0)) (cond (g0 (List.getD v0_0 (Int.toNat v0_1) (ByteArray.empty, ((0 : Int), ((0 : Int), []))))) (cond (fit (List.length v0_2) (List.length [(f0 (List.getD v0_0 (Int.toNat v0_1) (ByteArray.empty, ((0 : Int), ((0 : Int), [])))))])) (L0 v0_0 (IntKind.wrap .i64 (v0_1 + (1 : Int))) (List.append v0_2 [(f0 (List.getD v0_0 (Int.toNat v0_1) (ByteArray.empty, ((0 : Int), ((0 : Int), [])))))])) none) none) none) (k v0_2))
def spec_LeavesOf_P {ρ : Type} (f0 : TEntry → Int) (g0 : TEntry → Bool) (k : (List Int) → Option ρ) (L0 : (List TEntry) → Int → (List Int) → Option ρ) (a0 : (List TEntry)) : Option ρ := (L0 a0 (0 : Int) ([] : (List Int)))
def spec_LeavesOf_L0 {ρ : Type} (k : (List Int) → Option ρ) (L0 : (List TEntry) → Int → (List Int) → Option ρ) (v0_0 : (List TEntry)) (v0_1 : Int) (v0_2 : (List Int)) : Option ρ := spec_LeavesOf_P_L0 N.spec_LeafOf G.spec_LeafOf k L0 v0_0 v0_1 v0_2
def spec_LeavesOf {ρ : Type} (k : (List Int) → Option ρ) (L0 : (List TEntry) → Int → (List Int) → Option ρ) (a0 : (List TEntry)) : Option ρ := spec_LeavesOf_P N.spec_LeafOf G.spec_LeafOf k L0 a0
theorem spec_LeavesOf_ok {ρ : Type} (k : (List Int) → Option ρ) (a0 : (List TEntry)) (l_a0 : lnL (fun y => (True ∧ (True ∧ (True ∧ lnL (fun _ => True) y.2.2.2)))) a0) (g : G.spec_LeavesOf a0 = true) : ∃ n0, ∀ n, n0 ≤ n → ∀ (L0 : Nat → (List TEntry) → Int → (List Int) → Option ρ) (h0 : ∀ ( m : Nat) (v0_0 : (List TEntry)) (v0_1 : Int) (v0_2 : (List Int)), L0 (m + 1) v0_0 v0_1 v0_2 = spec_LeavesOf_L0 k (L0 m) v0_0 v0_1 v0_2), spec_LeavesOf k (L0 n) a0 = k (N.spec_LeavesOf a0) := by
  unfold G.spec_LeavesOf at g
  have hw : wEs a0 ≤ 1048576 := of_decide_eq_true g
  have hl : a0.length ≤ 1048576 := by unfold wEs at hw; omega
  refine ⟨a0.length + 1, fun n hn L0 h0 => ?_⟩
  refine raw_map (a := a0) (ByteArray.empty, (0, (0, []))) leafOf 1048576 (k := k) (L := fun m i out => L0 m a0 i out) (R := fun i out c => spec_LeavesOf_L0 k (fun _ i out => c i out) a0 i out) (fun m i s => h0 m a0 i s) (fun j out c hj ho => ?_) (fun out c => ?_) hl hn
  · have hm := wEs_mem (getD_mem (d := (ByteArray.empty, (0, (0, [])))) hj)
    have g2 : decide (wE (a0.getD j (ByteArray.empty, (0, (0, [])))) ≤ 1048576) = true := by simp only [decide_eq_true_eq]; omega
    have e3 : fit out.length 1 = true := fit_of (by omega)
    simp only [spec_LeavesOf_L0, spec_LeavesOf_P_L0, lt_nat, inRange_nat, decide_eq_true hj, cond_true, Int.toNat_natCast, G.spec_LeafOf, g2, List.length_singleton, e3, wrap_succ (j := j) (by unfold big; omega), List.append_eq]
  · simp [spec_LeavesOf_L0, spec_LeavesOf_P_L0]
def OP_spec_LeavesOf (f0 : TEntry → Int) (g0 : TEntry → Bool) : Orac := (orcX 70 [.val TyEntry] (fun d => g0 d.1) (fun d => [⟨(.int .i64), f0 d.1⟩]) nilO)
def O_spec_LeavesOf : Orac := OP_spec_LeavesOf N.spec_LeafOf G.spec_LeafOf
theorem ok_spec_LeavesOf : OracOk Try.prog sigs O_spec_LeavesOf := (orcX_ok rfl rfl (fun d g => said_spec_LeafOf d.1 g) nilO_ok)
def A_spec_LeavesOf : Ann := fun b => cond (Nat.beq b 0) ⟨[(0, false), (3, true), (4, false)], []⟩ (⟨[], []⟩)
def S_spec_LeavesOf_0 (v0_0 : (List TEntry)) (v0_1 : Int) (v0_2 : (List Int)) : St := [(kT 0, some (.tv (.v (.slice 48 TyEntry) v0_0 .no))), (kT 3, some (.tv (.v (.slice 3 (.int .i64)) [] (.own 24)))), (kT 4, some (.tv (.v (.int .i64) v0_1 .no))), (kR 24, some (.row 3 (.int .i64) v0_2))]
noncomputable def L_P_spec_LeavesOf_0 (f0 : TEntry → Int) (g0 : TEntry → Bool) (n m : Nat) : St → Option Ret := loopOf tab sigs (OP_spec_LeavesOf f0 g0) A_spec_LeavesOf Try.f55 [((.slice 3 (.int .i64)), (.own 0))] n (fun _ => 0) 0 m
theorem bP_spec_LeavesOf_0 (f0 : TEntry → Int) (g0 : TEntry → Bool) (n m : Nat) (v0_0 : (List TEntry)) (v0_1 : Int) (v0_2 : (List Int)) : L_P_spec_LeavesOf_0 f0 g0 n (m + 1) (S_spec_LeavesOf_0 v0_0 v0_1 v0_2) = spec_LeavesOf_P_L0 f0 g0 (fun r0 => some [⟨(.slice 3 (.int .i64)), r0⟩]) (fun v0_0 v0_1 v0_2 => L_P_spec_LeavesOf_0 f0 g0 n m (S_spec_LeavesOf_0 v0_0 v0_1 v0_2)) v0_0 v0_1 v0_2 := by kernel_rfl
theorem aP_spec_LeavesOf (f0 : TEntry → Int) (g0 : TEntry → Bool) (n : Nat) (a0 : (List TEntry)) : absF tab sigs (OP_spec_LeavesOf f0 g0) A_spec_LeavesOf Try.f55 [((.slice 3 (.int .i64)), (.own 0))] n [.val (.slice 48 TyEntry) a0] = spec_LeavesOf_P f0 g0 (fun r0 => some [⟨(.slice 3 (.int .i64)), r0⟩]) (fun v0_0 v0_1 v0_2 => L_P_spec_LeavesOf_0 f0 g0 n n (S_spec_LeavesOf_0 v0_0 v0_1 v0_2)) a0 := by kernel_rfl
theorem said_spec_LeavesOf (a0 : (List TEntry)) (g : G.spec_LeavesOf a0 = true) : Said Try.prog sigs_55 55 [.val (.slice 48 TyEntry) a0] [⟨(.slice 3 (.int .i64)), N.spec_LeavesOf a0⟩] := said_len (T := tab) (A := A_spec_LeavesOf) tabOk ok_spec_LeavesOf tabOk.follows Try.func55 (by kernel_rfl) (by kernel_rfl) (fun hl => let ⟨n, hn⟩ := spec_LeavesOf_ok (ρ := Ret) (fun r0 => some [⟨(.slice 3 (.int .i64)), r0⟩]) a0 hl.1 g; ⟨n, (aP_spec_LeavesOf N.spec_LeafOf G.spec_LeafOf n a0).trans (hn n (Nat.le_refl n) (fun  m v0_0 v0_1 v0_2 => L_P_spec_LeavesOf_0 N.spec_LeafOf G.spec_LeafOf n  m (S_spec_LeavesOf_0 v0_0 v0_1 v0_2)) (fun  m v0_0 v0_1 v0_2 => bP_spec_LeavesOf_0 N.spec_LeafOf G.spec_LeafOf n  m v0_0 v0_1 v0_2))⟩)
abbrev G.spec_PathFor (l : List Int) (i : Int) : Bool := decide (l.length ≤ 1048576)
abbrev N.spec_PathFor (l : List Int) (i : Int) : List Int := pathFor l i
def spec_PathFor_P_L0 {ρ : Type} (f0 : Int → Int → Int → Bool) (f1 : (List Int) → (List Int)) (g1 : (List Int) → Bool) (k : (List Int) → Option ρ) (L0 : Int → (List Int) → (List Int) → Option ρ) (v0_0 : Int) (v0_1 : (List Int)) (v0_2 : (List Int)) : Option ρ := (cond (decide ((List.length v0_1 : Int) > (1 : Int))) (cond (decide ((IntKind.wrap .i64 ((IntKind.wrap .i64 (v0_0 + (1 : Int))) - (IntKind.wrap .i64 ((2 : Int) * (Int.tmod v0_0 (2 : Int)))))) < (List.length v0_1 : Int))) (cond (inRange (IntKind.wrap .i64 ((IntKind.wrap .i64 (v0_0 + (1 : Int))) - (IntKind.wrap .i64 ((2 : Int) * (Int.tmod v0_0 (2 : Int)))))) (List.length v0_1)) (cond (fit (List.length v0_2) (List.length [(List.getD v0_1 (Int.toNat (IntKind.wrap .i64 ((IntKind.wrap .i64 (v0_0 + (1 : Int))) - (IntKind.wrap .i64 ((2 : Int) * (Int.tmod v0_0 (2 : Int))))))) (0 : Int))])) (cond (g1 v0_1) (L0 (IntKind.wrap .i64 (Int.tdiv v0_0 (2 : Int))) (f1 v0_1) (List.append v0_2 [(List.getD v0_1 (Int.toNat (IntKind.wrap .i64 ((IntKind.wrap .i64 (v0_0 + (1 : Int))) - (IntKind.wrap .i64 ((2 : Int) * (Int.tmod v0_0 (2 : Int))))))) (0 : Int))])) none) none) none) (cond (g1 v0_1) (L0 (IntKind.wrap .i64 (Int.tdiv v0_0 (2 : Int))) (f1 v0_1) v0_2) none)) (k v0_2))
def spec_PathFor_P {ρ : Type} (f0 : Int → Int → Int → Bool) (f1 : (List Int) → (List Int)) (g1 : (List Int) → Bool) (k : (List Int) → Option ρ) (L0 : Int → (List Int) → (List Int) → Option ρ) (a0 : (List Int)) (a1 : Int) : Option ρ := (cond (!(f0 a1 (0 : Int) (IntKind.wrap .i64 ((List.length a0 : Int) - (1 : Int))))) (k ([] : (List Int))) (L0 a1 a0 ([] : (List Int))))
def spec_PathFor_L0 {ρ : Type} (k : (List Int) → Option ρ) (L0 : Int → (List Int) → (List Int) → Option ρ) (v0_0 : Int) (v0_1 : (List Int)) (v0_2 : (List Int)) : Option ρ := spec_PathFor_P_L0 N.spec_l1In N.spec_l10Up G.spec_l10Up k L0 v0_0 v0_1 v0_2
def spec_PathFor {ρ : Type} (k : (List Int) → Option ρ) (L0 : Int → (List Int) → (List Int) → Option ρ) (a0 : (List Int)) (a1 : Int) : Option ρ := spec_PathFor_P N.spec_l1In N.spec_l10Up G.spec_l10Up k L0 a0 a1
theorem spec_PathFor_ok {ρ : Type} (k : (List Int) → Option ρ) (a0 : (List Int)) (a1 : Int) (l_a0 : lnL (fun _ => True) a0) (g : G.spec_PathFor a0 a1 = true) : ∃ n0, ∀ n, n0 ≤ n → ∀ (L0 : Nat → Int → (List Int) → (List Int) → Option ρ) (h0 : ∀ ( m : Nat) (v0_0 : Int) (v0_1 : (List Int)) (v0_2 : (List Int)), L0 (m + 1) v0_0 v0_1 v0_2 = spec_PathFor_L0 k (L0 m) v0_0 v0_1 v0_2), spec_PathFor k (L0 n) a0 a1 = k (N.spec_PathFor a0 a1) := by
  unfold G.spec_PathFor at g
  have hlen : a0.length ≤ 1048576 := of_decide_eq_true g
  refine ⟨a0.length + 1, fun n hn L0 h0 => ?_⟩
  show spec_PathFor k (L0 n) a0 a1 = k (pathFor a0 a1)
  unfold spec_PathFor spec_PathFor_P pathFor
  dsimp only [N.spec_l1In]
  rw [wrap_id (n := (a0.length : Int) - 1) (by omega) (by omega)]
  cases hi1 : inR a1 0 ((a0.length : Int) - 1) with
  | false => rfl
  | true =>
    have hi2 : 0 ≤ a1 ∧ a1 ≤ (a0.length : Int) - 1 := by simpa [inR] using hi1
    show L0 n a1 a0 [] = k (pathN a0.length a1.toNat a0)
    refine (raw_meas (σ := Int × List Int × List Int) (L := fun m s => L0 m s.1 s.2.1 s.2.2) (R := fun s c => spec_PathFor_L0 k (fun i l o => c (i, l, o)) s.1 s.2.1 s.2.2)
      (fun m s => h0 m _ _ _) (fun s => 0 ≤ s.1 ∧ s.1 < s.2.1.length ∧ s.2.2.length + s.2.1.length ≤ 1048576) (fun s => s.2.1.length) (fun s => k (s.2.2 ++ pathN s.2.1.length s.1.toNat s.2.1)) (fun s c hI hc => ?_) n (a1, a0, []) ⟨hi2.1, by dsimp only; omega, by simp; omega⟩ (by dsimp only; omega)).trans (by simp)
    obtain ⟨i, l, o⟩ := s
    obtain ⟨b0, b1, b2⟩ := hI
    dsimp only at b0 b1 b2 hc ⊢
    obtain ⟨i, rfl⟩ := Int.eq_ofNat_of_zero_le b0
    simp only [Int.toNat_natCast] at hc ⊢
    by_cases h1 : 1 < l.length
    · obtain ⟨f, hf⟩ : ∃ f, l.length = f + 1 := ⟨l.length - 1, by omega⟩
      have hu := up_len l
      have e1 : decide ((l.length : Int) > 1) = true := by simp; omega
      have hx : IntKind.wrap .i64 (IntKind.wrap .i64 ((i : Int) + 1) - IntKind.wrap .i64 (2 * Int.tmod (i : Int) 2)) = ((sib i : Nat) : Int) := by
        rw [tmod2, wrap_succ (by unfold big; omega), wrap_id (n := 2 * ((i % 2 : Nat) : Int)) (by omega) (by omega), wrap_id (by omega) (by omega)]
        unfold sib
        split <;> omega
      have g1 : decide (l.length ≤ 1048576) = true := by simp; omega
      have step : ∀ o', o'.length ≤ o.length + 1 → c (((i / 2 : Nat) : Int), up l, o') = k (o' ++ pathN f (i / 2) (up l)) := by
        intro o' ho'
        have := hc (((i / 2 : Nat) : Int), up l, o') ⟨by simp; omega, by simp; omega, by simp; omega⟩ (by simp; omega)
        simp only [Int.toNat_natCast] at this
        rw [this, pathN_more _ f _ _ (by omega) (by omega)]
      rw [hf]
      unfold pathN
      rw [decide_eq_true h1]
      by_cases hs : sib i < l.length
      · have e3 : fit o.length 1 = true := fit_of (by omega)
        simp only [spec_PathFor_L0, spec_PathFor_P_L0, e1, hx, lt_nat, inRange_nat, decide_eq_true hs, cond_true, Int.toNat_natCast, List.length_singleton, e3, List.append_eq, tdiv2 (i := i) (by omega), G.spec_l10Up, g1, N.spec_l10Up]
        rw [step _ (by simp)]
        simp
      · simp only [spec_PathFor_L0, spec_PathFor_P_L0, e1, hx, lt_nat, inRange_nat, decide_eq_false hs, cond_true, cond_false, tdiv2 (i := i) (by omega), G.spec_l10Up, g1, N.spec_l10Up]
        rw [step _ (by omega)]
        simp
    · have e1 : decide ((l.length : Int) > 1) = false := by simp; omega
      obtain ⟨f, hf⟩ : ∃ f, l.length = f + 1 := ⟨l.length - 1, by omega⟩
      rw [hf]
      unfold pathN
      rw [decide_eq_false h1]
      simp [spec_PathFor_L0, spec_PathFor_P_L0, e1]
def OP_spec_PathFor (f0 : Int → Int → Int → Bool) (f1 : (List Int) → (List Int)) (g1 : (List Int) → Bool) : Orac := (orcX 46 [.val (.slice 3 (.int .i64))] (fun d => g1 d.1) (fun d => [⟨(.slice 3 (.int .i64)), f1 d.1⟩]) (orcX 45 [.val (.int .i64), .val (.int .i64), .val (.int .i64)] (fun d => true) (fun d => [⟨.bool, f0 d.1 d.2.1 d.2.2.1⟩]) nilO))
def O_spec_PathFor : Orac := OP_spec_PathFor N.spec_l1In N.spec_l10Up G.spec_l10Up
theorem ok_spec_PathFor : OracOk Try.prog sigs O_spec_PathFor := (orcX_ok rfl rfl (fun d g => said_spec_l10Up d.1 g) (orcX_ok rfl rfl (fun d g => said_spec_l1In d.1 d.2.1 d.2.2.1) nilO_ok))
def A_spec_PathFor : Ann := fun b => cond (Nat.beq b 0) ⟨[(1, false), (5, true), (6, false)], []⟩ (⟨[], []⟩)
def S_spec_PathFor_0 (v0_0 : Int) (v0_1 : (List Int)) (v0_2 : (List Int)) : St := [(kT 1, some (.tv (.v (.int .i64) v0_0 .no))), (kT 5, some (.tv (.v (.slice 3 (.int .i64)) [] (.own 40)))), (kT 6, some (.tv (.v (.slice 3 (.int .i64)) v0_1 .no))), (kR 40, some (.row 3 (.int .i64) v0_2))]
noncomputable def L_P_spec_PathFor_0 (f0 : Int → Int → Int → Bool) (f1 : (List Int) → (List Int)) (g1 : (List Int) → Bool) (n m : Nat) : St → Option Ret := loopOf tab sigs (OP_spec_PathFor f0 f1 g1) A_spec_PathFor Try.f10 [((.slice 3 (.int .i64)), (.own 0))] n (fun _ => 0) 0 m
theorem bP_spec_PathFor_0 (f0 : Int → Int → Int → Bool) (f1 : (List Int) → (List Int)) (g1 : (List Int) → Bool) (n m : Nat) (v0_0 : Int) (v0_1 : (List Int)) (v0_2 : (List Int)) : L_P_spec_PathFor_0 f0 f1 g1 n (m + 1) (S_spec_PathFor_0 v0_0 v0_1 v0_2) = spec_PathFor_P_L0 f0 f1 g1 (fun r0 => some [⟨(.slice 3 (.int .i64)), r0⟩]) (fun v0_0 v0_1 v0_2 => L_P_spec_PathFor_0 f0 f1 g1 n m (S_spec_PathFor_0 v0_0 v0_1 v0_2)) v0_0 v0_1 v0_2 := by kernel_rfl
theorem aP_spec_PathFor (f0 : Int → Int → Int → Bool) (f1 : (List Int) → (List Int)) (g1 : (List Int) → Bool) (n : Nat) (a0 : (List Int)) (a1 : Int) : absF tab sigs (OP_spec_PathFor f0 f1 g1) A_spec_PathFor Try.f10 [((.slice 3 (.int .i64)), (.own 0))] n [.val (.slice 3 (.int .i64)) a0, .val (.int .i64) a1] = spec_PathFor_P f0 f1 g1 (fun r0 => some [⟨(.slice 3 (.int .i64)), r0⟩]) (fun v0_0 v0_1 v0_2 => L_P_spec_PathFor_0 f0 f1 g1 n n (S_spec_PathFor_0 v0_0 v0_1 v0_2)) a0 a1 := by kernel_rfl
theorem said_spec_PathFor (a0 : (List Int)) (a1 : Int) (g : G.spec_PathFor a0 a1 = true) : Said Try.prog sigs_10 10 [.val (.slice 3 (.int .i64)) a0, .val (.int .i64) a1] [⟨(.slice 3 (.int .i64)), N.spec_PathFor a0 a1⟩] := said_len (T := tab) (A := A_spec_PathFor) tabOk ok_spec_PathFor tabOk.follows Try.func10 (by kernel_rfl) (by kernel_rfl) (fun hl => let ⟨n, hn⟩ := spec_PathFor_ok (ρ := Ret) (fun r0 => some [⟨(.slice 3 (.int .i64)), r0⟩]) a0 a1 hl.1 g; ⟨n, (aP_spec_PathFor N.spec_l1In N.spec_l10Up G.spec_l10Up n a0 a1).trans (hn n (Nat.le_refl n) (fun  m v0_0 v0_1 v0_2 => L_P_spec_PathFor_0 N.spec_l1In N.spec_l10Up G.spec_l10Up n  m (S_spec_PathFor_0 v0_0 v0_1 v0_2)) (fun  m v0_0 v0_1 v0_2 => bP_spec_PathFor_0 N.spec_l1In N.spec_l10Up G.spec_l10Up n  m v0_0 v0_1 v0_2))⟩)
abbrev G.spec_ProveEntry (l : List TEntry) (s : ByteArray) : Bool := decide (wEs l ≤ 1048576)
abbrev N.spec_ProveEntry (l : List TEntry) (s : ByteArray) : TProof × Bool := proveEntry l s
def spec_ProveEntry_P {ρ : Type} (f0 : (List TEntry) → ByteArray → Int) (f1 : (List TEntry) → (List Int)) (g1 : (List TEntry) → Bool) (f2 : (List Int) → Int → (List Int)) (g2 : (List Int) → Int → Bool) (k : TProof → Bool → Option ρ) (a0 : (List TEntry)) (a1 : ByteArray) : Option ρ := (cond (decide ((f0 a0 a1) < (0 : Int))) (k ((0 : Int), []) false) (cond (g1 a0) (cond (g2 (f1 a0) (f0 a0 a1)) (k ((f0 a0 a1), (f2 (f1 a0) (f0 a0 a1))) true) none) none))
def spec_ProveEntry {ρ : Type} (k : TProof → Bool → Option ρ) (a0 : (List TEntry)) (a1 : ByteArray) : Option ρ := spec_ProveEntry_P N.spec_FindEntry N.spec_LeavesOf G.spec_LeavesOf N.spec_PathFor G.spec_PathFor k a0 a1
theorem spec_ProveEntry_ok {ρ : Type} (k : TProof → Bool → Option ρ) (a0 : (List TEntry)) (a1 : ByteArray) (l_a0 : lnL (fun y => (True ∧ (True ∧ (True ∧ lnL (fun _ => True) y.2.2.2)))) a0) (g : G.spec_ProveEntry a0 a1 = true) : spec_ProveEntry k  a0 a1 = k (N.spec_ProveEntry a0 a1).1 (N.spec_ProveEntry a0 a1).2 := by
  unfold G.spec_ProveEntry at g
  have gl : (a0.map leafOf).length ≤ 1048576 := by rw [List.length_map]; exact Nat.le_trans (wEs_ge a0) (of_decide_eq_true g)
  simp only [spec_ProveEntry, spec_ProveEntry_P, N.spec_FindEntry, G.spec_LeavesOf, N.spec_LeavesOf, G.spec_PathFor, N.spec_PathFor, g, decide_eq_true gl, cond_true, proveEntry]
  cases decide (findEntry a0 a1 < 0) <;> rfl
def OP_spec_ProveEntry (f0 : (List TEntry) → ByteArray → Int) (f1 : (List TEntry) → (List Int)) (g1 : (List TEntry) → Bool) (f2 : (List Int) → Int → (List Int)) (g2 : (List Int) → Int → Bool) : Orac := (orcX 10 [.val (.slice 3 (.int .i64)), .val (.int .i64)] (fun d => g2 d.1 d.2.1) (fun d => [⟨(.slice 3 (.int .i64)), f2 d.1 d.2.1⟩]) (orcX 55 [.val (.slice 48 TyEntry)] (fun d => g1 d.1) (fun d => [⟨(.slice 3 (.int .i64)), f1 d.1⟩]) (orcX 25 [.val (.slice 48 TyEntry), .val .str] (fun d => true) (fun d => [⟨(.int .i64), f0 d.1 d.2.1⟩]) nilO)))
def O_spec_ProveEntry : Orac := OP_spec_ProveEntry N.spec_FindEntry N.spec_LeavesOf G.spec_LeavesOf N.spec_PathFor G.spec_PathFor
theorem ok_spec_ProveEntry : OracOk Try.prog sigs O_spec_ProveEntry := (orcX_ok rfl rfl (fun d g => said_spec_PathFor d.1 d.2.1 g) (orcX_ok rfl rfl (fun d g => said_spec_LeavesOf d.1 g) (orcX_ok rfl rfl (fun d g => said_spec_FindEntry d.1 d.2.1) nilO_ok)))
def A_spec_ProveEntry : Ann := fun b => ⟨[], []⟩
theorem aP_spec_ProveEntry (f0 : (List TEntry) → ByteArray → Int) (f1 : (List TEntry) → (List Int)) (g1 : (List TEntry) → Bool) (f2 : (List Int) → Int → (List Int)) (g2 : (List Int) → Int → Bool) (n : Nat) (a0 : (List TEntry)) (a1 : ByteArray) : absF tab sigs (OP_spec_ProveEntry f0 f1 g1 f2 g2) A_spec_ProveEntry Try.f22 [((.pair (.int .i64) (.slice 3 (.int .i64))), (.pair .no (.own 0))), (.bool, .no)] n [.val (.slice 48 TyEntry) a0, .val .str a1] = spec_ProveEntry_P f0 f1 g1 f2 g2 (fun r0 r1 => some [⟨(.pair (.int .i64) (.slice 3 (.int .i64))), r0⟩, ⟨.bool, r1⟩])  a0 a1 := by kernel_rfl
theorem said_spec_ProveEntry (a0 : (List TEntry)) (a1 : ByteArray) (g : G.spec_ProveEntry a0 a1 = true) : Said Try.prog sigs_22 22 [.val (.slice 48 TyEntry) a0, .val .str a1] [⟨(.pair (.int .i64) (.slice 3 (.int .i64))), (N.spec_ProveEntry a0 a1).1⟩, ⟨.bool, (N.spec_ProveEntry a0 a1).2⟩] := said_len (T := tab) (A := A_spec_ProveEntry) tabOk ok_spec_ProveEntry tabOk.follows Try.func22 (by kernel_rfl) (by kernel_rfl) (fun hl => ⟨0, (aP_spec_ProveEntry N.spec_FindEntry N.spec_LeavesOf G.spec_LeavesOf N.spec_PathFor G.spec_PathFor 0 a0 a1).trans (spec_ProveEntry_ok (ρ := Ret) (fun r0 r1 => some [⟨(.pair (.int .i64) (.slice 3 (.int .i64))), r0⟩, ⟨.bool, r1⟩]) a0 a1 hl.1 g)⟩)
abbrev N.slices_Equal_int (a b : List Int) : Bool := eqInts a b
def slices_Equal_int_L0 {ρ : Type} (k : Bool → Option ρ) (L0 : (List Int) → (List Int) → Int → Int → Option ρ) (v0_0 : (List Int)) (v0_1 : (List Int)) (v0_2 : Int) (v0_3 : Int) : Option ρ := (cond (decide (v0_3 < v0_2)) (cond (inRange v0_3 (List.length v0_0)) (cond (inRange v0_3 (List.length v0_1)) (cond ((List.getD v0_0 (Int.toNat v0_3) (0 : Int)) != (List.getD v0_1 (Int.toNat v0_3) (0 : Int))) (k false) (L0 v0_0 v0_1 v0_2 (IntKind.wrap .i64 (v0_3 + (1 : Int))))) none) none) (k true))
def slices_Equal_int {ρ : Type} (k : Bool → Option ρ) (L0 : (List Int) → (List Int) → Int → Int → Option ρ) (a0 : (List Int)) (a1 : (List Int)) : Option ρ := (cond ((List.length a0 : Int) != (List.length a1 : Int)) (k false) (L0 a0 a1 (List.length a0 : Int) (0 : Int)))
theorem slices_Equal_int_ok {ρ : Type} (k : Bool → Option ρ) (a0 : (List Int)) (a1 : (List Int)) (l_a0 : lnL (fun _ => True) a0) (l_a1 : lnL (fun _ => True) a1) : ∃ n0, ∀ n, n0 ≤ n → ∀ (L0 : Nat → (List Int) → (List Int) → Int → Int → Option ρ) (h0 : ∀ ( m : Nat) (v0_0 : (List Int)) (v0_1 : (List Int)) (v0_2 : Int) (v0_3 : Int), L0 (m + 1) v0_0 v0_1 v0_2 v0_3 = slices_Equal_int_L0 k (L0 m) v0_0 v0_1 v0_2 v0_3), slices_Equal_int k (L0 n) a0 a1 = k (N.slices_Equal_int a0 a1) := by
  exact ⟨a0.length + 1, fun n hn L0 h0 => eq_all (p := fun x y => x == y) (d := 0) l_a0.1 (L := fun m i => L0 m a0 a1 (a0.length : Int) i) (fun m i => h0 m a0 a1 (a0.length : Int) i) hn⟩
def O_slices_Equal_int : Orac := nilO
theorem ok_slices_Equal_int : OracOk Try.prog sigs O_slices_Equal_int := nilO_ok
def A_slices_Equal_int : Ann := fun b => cond (Nat.beq b 0) ⟨[(0, false), (1, false), (12, false), (13, false)], []⟩ (⟨[], []⟩)
def S_slices_Equal_int_0 (v0_0 : (List Int)) (v0_1 : (List Int)) (v0_2 : Int) (v0_3 : Int) : St := [(kT 0, some (.tv (.v (.slice 3 (.int .i64)) v0_0 .no))), (kT 1, some (.tv (.v (.slice 3 (.int .i64)) v0_1 .no))), (kT 12, some (.tv (.v (.int .i64) v0_2 .no))), (kT 13, some (.tv (.v (.int .i64) v0_3 .no)))]
noncomputable def L_slices_Equal_int_0 (n m : Nat) : St → Option Ret := loopOf tab sigs O_slices_Equal_int A_slices_Equal_int Try.f60 [(.bool, .no)] n (fun _ => 0) 0 m
theorem b_slices_Equal_int_0 (n m : Nat) (v0_0 : (List Int)) (v0_1 : (List Int)) (v0_2 : Int) (v0_3 : Int) : L_slices_Equal_int_0 n (m + 1) (S_slices_Equal_int_0 v0_0 v0_1 v0_2 v0_3) = slices_Equal_int_L0 (fun r0 => some [⟨.bool, r0⟩]) (fun v0_0 v0_1 v0_2 v0_3 => L_slices_Equal_int_0 n m (S_slices_Equal_int_0 v0_0 v0_1 v0_2 v0_3)) v0_0 v0_1 v0_2 v0_3 := by kernel_rfl
theorem a_slices_Equal_int (n : Nat) (a0 : (List Int)) (a1 : (List Int)) : absF tab sigs O_slices_Equal_int A_slices_Equal_int Try.f60 [(.bool, .no)] n [.val (.slice 3 (.int .i64)) a0, .val (.slice 3 (.int .i64)) a1] = slices_Equal_int (fun r0 => some [⟨.bool, r0⟩]) (fun v0_0 v0_1 v0_2 v0_3 => L_slices_Equal_int_0 n n (S_slices_Equal_int_0 v0_0 v0_1 v0_2 v0_3)) a0 a1 := by kernel_rfl
theorem said_slices_Equal_int (a0 : (List Int)) (a1 : (List Int)) : Said Try.prog sigs_60 60 [.val (.slice 3 (.int .i64)) a0, .val (.slice 3 (.int .i64)) a1] [⟨.bool, N.slices_Equal_int a0 a1⟩] := said_len (T := tab) (A := A_slices_Equal_int) tabOk ok_slices_Equal_int tabOk.follows Try.func60 (by kernel_rfl) (by kernel_rfl) (fun hl => let ⟨n, hn⟩ := slices_Equal_int_ok (ρ := Ret) (fun r0 => some [⟨.bool, r0⟩]) a0 a1 hl.1 hl.2.1; ⟨n, (a_slices_Equal_int n a0 a1).trans (hn n (Nat.le_refl n) (fun  m v0_0 v0_1 v0_2 v0_3 => L_slices_Equal_int_0 n  m (S_slices_Equal_int_0 v0_0 v0_1 v0_2 v0_3)) (fun  m v0_0 v0_1 v0_2 v0_3 => b_slices_Equal_int_0 n  m v0_0 v0_1 v0_2 v0_3))⟩)
abbrev N.impl_EqualProofs (a b : TProof) : Bool := eqProof a b
def impl_EqualProofs {ρ : Type} (k : Bool → Option ρ) (a0 : TProof) (a1 : TProof) : Option ρ := (cond (a0.1 == a1.1) (k (N.slices_Equal_int a0.2 a1.2)) (k false))
theorem impl_EqualProofs_ok {ρ : Type} (k : Bool → Option ρ) (a0 : TProof) (a1 : TProof) (l_a0 : (True ∧ lnL (fun _ => True) a0.2)) (l_a1 : (True ∧ lnL (fun _ => True) a1.2)) : impl_EqualProofs k  a0 a1 = k (N.impl_EqualProofs a0 a1) := by
  simp only [impl_EqualProofs, eqProof]
  cases a0.1 == a1.1 <;> rfl
def OP_impl_EqualProofs (f0 : (List Int) → (List Int) → Bool) : Orac := (orcX 60 [.val (.slice 3 (.int .i64)), .val (.slice 3 (.int .i64))] (fun d => true) (fun d => [⟨.bool, f0 d.1 d.2.1⟩]) nilO)
def O_impl_EqualProofs : Orac := OP_impl_EqualProofs N.slices_Equal_int
def impl_EqualProofs_P {ρ : Type} (f0 : (List Int) → (List Int) → Bool) (k : Bool → Option ρ) (a0 : TProof) (a1 : TProof) : Option ρ := (cond (a0.1 == a1.1) (k (f0 a0.2 a1.2)) (k false))
theorem ok_impl_EqualProofs : OracOk Try.prog sigs O_impl_EqualProofs := (orcX_ok rfl rfl (fun d g => said_slices_Equal_int d.1 d.2.1) nilO_ok)
def A_impl_EqualProofs : Ann := fun b => ⟨[], []⟩
theorem aP_impl_EqualProofs (f0 : (List Int) → (List Int) → Bool) (n : Nat) (a0 : TProof) (a1 : TProof) : absF tab sigs (OP_impl_EqualProofs f0) A_impl_EqualProofs Try.f23 [(.bool, .no)] n [.val (.pair (.int .i64) (.slice 3 (.int .i64))) a0, .val (.pair (.int .i64) (.slice 3 (.int .i64))) a1] = impl_EqualProofs_P f0 (fun r0 => some [⟨.bool, r0⟩])  a0 a1 := by kernel_rfl
theorem said_impl_EqualProofs (a0 : TProof) (a1 : TProof) : Said Try.prog sigs_23 23 [.val (.pair (.int .i64) (.slice 3 (.int .i64))) a0, .val (.pair (.int .i64) (.slice 3 (.int .i64))) a1] [⟨.bool, N.impl_EqualProofs a0 a1⟩] := said_len (T := tab) (A := A_impl_EqualProofs) tabOk ok_impl_EqualProofs tabOk.follows Try.func23 (by kernel_rfl) (by kernel_rfl) (fun hl => ⟨0, (aP_impl_EqualProofs N.slices_Equal_int 0 a0 a1).trans (impl_EqualProofs_ok (ρ := Ret) (fun r0 => some [⟨.bool, r0⟩]) a0 a1 hl.1 hl.2.1)⟩)
abbrev G.spec_TopOf (l : List Int) : Bool := decide (l.length ≤ 1048576)
abbrev N.spec_TopOf (l : List Int) : Int := topOf l
def spec_TopOf_P_L0 {ρ : Type} (f0 : (List Int) → Int) (f1 : (List Int) → (List Int)) (g1 : (List Int) → Bool) (k : Int → Option ρ) (L0 : (List Int) → Option ρ) (v0_0 : (List Int)) : Option ρ := (cond (decide ((List.length v0_0 : Int) > (1 : Int))) (cond (g1 v0_0) (L0 (f1 v0_0)) none) (cond (inRange (0 : Int) (List.length v0_0)) (k (List.getD v0_0 0 (0 : Int))) none))
def spec_TopOf_P {ρ : Type} (f0 : (List Int) → Int) (f1 : (List Int) → (List Int)) (g1 : (List Int) → Bool) (k : Int → Option ρ) (L0 : (List Int) → Option ρ) (a0 : (List Int)) : Option ρ := (cond ((List.length a0 : Int) == (0 : Int)) (k (f0 [(229 : Int)])) (L0 a0))
def spec_TopOf_L0 {ρ : Type} (k : Int → Option ρ) (L0 : (List Int) → Option ρ) (v0_0 : (List Int)) : Option ρ := spec_TopOf_P_L0 N.spec_Hash N.spec_l10Up G.spec_l10Up k L0 v0_0
def spec_TopOf {ρ : Type} (k : Int → Option ρ) (L0 : (List Int) → Option ρ) (a0 : (List Int)) : Option ρ := spec_TopOf_P N.spec_Hash N.spec_l10Up G.spec_l10Up k L0 a0
theorem spec_TopOf_ok {ρ : Type} (k : Int → Option ρ) (a0 : (List Int)) (l_a0 : lnL (fun _ => True) a0) (g : G.spec_TopOf a0 = true) : ∃ n0, ∀ n, n0 ≤ n → ∀ (L0 : Nat → (List Int) → Option ρ) (h0 : ∀ ( m : Nat) (v0_0 : (List Int)), L0 (m + 1) v0_0 = spec_TopOf_L0 k (L0 m) v0_0), spec_TopOf k (L0 n) a0 = k (N.spec_TopOf a0) := by
  unfold G.spec_TopOf at g
  have hlen : a0.length ≤ 1048576 := of_decide_eq_true g
  refine ⟨a0.length + 1, fun n hn L0 h0 => ?_⟩
  unfold spec_TopOf spec_TopOf_P
  show _ = k (topOf a0)
  unfold topOf
  by_cases h : a0.length = 0
  · simp [h]
  · have e1 : ((a0.length : Int) == 0) = false := by simpa using h
    rw [e1, decide_eq_false h]
    refine raw_meas (L := fun m s => L0 m s) (R := fun s c => spec_TopOf_L0 k c s) (fun m s => h0 m s) (fun s => 0 < s.length ∧ s.length ≤ 1048576) (fun s => s.length) (fun s => k (topN s.length s)) (fun s c hI hc => ?_) n a0 ⟨by omega, hlen⟩ (by omega)
    unfold spec_TopOf_L0 spec_TopOf_P_L0
    by_cases h1 : 1 < s.length
    · have e2 : decide ((s.length : Int) > 1) = true := by simp; omega
      have hu := up_len s
      have e3 : decide (s.length ≤ 1048576) = true := by simpa using hI.2
      have := hc (up s) ⟨by omega, by omega⟩ (by omega)
      simp only [e2, e3, cond_true, this]
      congr 1
      obtain ⟨q, hq⟩ : ∃ q, s.length = q + 1 := ⟨s.length - 1, by omega⟩
      rw [hq]
      show _ = cond (decide (1 < s.length)) (topN q (up s)) _
      rw [decide_eq_true h1]
      exact topN_more _ _ _ (by omega) (by omega)
    · have e2 : decide ((s.length : Int) > 1) = false := by simp; omega
      have e3 : inRange 0 s.length = true := by unfold inRange; simp; omega
      have e4 : s.length = 1 := by omega
      rw [e4] at e3
      simp [e2, e3, e4, topN]
def OP_spec_TopOf (f0 : (List Int) → Int) (f1 : (List Int) → (List Int)) (g1 : (List Int) → Bool) : Orac := (orcX 46 [.val (.slice 3 (.int .i64))] (fun d => g1 d.1) (fun d => [⟨(.slice 3 (.int .i64)), f1 d.1⟩]) (orcX 48 [.val (.slice 3 (.int .i64))] (fun d => true) (fun d => [⟨(.int .i64), f0 d.1⟩]) nilO))
def O_spec_TopOf : Orac := OP_spec_TopOf N.spec_Hash N.spec_l10Up G.spec_l10Up
theorem ok_spec_TopOf : OracOk Try.prog sigs O_spec_TopOf := (orcX_ok rfl rfl (fun d g => said_spec_l10Up d.1 g) (orcX_ok rfl rfl (fun d g => said_spec_Hash d.1) nilO_ok))
def A_spec_TopOf : Ann := fun b => cond (Nat.beq b 0) ⟨[(3, false)], []⟩ (⟨[], []⟩)
def S_spec_TopOf_0 (v0_0 : (List Int)) : St := [(kT 3, some (.tv (.v (.slice 3 (.int .i64)) v0_0 .no)))]
noncomputable def L_P_spec_TopOf_0 (f0 : (List Int) → Int) (f1 : (List Int) → (List Int)) (g1 : (List Int) → Bool) (n m : Nat) : St → Option Ret := loopOf tab sigs (OP_spec_TopOf f0 f1 g1) A_spec_TopOf Try.f12 [((.int .i64), .no)] n (fun _ => 0) 0 m
theorem bP_spec_TopOf_0 (f0 : (List Int) → Int) (f1 : (List Int) → (List Int)) (g1 : (List Int) → Bool) (n m : Nat) (v0_0 : (List Int)) : L_P_spec_TopOf_0 f0 f1 g1 n (m + 1) (S_spec_TopOf_0 v0_0) = spec_TopOf_P_L0 f0 f1 g1 (fun r0 => some [⟨(.int .i64), r0⟩]) (fun v0_0 => L_P_spec_TopOf_0 f0 f1 g1 n m (S_spec_TopOf_0 v0_0)) v0_0 := by kernel_rfl
theorem aP_spec_TopOf (f0 : (List Int) → Int) (f1 : (List Int) → (List Int)) (g1 : (List Int) → Bool) (n : Nat) (a0 : (List Int)) : absF tab sigs (OP_spec_TopOf f0 f1 g1) A_spec_TopOf Try.f12 [((.int .i64), .no)] n [.val (.slice 3 (.int .i64)) a0] = spec_TopOf_P f0 f1 g1 (fun r0 => some [⟨(.int .i64), r0⟩]) (fun v0_0 => L_P_spec_TopOf_0 f0 f1 g1 n n (S_spec_TopOf_0 v0_0)) a0 := by kernel_rfl
theorem said_spec_TopOf (a0 : (List Int)) (g : G.spec_TopOf a0 = true) : Said Try.prog sigs_12 12 [.val (.slice 3 (.int .i64)) a0] [⟨(.int .i64), N.spec_TopOf a0⟩] := said_len (T := tab) (A := A_spec_TopOf) tabOk ok_spec_TopOf tabOk.follows Try.func12 (by kernel_rfl) (by kernel_rfl) (fun hl => let ⟨n, hn⟩ := spec_TopOf_ok (ρ := Ret) (fun r0 => some [⟨(.int .i64), r0⟩]) a0 hl.1 g; ⟨n, (aP_spec_TopOf N.spec_Hash N.spec_l10Up G.spec_l10Up n a0).trans (hn n (Nat.le_refl n) (fun  m v0_0 => L_P_spec_TopOf_0 N.spec_Hash N.spec_l10Up G.spec_l10Up n  m (S_spec_TopOf_0 v0_0)) (fun  m v0_0 => bP_spec_TopOf_0 N.spec_Hash N.spec_l10Up G.spec_l10Up n  m v0_0))⟩)
abbrev G.impl_TopOf (l : List Int) : Bool := decide (l.length ≤ 1048576)
abbrev N.impl_TopOf (l : List Int) : Int := topOf l
def impl_TopOf_P_L0 {ρ : Type} (f0 : (List Int) → Int) (f1 : (List Int) → (List Int)) (g1 : (List Int) → Bool) (k : Int → Option ρ) (L0 : (List Int) → Option ρ) (v0_0 : (List Int)) : Option ρ := (cond (decide ((List.length v0_0 : Int) > (1 : Int))) (cond (g1 v0_0) (L0 (f1 v0_0)) none) (cond (inRange (0 : Int) (List.length v0_0)) (k (List.getD v0_0 0 (0 : Int))) none))
def impl_TopOf_P {ρ : Type} (f0 : (List Int) → Int) (f1 : (List Int) → (List Int)) (g1 : (List Int) → Bool) (k : Int → Option ρ) (L0 : (List Int) → Option ρ) (a0 : (List Int)) : Option ρ := (cond ((List.length a0 : Int) == (0 : Int)) (k (f0 [(229 : Int)])) (L0 a0))
def impl_TopOf_L0 {ρ : Type} (k : Int → Option ρ) (L0 : (List Int) → Option ρ) (v0_0 : (List Int)) : Option ρ := impl_TopOf_P_L0 N.impl_hash N.impl_above G.impl_above k L0 v0_0
def impl_TopOf {ρ : Type} (k : Int → Option ρ) (L0 : (List Int) → Option ρ) (a0 : (List Int)) : Option ρ := impl_TopOf_P N.impl_hash N.impl_above G.impl_above k L0 a0
theorem impl_TopOf_ok {ρ : Type} (k : Int → Option ρ) (a0 : (List Int)) (l_a0 : lnL (fun _ => True) a0) (g : G.impl_TopOf a0 = true) : ∃ n0, ∀ n, n0 ≤ n → ∀ (L0 : Nat → (List Int) → Option ρ) (h0 : ∀ ( m : Nat) (v0_0 : (List Int)), L0 (m + 1) v0_0 = impl_TopOf_L0 k (L0 m) v0_0), impl_TopOf k (L0 n) a0 = k (N.impl_TopOf a0) := by
  unfold G.impl_TopOf at g
  exact spec_TopOf_ok k a0 l_a0 g
def OP_impl_TopOf (f0 : (List Int) → Int) (f1 : (List Int) → (List Int)) (g1 : (List Int) → Bool) : Orac := (orcX 44 [.val (.slice 3 (.int .i64))] (fun d => g1 d.1) (fun d => [⟨(.slice 3 (.int .i64)), f1 d.1⟩]) (orcX 47 [.val (.slice 3 (.int .i64))] (fun d => true) (fun d => [⟨(.int .i64), f0 d.1⟩]) nilO))
def O_impl_TopOf : Orac := OP_impl_TopOf N.impl_hash N.impl_above G.impl_above
theorem ok_impl_TopOf : OracOk Try.prog sigs O_impl_TopOf := (orcX_ok rfl rfl (fun d g => said_impl_above d.1 g) (orcX_ok rfl rfl (fun d g => said_impl_hash d.1) nilO_ok))
def A_impl_TopOf : Ann := fun b => cond (Nat.beq b 0) ⟨[(0, false)], []⟩ (⟨[], []⟩)
def S_impl_TopOf_0 (v0_0 : (List Int)) : St := [(kT 0, some (.tv (.v (.slice 3 (.int .i64)) v0_0 .no)))]
noncomputable def L_P_impl_TopOf_0 (f0 : (List Int) → Int) (f1 : (List Int) → (List Int)) (g1 : (List Int) → Bool) (n m : Nat) : St → Option Ret := loopOf tab sigs (OP_impl_TopOf f0 f1 g1) A_impl_TopOf Try.f11 [((.int .i64), .no)] n (fun _ => 0) 0 m
theorem bP_impl_TopOf_0 (f0 : (List Int) → Int) (f1 : (List Int) → (List Int)) (g1 : (List Int) → Bool) (n m : Nat) (v0_0 : (List Int)) : L_P_impl_TopOf_0 f0 f1 g1 n (m + 1) (S_impl_TopOf_0 v0_0) = impl_TopOf_P_L0 f0 f1 g1 (fun r0 => some [⟨(.int .i64), r0⟩]) (fun v0_0 => L_P_impl_TopOf_0 f0 f1 g1 n m (S_impl_TopOf_0 v0_0)) v0_0 := by kernel_rfl
theorem aP_impl_TopOf (f0 : (List Int) → Int) (f1 : (List Int) → (List Int)) (g1 : (List Int) → Bool) (n : Nat) (a0 : (List Int)) : absF tab sigs (OP_impl_TopOf f0 f1 g1) A_impl_TopOf Try.f11 [((.int .i64), .no)] n [.val (.slice 3 (.int .i64)) a0] = impl_TopOf_P f0 f1 g1 (fun r0 => some [⟨(.int .i64), r0⟩]) (fun v0_0 => L_P_impl_TopOf_0 f0 f1 g1 n n (S_impl_TopOf_0 v0_0)) a0 := by kernel_rfl
theorem said_impl_TopOf (a0 : (List Int)) (g : G.impl_TopOf a0 = true) : Said Try.prog sigs_11 11 [.val (.slice 3 (.int .i64)) a0] [⟨(.int .i64), N.impl_TopOf a0⟩] := said_len (T := tab) (A := A_impl_TopOf) tabOk ok_impl_TopOf tabOk.follows Try.func11 (by kernel_rfl) (by kernel_rfl) (fun hl => let ⟨n, hn⟩ := impl_TopOf_ok (ρ := Ret) (fun r0 => some [⟨(.int .i64), r0⟩]) a0 hl.1 g; ⟨n, (aP_impl_TopOf N.impl_hash N.impl_above G.impl_above n a0).trans (hn n (Nat.le_refl n) (fun  m v0_0 => L_P_impl_TopOf_0 N.impl_hash N.impl_above G.impl_above n  m (S_impl_TopOf_0 v0_0)) (fun  m v0_0 => bP_impl_TopOf_0 N.impl_hash N.impl_above G.impl_above n  m v0_0))⟩)
abbrev N.impl_rootFrom (n top : Int) : Int := rootFrom n top
def impl_rootFrom {ρ : Type} (k : Int → Option ρ) (a0 : Int) (a1 : Int) : Option ρ := (k (N.impl_hash [(231 : Int), a0, a1]))
theorem impl_rootFrom_ok {ρ : Type} (k : Int → Option ρ) (a0 : Int) (a1 : Int) : impl_rootFrom k  a0 a1 = k (N.impl_rootFrom a0 a1) := by
  rfl
def OP_impl_rootFrom (f0 : (List Int) → Int) : Orac := (orcX 47 [.val (.slice 3 (.int .i64))] (fun d => true) (fun d => [⟨(.int .i64), f0 d.1⟩]) nilO)
def O_impl_rootFrom : Orac := OP_impl_rootFrom N.impl_hash
def impl_rootFrom_P {ρ : Type} (f0 : (List Int) → Int) (k : Int → Option ρ) (a0 : Int) (a1 : Int) : Option ρ := (k (f0 [(231 : Int), a0, a1]))
theorem ok_impl_rootFrom : OracOk Try.prog sigs O_impl_rootFrom := (orcX_ok rfl rfl (fun d g => said_impl_hash d.1) nilO_ok)
def A_impl_rootFrom : Ann := fun b => ⟨[], []⟩
theorem aP_impl_rootFrom (f0 : (List Int) → Int) (n : Nat) (a0 : Int) (a1 : Int) : absF tab sigs (OP_impl_rootFrom f0) A_impl_rootFrom Try.f52 [((.int .i64), .no)] n [.val (.int .i64) a0, .val (.int .i64) a1] = impl_rootFrom_P f0 (fun r0 => some [⟨(.int .i64), r0⟩])  a0 a1 := by kernel_rfl
theorem said_impl_rootFrom (a0 : Int) (a1 : Int) : Said Try.prog sigs_52 52 [.val (.int .i64) a0, .val (.int .i64) a1] [⟨(.int .i64), N.impl_rootFrom a0 a1⟩] := said_len (T := tab) (A := A_impl_rootFrom) tabOk ok_impl_rootFrom tabOk.follows Try.func52 (by kernel_rfl) (by kernel_rfl) (fun hl => ⟨0, (aP_impl_rootFrom N.impl_hash 0 a0 a1).trans (impl_rootFrom_ok (ρ := Ret) (fun r0 => some [⟨(.int .i64), r0⟩]) a0 a1)⟩)
abbrev G.impl_RootOf (l : List TEntry) : Bool := decide (wEs l ≤ 1048576)
abbrev N.impl_RootOf (l : List TEntry) : Int := rootOf l
def impl_RootOf {ρ : Type} (k : Int → Option ρ) (a0 : (List TEntry)) : Option ρ := (cond (G.impl_LeavesOf a0) (cond (G.impl_TopOf (N.impl_LeavesOf a0)) (k (N.impl_rootFrom (List.length a0 : Int) (N.impl_TopOf (N.impl_LeavesOf a0)))) none) none)
theorem impl_RootOf_ok {ρ : Type} (k : Int → Option ρ) (a0 : (List TEntry)) (l_a0 : lnL (fun y => (True ∧ (True ∧ (True ∧ lnL (fun _ => True) y.2.2.2)))) a0) (g : G.impl_RootOf a0 = true) : impl_RootOf k  a0 = k (N.impl_RootOf a0) := by
  unfold G.impl_RootOf at g
  have hw : wEs a0 ≤ 1048576 := of_decide_eq_true g
  have hl : decide ((a0.map leafOf).length ≤ 1048576) = true := by unfold wEs at hw; simp; omega
  show cond (decide (wEs a0 ≤ 1048576)) (cond (decide ((a0.map leafOf).length ≤ 1048576)) _ none) none = _
  rw [g, hl]
  rfl
def OP_impl_RootOf (f0 : (List TEntry) → (List Int)) (g0 : (List TEntry) → Bool) (f1 : (List Int) → Int) (g1 : (List Int) → Bool) (f2 : Int → Int → Int) : Orac := (orcX 52 [.val (.int .i64), .val (.int .i64)] (fun d => true) (fun d => [⟨(.int .i64), f2 d.1 d.2.1⟩]) (orcX 11 [.val (.slice 3 (.int .i64))] (fun d => g1 d.1) (fun d => [⟨(.int .i64), f1 d.1⟩]) (orcX 53 [.val (.slice 48 TyEntry)] (fun d => g0 d.1) (fun d => [⟨(.slice 3 (.int .i64)), f0 d.1⟩]) nilO)))
def O_impl_RootOf : Orac := OP_impl_RootOf N.impl_LeavesOf G.impl_LeavesOf N.impl_TopOf G.impl_TopOf N.impl_rootFrom
def impl_RootOf_P {ρ : Type} (f0 : (List TEntry) → (List Int)) (g0 : (List TEntry) → Bool) (f1 : (List Int) → Int) (g1 : (List Int) → Bool) (f2 : Int → Int → Int) (k : Int → Option ρ) (a0 : (List TEntry)) : Option ρ := (cond (g0 a0) (cond (g1 (f0 a0)) (k (f2 (List.length a0 : Int) (f1 (f0 a0)))) none) none)
theorem ok_impl_RootOf : OracOk Try.prog sigs O_impl_RootOf := (orcX_ok rfl rfl (fun d g => said_impl_rootFrom d.1 d.2.1) (orcX_ok rfl rfl (fun d g => said_impl_TopOf d.1 g) (orcX_ok rfl rfl (fun d g => said_impl_LeavesOf d.1 g) nilO_ok)))
def A_impl_RootOf : Ann := fun b => ⟨[], []⟩
theorem aP_impl_RootOf (f0 : (List TEntry) → (List Int)) (g0 : (List TEntry) → Bool) (f1 : (List Int) → Int) (g1 : (List Int) → Bool) (f2 : Int → Int → Int) (n : Nat) (a0 : (List TEntry)) : absF tab sigs (OP_impl_RootOf f0 g0 f1 g1 f2) A_impl_RootOf Try.f17 [((.int .i64), .no)] n [.val (.slice 48 TyEntry) a0] = impl_RootOf_P f0 g0 f1 g1 f2 (fun r0 => some [⟨(.int .i64), r0⟩])  a0 := by kernel_rfl
theorem said_impl_RootOf (a0 : (List TEntry)) (g : G.impl_RootOf a0 = true) : Said Try.prog sigs_17 17 [.val (.slice 48 TyEntry) a0] [⟨(.int .i64), N.impl_RootOf a0⟩] := said_len (T := tab) (A := A_impl_RootOf) tabOk ok_impl_RootOf tabOk.follows Try.func17 (by kernel_rfl) (by kernel_rfl) (fun hl => ⟨0, (aP_impl_RootOf N.impl_LeavesOf G.impl_LeavesOf N.impl_TopOf G.impl_TopOf N.impl_rootFrom 0 a0).trans (impl_RootOf_ok (ρ := Ret) (fun r0 => some [⟨(.int .i64), r0⟩]) a0 hl.1 g)⟩)
abbrev N.impl_ValueEntry (s : ByteArray) (n : Int) : TEntry := (s, (1, (n, [])))
def impl_ValueEntry {ρ : Type} (k : TEntry → Option ρ) (a0 : ByteArray) (a1 : Int) : Option ρ := (k (a0, ((1 : Int), (a1, []))))
theorem impl_ValueEntry_ok {ρ : Type} (k : TEntry → Option ρ) (a0 : ByteArray) (a1 : Int) : impl_ValueEntry k  a0 a1 = k (N.impl_ValueEntry a0 a1) := by
  rfl
def O_impl_ValueEntry : Orac := nilO
theorem ok_impl_ValueEntry : OracOk Try.prog sigs O_impl_ValueEntry := nilO_ok
def A_impl_ValueEntry : Ann := fun b => ⟨[], []⟩
theorem a_impl_ValueEntry (n : Nat) (a0 : ByteArray) (a1 : Int) : absF tab sigs O_impl_ValueEntry A_impl_ValueEntry Try.f26 [(TyEntry, (.pair .no (.pair .no (.pair .no (.own 0)))))] n [.val .str a0, .val (.int .i64) a1] = impl_ValueEntry (fun r0 => some [⟨TyEntry, r0⟩])  a0 a1 := by kernel_rfl
theorem said_impl_ValueEntry (a0 : ByteArray) (a1 : Int) : Said Try.prog sigs_26 26 [.val .str a0, .val (.int .i64) a1] [⟨TyEntry, N.impl_ValueEntry a0 a1⟩] := said_len (T := tab) (A := A_impl_ValueEntry) tabOk ok_impl_ValueEntry tabOk.follows Try.func26 (by kernel_rfl) (by kernel_rfl) (fun hl => ⟨0, (a_impl_ValueEntry 0 a0 a1).trans (impl_ValueEntry_ok (ρ := Ret) (fun r0 => some [⟨TyEntry, r0⟩]) a0 a1)⟩)
abbrev N.impl_TopFrom (leaf i n : Int) (path : List Int) : Int × Bool := topFrom leaf i n path
def impl_TopFrom_P_L0 {ρ : Type} (f0 : Int → Int → Int → Bool) (f1 : Int → Int → Int) (k : Int → Bool → Option ρ) (L0 : Int → Int → Int → (List Int) → Option ρ) (v0_0 : Int) (v0_1 : Int) (v0_2 : Int) (v0_3 : (List Int)) : Option ρ := (cond (decide (v0_2 > (1 : Int))) (cond (decide ((xorI .i64 v0_1 (1 : Int)) ≥ v0_2)) (L0 v0_0 (IntKind.wrap .i64 (Int.tdiv v0_1 (2 : Int))) (IntKind.wrap .i64 (Int.tdiv (IntKind.wrap .i64 (v0_2 + (1 : Int))) (2 : Int))) v0_3) (cond ((List.length v0_3 : Int) == (0 : Int)) (k (0 : Int) false) (cond ((Int.tmod v0_1 (2 : Int)) == (0 : Int)) (cond (inRange (0 : Int) (List.length v0_3)) (cond (decide ((1 : Int) ≤ (List.length v0_3 : Int))) (L0 (f1 v0_0 (List.getD v0_3 0 (0 : Int))) (IntKind.wrap .i64 (Int.tdiv v0_1 (2 : Int))) (IntKind.wrap .i64 (Int.tdiv (IntKind.wrap .i64 (v0_2 + (1 : Int))) (2 : Int))) (List.drop 1 v0_3)) none) none) (cond (inRange (0 : Int) (List.length v0_3)) (cond (decide ((1 : Int) ≤ (List.length v0_3 : Int))) (L0 (f1 (List.getD v0_3 0 (0 : Int)) v0_0) (IntKind.wrap .i64 (Int.tdiv v0_1 (2 : Int))) (IntKind.wrap .i64 (Int.tdiv (IntKind.wrap .i64 (v0_2 + (1 : Int))) (2 : Int))) (List.drop 1 v0_3)) none) none)))) (cond (decide ((List.length v0_3 : Int) > (0 : Int))) (k (0 : Int) false) (k v0_0 true)))
def impl_TopFrom_P {ρ : Type} (f0 : Int → Int → Int → Bool) (f1 : Int → Int → Int) (k : Int → Bool → Option ρ) (L0 : Int → Int → Int → (List Int) → Option ρ) (a0 : Int) (a1 : Int) (a2 : Int) (a3 : (List Int)) : Option ρ := (cond (decide (a2 < (1 : Int))) (k (0 : Int) false) (cond (decide (a2 > (12 : Int))) (k (0 : Int) false) (cond (!(f0 a1 (0 : Int) (IntKind.wrap .i64 (a2 - (1 : Int))))) (k (0 : Int) false) (L0 a0 a1 a2 a3))))
def impl_TopFrom_L0 {ρ : Type} (k : Int → Bool → Option ρ) (L0 : Int → Int → Int → (List Int) → Option ρ) (v0_0 : Int) (v0_1 : Int) (v0_2 : Int) (v0_3 : (List Int)) : Option ρ := impl_TopFrom_P_L0 N.impl_InRange N.impl_NodeOf k L0 v0_0 v0_1 v0_2 v0_3
def impl_TopFrom {ρ : Type} (k : Int → Bool → Option ρ) (L0 : Int → Int → Int → (List Int) → Option ρ) (a0 : Int) (a1 : Int) (a2 : Int) (a3 : (List Int)) : Option ρ := impl_TopFrom_P N.impl_InRange N.impl_NodeOf k L0 a0 a1 a2 a3
theorem impl_TopFrom_ok {ρ : Type} (k : Int → Bool → Option ρ) (a0 : Int) (a1 : Int) (a2 : Int) (a3 : (List Int)) (l_a3 : lnL (fun _ => True) a3) : ∃ n0, ∀ n, n0 ≤ n → ∀ (L0 : Nat → Int → Int → Int → (List Int) → Option ρ) (h0 : ∀ ( m : Nat) (v0_0 : Int) (v0_1 : Int) (v0_2 : Int) (v0_3 : (List Int)), L0 (m + 1) v0_0 v0_1 v0_2 v0_3 = impl_TopFrom_L0 k (L0 m) v0_0 v0_1 v0_2 v0_3), impl_TopFrom k (L0 n) a0 a1 a2 a3 = k (N.impl_TopFrom a0 a1 a2 a3).1 (N.impl_TopFrom a0 a1 a2 a3).2 := by
  refine ⟨a2.toNat + 1, fun n hn L0 h0 => ?_⟩
  show impl_TopFrom k (L0 n) a0 a1 a2 a3 = k (topFrom a0 a1 a2 a3).1 (topFrom a0 a1 a2 a3).2
  unfold impl_TopFrom impl_TopFrom_P topFrom
  dsimp only [N.impl_InRange]
  by_cases c1 : a2 < 1
  · have : inR a2 1 12 = false := by unfold inR; simp; omega
    rw [decide_eq_true c1, this]
    rfl
  by_cases c2 : a2 > 12
  · have : inR a2 1 12 = false := by unfold inR; simp; omega
    rw [decide_eq_false c1, decide_eq_true c2, this]
    rfl
  have hn1 : inR a2 1 12 = true := by unfold inR; simp; omega
  have hn2 : 1 ≤ a2 ∧ a2 ≤ 12 := by omega
  rw [decide_eq_false c1, decide_eq_false c2, hn1, wrap_id (n := a2 - 1) (by omega) (by omega)]
  cases hi1 : inR a1 0 (a2 - 1) with
  | false => rfl
  | true =>
    have hi2 : 0 ≤ a1 ∧ a1 ≤ a2 - 1 := by simpa [inR] using hi1
    show L0 n a0 a1 a2 a3 = k (tfRes (tfN a2.toNat a0 a1.toNat a2.toNat a3)).1 (tfRes (tfN a2.toNat a0 a1.toNat a2.toNat a3)).2
    refine raw_meas (σ := Int × Int × Int × List Int) (L := fun m s => L0 m s.1 s.2.1 s.2.2.1 s.2.2.2) (R := fun s c => impl_TopFrom_L0 k (fun l i n p => c (l, i, n, p)) s.1 s.2.1 s.2.2.1 s.2.2.2)
      (fun m s => h0 m _ _ _ _) (fun s => 0 ≤ s.2.1 ∧ 1 ≤ s.2.2.1 ∧ s.2.2.1 ≤ 12 ∧ s.2.1 < s.2.2.1) (fun s => s.2.2.1.toNat) (fun s => k (tfRes (tfN s.2.2.1.toNat s.1 s.2.1.toNat s.2.2.1.toNat s.2.2.2)).1 (tfRes (tfN s.2.2.1.toNat s.1 s.2.1.toNat s.2.2.1.toNat s.2.2.2)).2) (fun s c hI hc => ?_) n (a0, a1, a2, a3) ⟨hi2.1, hn2.1, hn2.2, by dsimp only; omega⟩ (by dsimp only; omega)
    obtain ⟨l, i, q, p⟩ := s
    obtain ⟨b0, b1, b2, b3⟩ := hI
    dsimp only at b0 b1 b2 b3 hc ⊢
    obtain ⟨i, rfl⟩ := Int.eq_ofNat_of_zero_le b0
    obtain ⟨q, rfl⟩ := Int.eq_ofNat_of_zero_le (a := q) (by omega)
    simp only [Int.toNat_natCast] at hc ⊢
    by_cases h1 : 1 < q
    · obtain ⟨f, rfl⟩ : ∃ f, q = f + 1 := ⟨q - 1, by omega⟩
      have e1 : decide (((f + 1 : Nat) : Int) > 1) = true := by simp; omega
      have t3 : IntKind.wrap .i64 (Int.tdiv (IntKind.wrap .i64 (((f + 1 : Nat) : Int) + 1)) 2) = (((f + 1 + 1) / 2 : Nat) : Int) := by rw [wrap_succ (by unfold big; omega), tdiv2 (by omega)]
      have hx : xorI .i64 (i : Int) 1 = ((sib i : Nat) : Int) := xor_sib (by omega)
      have hfuel : ∀ leaf path, tfN ((f + 1 + 1) / 2) leaf (i / 2) ((f + 1 + 1) / 2) path = tfN f leaf (i / 2) ((f + 1 + 1) / 2) path := fun leaf path => tfN_more _ _ _ _ _ _ (by omega) (by omega)
      have step : ∀ leaf p', c (leaf, ((i / 2 : Nat) : Int), (((f + 1 + 1) / 2 : Nat) : Int), p') = k (tfRes (tfN f leaf (i / 2) ((f + 1 + 1) / 2) p')).1 (tfRes (tfN f leaf (i / 2) ((f + 1 + 1) / 2) p')).2 := by
        intro leaf p'
        have := hc (leaf, ((i / 2 : Nat) : Int), (((f + 1 + 1) / 2 : Nat) : Int), p') ⟨by simp; omega, by simp; omega, by simp; omega, by simp; omega⟩ (by simp; omega)
        simp only [Int.toNat_natCast] at this
        rw [this, hfuel]
      unfold tfN
      rw [decide_eq_true h1]
      by_cases hs : sib i < f + 1
      · have e2 : decide (((sib i : Nat) : Int) ≥ ((f + 1 : Nat) : Int)) = false := by simp; omega
        cases p with
        | nil =>
          have e3 : (((List.length ([] : List Int)) : Int) == 0) = true := rfl
          simp only [impl_TopFrom_L0, impl_TopFrom_P_L0, e1, hx, e2, e3, decide_eq_true hs, cond_true, cond_false]
          rfl
        | cons x xs =>
          have e3 : (((List.length (x :: xs)) : Int) == 0) = false := by simp; omega
          have e4 : inRange 0 (x :: xs).length = true := by
            unfold inRange
            rw [List.length_cons]
            have h6 : (0 : Int) < ((xs.length + 1 : Nat) : Int) := by omega
            rw [decide_eq_true h6]
            rfl
          have e5 : decide (1 ≤ (((x :: xs).length : Nat) : Int)) = true := by simp; omega
          by_cases hev : i % 2 = 0
          · have o1 : (((i % 2 : Nat) : Int) == 0) = true := by rw [hev]; rfl
            simp only [impl_TopFrom_L0, impl_TopFrom_P_L0, e1, hx, e2, e3, e4, e5, o1, tmod2, decide_eq_true hs, decide_eq_true hev, cond_true, cond_false, tdiv2 (i := i) (by omega), t3, step]
            rfl
          · have o1 : (((i % 2 : Nat) : Int) == 0) = false := by simp; omega
            simp only [impl_TopFrom_L0, impl_TopFrom_P_L0, e1, hx, e2, e3, e4, e5, o1, tmod2, decide_eq_true hs, decide_eq_false hev, cond_true, cond_false, tdiv2 (i := i) (by omega), t3, step]
            rfl
      · have e2 : decide (((sib i : Nat) : Int) ≥ ((f + 1 : Nat) : Int)) = true := by simp; omega
        simp only [impl_TopFrom_L0, impl_TopFrom_P_L0, e1, hx, e2, decide_eq_false hs, cond_true, cond_false, tdiv2 (i := i) (by omega), t3, step]
    · have e1 : decide ((q : Int) > 1) = false := by simp; omega
      have e2 : q = 1 := by omega
      subst e2
      unfold tfN
      cases p with
      | nil => rfl
      | cons x xs =>
        have e3 : decide ((((x :: xs).length : Nat) : Int) > 0) = true := by
          rw [List.length_cons]
          exact decide_eq_true (by omega)
        simp only [impl_TopFrom_L0, impl_TopFrom_P_L0, e1, e3, cond_true, cond_false]
        rfl
def OP_impl_TopFrom (f0 : Int → Int → Int → Bool) (f1 : Int → Int → Int) : Orac := (orcX 19 [.val (.int .i64), .val (.int .i64)] (fun d => true) (fun d => [⟨(.int .i64), f1 d.1 d.2.1⟩]) (orcX 43 [.val (.int .i64), .val (.int .i64), .val (.int .i64)] (fun d => true) (fun d => [⟨.bool, f0 d.1 d.2.1 d.2.2.1⟩]) nilO))
def O_impl_TopFrom : Orac := OP_impl_TopFrom N.impl_InRange N.impl_NodeOf
theorem ok_impl_TopFrom : OracOk Try.prog sigs O_impl_TopFrom := (orcX_ok rfl rfl (fun d g => said_impl_NodeOf d.1 d.2.1) (orcX_ok rfl rfl (fun d g => said_impl_InRange d.1 d.2.1 d.2.2.1) nilO_ok))
def A_impl_TopFrom : Ann := fun b => cond (Nat.beq b 0) ⟨[(0, false), (1, false), (2, false), (3, false)], []⟩ (⟨[], []⟩)
def S_impl_TopFrom_0 (v0_0 : Int) (v0_1 : Int) (v0_2 : Int) (v0_3 : (List Int)) : St := [(kT 0, some (.tv (.v (.int .i64) v0_0 .no))), (kT 1, some (.tv (.v (.int .i64) v0_1 .no))), (kT 2, some (.tv (.v (.int .i64) v0_2 .no))), (kT 3, some (.tv (.v (.slice 3 (.int .i64)) v0_3 .no)))]
noncomputable def L_P_impl_TopFrom_0 (f0 : Int → Int → Int → Bool) (f1 : Int → Int → Int) (n m : Nat) : St → Option Ret := loopOf tab sigs (OP_impl_TopFrom f0 f1) A_impl_TopFrom Try.f13 [((.int .i64), .no), (.bool, .no)] n (fun _ => 0) 0 m
theorem bP_impl_TopFrom_0 (f0 : Int → Int → Int → Bool) (f1 : Int → Int → Int) (n m : Nat) (v0_0 : Int) (v0_1 : Int) (v0_2 : Int) (v0_3 : (List Int)) : L_P_impl_TopFrom_0 f0 f1 n (m + 1) (S_impl_TopFrom_0 v0_0 v0_1 v0_2 v0_3) = impl_TopFrom_P_L0 f0 f1 (fun r0 r1 => some [⟨(.int .i64), r0⟩, ⟨.bool, r1⟩]) (fun v0_0 v0_1 v0_2 v0_3 => L_P_impl_TopFrom_0 f0 f1 n m (S_impl_TopFrom_0 v0_0 v0_1 v0_2 v0_3)) v0_0 v0_1 v0_2 v0_3 := by kernel_rfl
theorem aP_impl_TopFrom (f0 : Int → Int → Int → Bool) (f1 : Int → Int → Int) (n : Nat) (a0 : Int) (a1 : Int) (a2 : Int) (a3 : (List Int)) : absF tab sigs (OP_impl_TopFrom f0 f1) A_impl_TopFrom Try.f13 [((.int .i64), .no), (.bool, .no)] n [.val (.int .i64) a0, .val (.int .i64) a1, .val (.int .i64) a2, .val (.slice 3 (.int .i64)) a3] = impl_TopFrom_P f0 f1 (fun r0 r1 => some [⟨(.int .i64), r0⟩, ⟨.bool, r1⟩]) (fun v0_0 v0_1 v0_2 v0_3 => L_P_impl_TopFrom_0 f0 f1 n n (S_impl_TopFrom_0 v0_0 v0_1 v0_2 v0_3)) a0 a1 a2 a3 := by kernel_rfl
theorem said_impl_TopFrom (a0 : Int) (a1 : Int) (a2 : Int) (a3 : (List Int)) : Said Try.prog sigs_13 13 [.val (.int .i64) a0, .val (.int .i64) a1, .val (.int .i64) a2, .val (.slice 3 (.int .i64)) a3] [⟨(.int .i64), (N.impl_TopFrom a0 a1 a2 a3).1⟩, ⟨.bool, (N.impl_TopFrom a0 a1 a2 a3).2⟩] := said_len (T := tab) (A := A_impl_TopFrom) tabOk ok_impl_TopFrom tabOk.follows Try.func13 (by kernel_rfl) (by kernel_rfl) (fun hl => let ⟨n, hn⟩ := impl_TopFrom_ok (ρ := Ret) (fun r0 r1 => some [⟨(.int .i64), r0⟩, ⟨.bool, r1⟩]) a0 a1 a2 a3 hl.2.2.2.1; ⟨n, (aP_impl_TopFrom N.impl_InRange N.impl_NodeOf n a0 a1 a2 a3).trans (hn n (Nat.le_refl n) (fun  m v0_0 v0_1 v0_2 v0_3 => L_P_impl_TopFrom_0 N.impl_InRange N.impl_NodeOf n  m (S_impl_TopFrom_0 v0_0 v0_1 v0_2 v0_3)) (fun  m v0_0 v0_1 v0_2 v0_3 => bP_impl_TopFrom_0 N.impl_InRange N.impl_NodeOf n  m v0_0 v0_1 v0_2 v0_3))⟩)
abbrev G.impl_IsLabel (s : ByteArray) : Bool := decide (s.size ≤ 1048576)
abbrev N.impl_IsLabel (s : ByteArray) : Bool := isLabel s
def impl_IsLabel_P_L0 {ρ : Type} (f0 : Int → Int → Int → Bool) (k : Bool → Option ρ) (L0 : ByteArray → Int → Int → Option ρ) (v0_0 : ByteArray) (v0_1 : Int) (v0_2 : Int) : Option ρ := (cond (decide (v0_2 < v0_1)) (cond (inRange v0_2 (ByteArray.size v0_0)) (cond (decide ((bt v0_0 v0_2) ≥ (97 : Int))) (cond (decide ((bt v0_0 v0_2) ≤ (122 : Int))) (L0 v0_0 v0_1 (IntKind.wrap .i64 (v0_2 + (1 : Int)))) (cond (decide ((bt v0_0 v0_2) ≥ (48 : Int))) (cond (decide ((bt v0_0 v0_2) ≤ (57 : Int))) (L0 v0_0 v0_1 (IntKind.wrap .i64 (v0_2 + (1 : Int)))) (cond ((bt v0_0 v0_2) == (45 : Int)) (cond (decide (v0_2 > (0 : Int))) (cond (!(decide (v0_2 < (IntKind.wrap .i64 ((ByteArray.size v0_0 : Int) - (1 : Int)))))) (k false) (L0 v0_0 v0_1 (IntKind.wrap .i64 (v0_2 + (1 : Int))))) (k false)) (k false))) (cond ((bt v0_0 v0_2) == (45 : Int)) (cond (decide (v0_2 > (0 : Int))) (cond (!(decide (v0_2 < (IntKind.wrap .i64 ((ByteArray.size v0_0 : Int) - (1 : Int)))))) (k false) (L0 v0_0 v0_1 (IntKind.wrap .i64 (v0_2 + (1 : Int))))) (k false)) (k false)))) (cond (decide ((bt v0_0 v0_2) ≥ (48 : Int))) (cond (decide ((bt v0_0 v0_2) ≤ (57 : Int))) (L0 v0_0 v0_1 (IntKind.wrap .i64 (v0_2 + (1 : Int)))) (cond ((bt v0_0 v0_2) == (45 : Int)) (cond (decide (v0_2 > (0 : Int))) (cond (!(decide (v0_2 < (IntKind.wrap .i64 ((ByteArray.size v0_0 : Int) - (1 : Int)))))) (k false) (L0 v0_0 v0_1 (IntKind.wrap .i64 (v0_2 + (1 : Int))))) (k false)) (k false))) (cond ((bt v0_0 v0_2) == (45 : Int)) (cond (decide (v0_2 > (0 : Int))) (cond (!(decide (v0_2 < (IntKind.wrap .i64 ((ByteArray.size v0_0 : Int) - (1 : Int)))))) (k false) (L0 v0_0 v0_1 (IntKind.wrap .i64 (v0_2 + (1 : Int))))) (k false)) (k false)))) none) (k (f0 (ByteArray.size v0_0 : Int) (1 : Int) (8 : Int))))
def impl_IsLabel_P {ρ : Type} (f0 : Int → Int → Int → Bool) (k : Bool → Option ρ) (L0 : ByteArray → Int → Int → Option ρ) (a0 : ByteArray) : Option ρ := (L0 a0 (ByteArray.size a0 : Int) (0 : Int))
def impl_IsLabel_L0 {ρ : Type} (k : Bool → Option ρ) (L0 : ByteArray → Int → Int → Option ρ) (v0_0 : ByteArray) (v0_1 : Int) (v0_2 : Int) : Option ρ := impl_IsLabel_P_L0 N.impl_InRange k L0 v0_0 v0_1 v0_2
def impl_IsLabel {ρ : Type} (k : Bool → Option ρ) (L0 : ByteArray → Int → Int → Option ρ) (a0 : ByteArray) : Option ρ := impl_IsLabel_P N.impl_InRange k L0 a0
theorem impl_IsLabel_ok {ρ : Type} (k : Bool → Option ρ) (a0 : ByteArray) (g : G.impl_IsLabel a0 = true) : ∃ n0, ∀ n, n0 ≤ n → ∀ (L0 : Nat → ByteArray → Int → Int → Option ρ) (h0 : ∀ ( m : Nat) (v0_0 : ByteArray) (v0_1 : Int) (v0_2 : Int), L0 (m + 1) v0_0 v0_1 v0_2 = impl_IsLabel_L0 k (L0 m) v0_0 v0_1 v0_2), impl_IsLabel k (L0 n) a0 = k (N.impl_IsLabel a0) := by
  unfold G.impl_IsLabel at g
  have hlen : a0.size ≤ 1048576 := of_decide_eq_true g
  refine ⟨a0.size + 1, fun n hn L0 h0 => ?_⟩
  show L0 n a0 (a0.size : Int) 0 = k (isLabel a0)
  have hrun := raw_run0 (σ := Unit) (s := ()) (L := fun m i _ => L0 m a0 (a0.size : Int) i) (R := fun i _ c => impl_IsLabel_L0 k (fun _ _ i => c i ()) a0 (a0.size : Int) i) (fun m i s => h0 m a0 (a0.size : Int) i) a0.size (fun _ _ => True) (fun j _ => cond (labelBytes a0 (a0.size - j) j) (k (inR (a0.size : Int) 1 8)) (k false)) (fun j s c hj _ hc => ?_) (fun s c _ => ?_) hn trivial
  · refine hrun.trans ?_
    unfold isLabel
    rw [Nat.sub_zero]
    cases labelBytes a0 a0.size 0 <;> cases inR (a0.size : Int) 1 8 <;> rfl
  · obtain ⟨m, hm⟩ : ∃ m, a0.size - j = m + 1 := ⟨a0.size - j - 1, by omega⟩
    have hm2 : a0.size - (j + 1) = m := by omega
    have hc' := hc () trivial
    rw [hm2] at hc'
    have e1 : decide ((j : Int) < IntKind.wrap .i64 ((a0.size : Int) - 1)) = decide (j + 1 < a0.size) := by rw [wrap_id (by omega) (by omega)]; simp only [decide_eq_decide]; omega
    have e2 : decide ((j : Int) > 0) = decide (0 < j) := by simp only [decide_eq_decide]; omega
    rw [hm]
    unfold labelBytes okByte isLetter
    simp only [impl_IsLabel_L0, impl_IsLabel_P_L0, lt_nat, inRange_nat, decide_eq_true hj, cond_true, wrap_succ (j := j) (by unfold big; omega), hc', e1, e2, ge_iff_le, N.impl_InRange]
    generalize bt a0 (j : Int) = b
    cases decide (97 ≤ b) <;> cases decide (b ≤ 122) <;> cases decide (48 ≤ b) <;> cases decide (b ≤ 57) <;> cases b == 45 <;> cases decide (0 < j) <;> cases decide (j + 1 < a0.size) <;> rfl
  · rw [Nat.sub_self]
    simp [impl_IsLabel_L0, impl_IsLabel_P_L0, labelBytes]
def OP_impl_IsLabel (f0 : Int → Int → Int → Bool) : Orac := (orcX 43 [.val (.int .i64), .val (.int .i64), .val (.int .i64)] (fun d => true) (fun d => [⟨.bool, f0 d.1 d.2.1 d.2.2.1⟩]) nilO)
def O_impl_IsLabel : Orac := OP_impl_IsLabel N.impl_InRange
theorem ok_impl_IsLabel : OracOk Try.prog sigs O_impl_IsLabel := (orcX_ok rfl rfl (fun d g => said_impl_InRange d.1 d.2.1 d.2.2.1) nilO_ok)
def A_impl_IsLabel : Ann := fun b => cond (Nat.beq b 0) ⟨[(0, false), (6, false), (7, false)], []⟩ (⟨[], []⟩)
def S_impl_IsLabel_0 (v0_0 : ByteArray) (v0_1 : Int) (v0_2 : Int) : St := [(kT 0, some (.tv (.v .str v0_0 .no))), (kT 6, some (.tv (.v (.int .i64) v0_1 .no))), (kT 7, some (.tv (.v (.int .i64) v0_2 .no)))]
noncomputable def L_P_impl_IsLabel_0 (f0 : Int → Int → Int → Bool) (n m : Nat) : St → Option Ret := loopOf tab sigs (OP_impl_IsLabel f0) A_impl_IsLabel Try.f90 [(.bool, .no)] n (fun _ => 0) 0 m
theorem bP_impl_IsLabel_0 (f0 : Int → Int → Int → Bool) (n m : Nat) (v0_0 : ByteArray) (v0_1 : Int) (v0_2 : Int) : L_P_impl_IsLabel_0 f0 n (m + 1) (S_impl_IsLabel_0 v0_0 v0_1 v0_2) = impl_IsLabel_P_L0 f0 (fun r0 => some [⟨.bool, r0⟩]) (fun v0_0 v0_1 v0_2 => L_P_impl_IsLabel_0 f0 n m (S_impl_IsLabel_0 v0_0 v0_1 v0_2)) v0_0 v0_1 v0_2 := by kernel_rfl
theorem aP_impl_IsLabel (f0 : Int → Int → Int → Bool) (n : Nat) (a0 : ByteArray) : absF tab sigs (OP_impl_IsLabel f0) A_impl_IsLabel Try.f90 [(.bool, .no)] n [.val .str a0] = impl_IsLabel_P f0 (fun r0 => some [⟨.bool, r0⟩]) (fun v0_0 v0_1 v0_2 => L_P_impl_IsLabel_0 f0 n n (S_impl_IsLabel_0 v0_0 v0_1 v0_2)) a0 := by kernel_rfl
theorem said_impl_IsLabel (a0 : ByteArray) (g : G.impl_IsLabel a0 = true) : Said Try.prog sigs_90 90 [.val .str a0] [⟨.bool, N.impl_IsLabel a0⟩] := said_len (T := tab) (A := A_impl_IsLabel) tabOk ok_impl_IsLabel tabOk.follows Try.func90 (by kernel_rfl) (by kernel_rfl) (fun hl => let ⟨n, hn⟩ := impl_IsLabel_ok (ρ := Ret) (fun r0 => some [⟨.bool, r0⟩]) a0 g; ⟨n, (aP_impl_IsLabel N.impl_InRange n a0).trans (hn n (Nat.le_refl n) (fun  m v0_0 v0_1 v0_2 => L_P_impl_IsLabel_0 N.impl_InRange n  m (S_impl_IsLabel_0 v0_0 v0_1 v0_2)) (fun  m v0_0 v0_1 v0_2 => bP_impl_IsLabel_0 N.impl_InRange n  m v0_0 v0_1 v0_2))⟩)
end Go.Proofs.Ythgbcbnmdioknaa.Ref
