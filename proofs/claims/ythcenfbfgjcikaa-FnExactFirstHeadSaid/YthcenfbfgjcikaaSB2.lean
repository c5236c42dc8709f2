/- Functions of the program: what each computes, and that it does so.
   Conditions: as each theorem states. -/
import Derived.Test.YthcenfbfgjcikaaSB1
import Derived.WalkKit
import Derived.Lib.Bytealg
set_option linter.unusedVariables false
set_option linter.unusedSimpArgs false
set_option maxRecDepth 100000
namespace Go.Proofs.Ythcenfbfgjcikaa.Ref
open Go.RowKit Go.Proofs.YthcenfbfgjcikaaW.PrintWords Go.Proofs.YthcenfbfgjcikaaW.PrintLast
/-! impl.LabelInts -/
abbrev G.impl_LabelInts (s : ByteArray) : Bool := decide (s.size ≤ 1048576)
abbrev N.impl_LabelInts (s : ByteArray) : List Int := labelInts s
def impl_LabelInts {ρ : Type} (k : (List Int) → Option ρ) (a0 : ByteArray) : Option ρ := (cond (decide ((ByteArray.size a0 : Int) ≤ 549755813888)) (cond (G.impl_BytesToInts (bytesOf a0)) (k (N.impl_BytesToInts (bytesOf a0))) none) none)
theorem impl_LabelInts_ok {ρ : Type} (k : (List Int) → Option ρ) (a0 : ByteArray) (g : G.impl_LabelInts a0 = true) : impl_LabelInts k  a0 = k (N.impl_LabelInts a0) := by
  unfold G.impl_LabelInts at g
  have h : a0.size ≤ 1048576 := of_decide_eq_true g
  have h1 : decide ((a0.size : Int) ≤ 549755813888) = true := by simp; omega
  have h2 : G.impl_BytesToInts (bytesOf a0) = true := decide_eq_true (by rw [bytesOf_length]; omega)
  show cond _ (cond _ _ none) none = _
  rw [h1, h2]
  rfl
def OP_impl_LabelInts (f_impl_BytesToInts : (List Int) → (List Int)) (g_impl_BytesToInts : (List Int) → Bool) : Orac := (orcX 155 [.val (.slice 5 (.int .u8))] (fun d => g_impl_BytesToInts d.1) (fun d => [⟨(.slice 3 (.int .i64)), f_impl_BytesToInts d.1⟩]) nilO)
def O_impl_LabelInts : Orac := OP_impl_LabelInts N.impl_BytesToInts G.impl_BytesToInts
def impl_LabelInts_P {ρ : Type} (f_impl_BytesToInts : (List Int) → (List Int)) (g_impl_BytesToInts : (List Int) → Bool) (k : (List Int) → Option ρ) (a0 : ByteArray) : Option ρ := (cond (decide ((ByteArray.size a0 : Int) ≤ 549755813888)) (cond (g_impl_BytesToInts (bytesOf a0)) (k (f_impl_BytesToInts (bytesOf a0))) none) none)
theorem ok_impl_LabelInts : OracOk Try.prog sigs O_impl_LabelInts := (orcX_ok rfl rfl (fun d g => said_impl_BytesToInts d.1 g) nilO_ok)
def A_impl_LabelInts : Ann := fun b => ⟨[], []⟩
theorem aP_impl_LabelInts (f_impl_BytesToInts : (List Int) → (List Int)) (g_impl_BytesToInts : (List Int) → Bool) (n : Nat) (a0 : ByteArray) : absF tab sigs (OP_impl_LabelInts f_impl_BytesToInts g_impl_BytesToInts) A_impl_LabelInts Try.f149 [((.slice 3 (.int .i64)), (.own 0))] n [.val .str a0] = impl_LabelInts_P f_impl_BytesToInts g_impl_BytesToInts (fun r0 => some [⟨(.slice 3 (.int .i64)), r0⟩])  a0 := by kernel_rfl
theorem a_impl_LabelInts (n : Nat) (a0 : ByteArray) : absF tab sigs O_impl_LabelInts A_impl_LabelInts Try.f149 [((.slice 3 (.int .i64)), (.own 0))] n [.val .str a0] = impl_LabelInts (fun r0 => some [⟨(.slice 3 (.int .i64)), r0⟩])  a0 := aP_impl_LabelInts N.impl_BytesToInts G.impl_BytesToInts n a0
theorem said_impl_LabelInts (a0 : ByteArray) (g : G.impl_LabelInts a0 = true) : Said Try.prog sigs_149 149 [.val .str a0] [⟨(.slice 3 (.int .i64)), N.impl_LabelInts a0⟩] := said_len (T := tab) (A := A_impl_LabelInts) tabOk ok_impl_LabelInts tabOk.follows Try.func149 (by kernel_rfl) (by kernel_rfl) (fun hl => ⟨0, (a_impl_LabelInts 0 a0).trans (impl_LabelInts_ok (ρ := Ret) (fun r0 => some [⟨(.slice 3 (.int .i64)), r0⟩]) a0 g)⟩)
/-! impl.EntryInts -/
abbrev G.impl_EntryInts (e : TEntry) : Bool := decide (wE e ≤ 1048576)
abbrev N.impl_EntryInts (e : TEntry) : List Int := entryInts e
def impl_EntryInts_L0 {ρ : Type} (k : (List Int) → Option ρ) (L0 : (List ByteArray) → Int → Int → (List Int) → Option ρ) (v0_0 : (List ByteArray)) (v0_1 : Int) (v0_2 : Int) (v0_3 : (List Int)) : Option ρ := (cond (decide (v0_2 < v0_1)) (cond (inRange v0_2 (List.length v0_0)) (cond (G.impl_LabelInts (List.getD v0_0 (Int.toNat v0_2) ByteArray.empty)) (cond (fit (List.length v0_3) (List.length (N.impl_LabelInts (List.getD v0_0 (Int.toNat v0_2) ByteArray.empty)))) (L0 v0_0 v0_1 (IntKind.wrap .i64 (v0_2 + (1 : Int))) (List.append v0_3 (N.impl_LabelInts (List.getD v0_0 (Int.toNat v0_2) ByteArray.empty)))) none) none) none) (k v0_3))
def impl_EntryInts {ρ : Type} (k : (List Int) → Option ρ) (L0 : (List ByteArray) → Int → Int → (List Int) → Option ρ) (a0 : TEntry) : Option ρ := (cond (G.impl_LabelInts a0.1) (cond (fit (List.length (N.impl_LabelInts a0.1)) (List.length [a0.2.1, a0.2.2.1, (List.length a0.2.2.2 : Int)])) (L0 a0.2.2.2 (List.length a0.2.2.2 : Int) (0 : Int) (List.append (N.impl_LabelInts a0.1) [a0.2.1, a0.2.2.1, (List.length a0.2.2.2 : Int)])) none) none)
theorem impl_EntryInts_ok {ρ : Type} (k : (List Int) → Option ρ) (a0 : TEntry) (l_a0 : (True ∧ (True ∧ (True ∧ lnL (fun _ => True) a0.2.2.2)))) (g : G.impl_EntryInts a0 = true) : ∃ n0, ∀ n, n0 ≤ n → ∀ (L0 : Nat → (List ByteArray) → Int → Int → (List Int) → Option ρ) (h0 : ∀ ( m : Nat) (v0_0 : (List ByteArray)) (v0_1 : Int) (v0_2 : Int) (v0_3 : (List Int)), L0 (m + 1) v0_0 v0_1 v0_2 v0_3 = impl_EntryInts_L0 k (L0 m) v0_0 v0_1 v0_2 v0_3), impl_EntryInts k (L0 n) a0 = k (N.impl_EntryInts a0) := by
  unfold G.impl_EntryInts at g
  have hw : wE a0 ≤ 1048576 := of_decide_eq_true g
  have hw2 : a0.1.size + (a0.2.2.2.length + wsum ByteArray.size a0.2.2.2) ≤ 1048576 := hw
  have g1 : decide (a0.1.size ≤ 1048576) = true := by simp; omega
  have f1 : fit (labelInts a0.1).length 3 = true := fit_of (by rw [labelInts_len]; omega)
  refine ⟨a0.2.2.2.length + 1, fun n hn L0 h0 => ?_⟩
  show cond (decide (a0.1.size ≤ 1048576)) (cond (fit (labelInts a0.1).length 3) (L0 n a0.2.2.2 (a0.2.2.2.length : Int) 0 (labelInts a0.1 ++ [a0.2.1, a0.2.2.1, (a0.2.2.2.length : Int)])) none) none = k (entryInts a0)
  rw [g1, f1]
  have key := raw_run0 (σ := List Int) (L := fun m i s => L0 m a0.2.2.2 (a0.2.2.2.length : Int) i s) (R := fun i s c => impl_EntryInts_L0 k (fun _ _ i s => c i s) a0.2.2.2 (a0.2.2.2.length : Int) i s) (fun m i s => h0 m a0.2.2.2 (a0.2.2.2.length : Int) i s) a0.2.2.2.length (fun j s => s.length + wP (a0.2.2.2.drop j) ≤ 4194304) (fun j s => k (s ++ (a0.2.2.2.drop j).flatMap labelInts)) (fun j s c hj hI hc => ?_) (fun s c _ => ?_) hn (s := labelInts a0.1 ++ [a0.2.1, a0.2.2.1, (a0.2.2.2.length : Int)]) (by rw [List.drop_zero, List.length_append, labelInts_len]; unfold wP; simp; omega)
  · rw [List.drop_zero] at key
    exact key
  · have hd := drop_cons ByteArray.empty hj
    have hp : wP (a0.2.2.2.drop j) = 1 + (a0.2.2.2.getD j ByteArray.empty).size + wP (a0.2.2.2.drop (j + 1)) := by
      rw [hd]
      unfold wP
      rw [List.length_cons]
      show _ + (_ + _) = _
      omega
    have hm := wsum_mem (wt := ByteArray.size) (getD_mem (d := ByteArray.empty) hj)
    have g2 : decide ((a0.2.2.2.getD j ByteArray.empty).size ≤ 1048576) = true := by simp only [decide_eq_true_eq]; omega
    have e3 : fit s.length (labelInts (a0.2.2.2.getD j ByteArray.empty)).length = true := fit_of (by rw [labelInts_len]; omega)
    have := hc (s ++ labelInts (a0.2.2.2.getD j ByteArray.empty)) (by rw [List.length_append, labelInts_len]; omega)
    simp only [impl_EntryInts_L0, lt_nat, inRange_nat, decide_eq_true hj, cond_true, Int.toNat_natCast, G.impl_LabelInts, N.impl_LabelInts, g2, e3, wrap_succ (j := j) (by unfold big; omega), List.append_eq, this]
    rw [hd]
    simp
  · simp [impl_EntryInts_L0]
def OP_impl_EntryInts (f_impl_LabelInts : ByteArray → (List Int)) (g_impl_LabelInts : ByteArray → Bool) : Orac := (orcX 149 [.val .str] (fun d => g_impl_LabelInts d.1) (fun d => [⟨(.slice 3 (.int .i64)), f_impl_LabelInts d.1⟩]) nilO)
def O_impl_EntryInts : Orac := OP_impl_EntryInts N.impl_LabelInts G.impl_LabelInts
def impl_EntryInts_P_L0 {ρ : Type} (f_impl_LabelInts : ByteArray → (List Int)) (g_impl_LabelInts : ByteArray → Bool) (k : (List Int) → Option ρ) (L0 : (List ByteArray) → Int → Int → (List Int) → Option ρ) (v0_0 : (List ByteArray)) (v0_1 : Int) (v0_2 : Int) (v0_3 : (List Int)) : Option ρ := (cond (decide (v0_2 < v0_1)) (cond (inRange v0_2 (List.length v0_0)) (cond (g_impl_LabelInts (List.getD v0_0 (Int.toNat v0_2) ByteArray.empty)) (cond (fit (List.length v0_3) (List.length (f_impl_LabelInts (List.getD v0_0 (Int.toNat v0_2) ByteArray.empty)))) (L0 v0_0 v0_1 (IntKind.wrap .i64 (v0_2 + (1 : Int))) (List.append v0_3 (f_impl_LabelInts (List.getD v0_0 (Int.toNat v0_2) ByteArray.empty)))) none) none) none) (k v0_3))
def impl_EntryInts_P {ρ : Type} (f_impl_LabelInts : ByteArray → (List Int)) (g_impl_LabelInts : ByteArray → Bool) (k : (List Int) → Option ρ) (L0 : (List ByteArray) → Int → Int → (List Int) → Option ρ) (a0 : TEntry) : Option ρ := (cond (g_impl_LabelInts a0.1) (cond (fit (List.length (f_impl_LabelInts a0.1)) (List.length [a0.2.1, a0.2.2.1, (List.length a0.2.2.2 : Int)])) (L0 a0.2.2.2 (List.length a0.2.2.2 : Int) (0 : Int) (List.append (f_impl_LabelInts a0.1) [a0.2.1, a0.2.2.1, (List.length a0.2.2.2 : Int)])) none) none)
theorem ok_impl_EntryInts : OracOk Try.prog sigs O_impl_EntryInts := (orcX_ok rfl rfl (fun d g => said_impl_LabelInts d.1 g) nilO_ok)
def A_impl_EntryInts : Ann := fun b => cond (Nat.beq b 0) ⟨[(3, true), (19, false), (20, false), (21, false)], []⟩ (⟨[], []⟩)
def S_impl_EntryInts_0 (v0_0 : (List ByteArray)) (v0_1 : Int) (v0_2 : Int) (v0_3 : (List Int)) : St := [(kT 3, some (.tv (.v (.slice 3 (.int .i64)) [] (.own 24)))), (kT 19, some (.tv (.v (.slice 9 .str) v0_0 .no))), (kT 20, some (.tv (.v (.int .i64) v0_1 .no))), (kT 21, some (.tv (.v (.int .i64) v0_2 .no))), (kR 24, some (.row 3 (.int .i64) v0_3))]
noncomputable def L_P_impl_EntryInts_0 (f_impl_LabelInts : ByteArray → (List Int)) (g_impl_LabelInts : ByteArray → Bool) (n m : Nat) : St → Option Ret := loopOf tab sigs (OP_impl_EntryInts f_impl_LabelInts g_impl_LabelInts) A_impl_EntryInts Try.f139 [((.slice 3 (.int .i64)), (.own 0))] n (fun _ => 0) 0 m
noncomputable def L_impl_EntryInts_0 (n m : Nat) : St → Option Ret := L_P_impl_EntryInts_0 N.impl_LabelInts G.impl_LabelInts n m
theorem bP_impl_EntryInts_0 (f_impl_LabelInts : ByteArray → (List Int)) (g_impl_LabelInts : ByteArray → Bool) (n m : Nat) (v0_0 : (List ByteArray)) (v0_1 : Int) (v0_2 : Int) (v0_3 : (List Int)) : L_P_impl_EntryInts_0 f_impl_LabelInts g_impl_LabelInts n (m + 1) (S_impl_EntryInts_0 v0_0 v0_1 v0_2 v0_3) = impl_EntryInts_P_L0 f_impl_LabelInts g_impl_LabelInts (fun r0 => some [⟨(.slice 3 (.int .i64)), r0⟩]) (fun v0_0 v0_1 v0_2 v0_3 => L_P_impl_EntryInts_0 f_impl_LabelInts g_impl_LabelInts n m (S_impl_EntryInts_0 v0_0 v0_1 v0_2 v0_3)) v0_0 v0_1 v0_2 v0_3 := by kernel_rfl
theorem b_impl_EntryInts_0 (n m : Nat) (v0_0 : (List ByteArray)) (v0_1 : Int) (v0_2 : Int) (v0_3 : (List Int)) : L_impl_EntryInts_0 n (m + 1) (S_impl_EntryInts_0 v0_0 v0_1 v0_2 v0_3) = impl_EntryInts_L0 (fun r0 => some [⟨(.slice 3 (.int .i64)), r0⟩]) (fun v0_0 v0_1 v0_2 v0_3 => L_impl_EntryInts_0 n m (S_impl_EntryInts_0 v0_0 v0_1 v0_2 v0_3)) v0_0 v0_1 v0_2 v0_3 := bP_impl_EntryInts_0 N.impl_LabelInts G.impl_LabelInts n m v0_0 v0_1 v0_2 v0_3
theorem aP_impl_EntryInts (f_impl_LabelInts : ByteArray → (List Int)) (g_impl_LabelInts : ByteArray → Bool) (n : Nat) (a0 : TEntry) : absF tab sigs (OP_impl_EntryInts f_impl_LabelInts g_impl_LabelInts) A_impl_EntryInts Try.f139 [((.slice 3 (.int .i64)), (.own 0))] n [.val TyEntry a0] = impl_EntryInts_P f_impl_LabelInts g_impl_LabelInts (fun r0 => some [⟨(.slice 3 (.int .i64)), r0⟩]) (fun v0_0 v0_1 v0_2 v0_3 => L_P_impl_EntryInts_0 f_impl_LabelInts g_impl_LabelInts n n (S_impl_EntryInts_0 v0_0 v0_1 v0_2 v0_3)) a0 := by kernel_rfl
theorem a_impl_EntryInts (n : Nat) (a0 : TEntry) : absF tab sigs O_impl_EntryInts A_impl_EntryInts Try.f139 [((.slice 3 (.int .i64)), (.own 0))] n [.val TyEntry a0] = impl_EntryInts (fun r0 => some [⟨(.slice 3 (.int .i64)), r0⟩]) (fun v0_0 v0_1 v0_2 v0_3 => L_impl_EntryInts_0 n n (S_impl_EntryInts_0 v0_0 v0_1 v0_2 v0_3)) a0 := aP_impl_EntryInts N.impl_LabelInts G.impl_LabelInts n a0
theorem said_impl_EntryInts (a0 : TEntry) (g : G.impl_EntryInts a0 = true) : Said Try.prog sigs_139 139 [.val TyEntry a0] [⟨(.slice 3 (.int .i64)), N.impl_EntryInts a0⟩] := said_len (T := tab) (A := A_impl_EntryInts) tabOk ok_impl_EntryInts tabOk.follows Try.func139 (by kernel_rfl) (by kernel_rfl) (fun hl => let ⟨n, hn⟩ := impl_EntryInts_ok (ρ := Ret) (fun r0 => some [⟨(.slice 3 (.int .i64)), r0⟩]) a0 hl.1 g; ⟨n, (a_impl_EntryInts n a0).trans (hn n (Nat.le_refl n) (fun  m v0_0 v0_1 v0_2 v0_3 => L_impl_EntryInts_0 n  m (S_impl_EntryInts_0 v0_0 v0_1 v0_2 v0_3)) (fun  m v0_0 v0_1 v0_2 v0_3 => b_impl_EntryInts_0 n  m v0_0 v0_1 v0_2 v0_3))⟩)
/-! impl.LeafOf -/
abbrev G.impl_LeafOf (e : TEntry) : Bool := decide (wE e ≤ 1048576)
abbrev N.impl_LeafOf (e : TEntry) : Int := leafOf e
def impl_LeafOf {ρ : Type} (k : Int → Option ρ) (a0 : TEntry) : Option ρ := (cond (G.impl_EntryInts a0) (cond (fit (List.length [(227 : Int)]) (List.length (N.impl_EntryInts a0))) (k (N.impl_Hash (List.append [(227 : Int)] (N.impl_EntryInts a0)))) none) none)
theorem impl_LeafOf_ok {ρ : Type} (k : Int → Option ρ) (a0 : TEntry) (l_a0 : (True ∧ (True ∧ (True ∧ lnL (fun _ => True) a0.2.2.2)))) (g : G.impl_LeafOf a0 = true) : impl_LeafOf k  a0 = k (N.impl_LeafOf a0) := by
  unfold G.impl_LeafOf at g
  have hw : wE a0 ≤ 1048576 := of_decide_eq_true g
  have f1 : fit 1 (entryInts a0).length = true := fit_of (by rw [entryInts_len]; omega)
  show cond (decide (wE a0 ≤ 1048576)) (cond (fit 1 (entryInts a0).length) _ none) none = _
  rw [g, f1]
  rfl
def OP_impl_LeafOf (f_impl_EntryInts : TEntry → (List Int)) (g_impl_EntryInts : TEntry → Bool) (f_impl_Hash : (List Int) → Int) : Orac := (orcX 105 [.val (.slice 3 (.int .i64))] (fun d => true) (fun d => [⟨(.int .i64), f_impl_Hash d.1⟩]) (orcX 139 [.val TyEntry] (fun d => g_impl_EntryInts d.1) (fun d => [⟨(.slice 3 (.int .i64)), f_impl_EntryInts d.1⟩]) nilO))
def O_impl_LeafOf : Orac := OP_impl_LeafOf N.impl_EntryInts G.impl_EntryInts N.impl_Hash
def impl_LeafOf_P {ρ : Type} (f_impl_EntryInts : TEntry → (List Int)) (g_impl_EntryInts : TEntry → Bool) (f_impl_Hash : (List Int) → Int) (k : Int → Option ρ) (a0 : TEntry) : Option ρ := (cond (g_impl_EntryInts a0) (cond (fit (List.length [(227 : Int)]) (List.length (f_impl_EntryInts a0))) (k (f_impl_Hash (List.append [(227 : Int)] (f_impl_EntryInts a0)))) none) none)
theorem ok_impl_LeafOf : OracOk Try.prog sigs O_impl_LeafOf := (orcX_ok rfl rfl (fun d g => said_impl_Hash d.1) (orcX_ok rfl rfl (fun d g => said_impl_EntryInts d.1 g) nilO_ok))
def A_impl_LeafOf : Ann := fun b => ⟨[], []⟩
theorem aP_impl_LeafOf (f_impl_EntryInts : TEntry → (List Int)) (g_impl_EntryInts : TEntry → Bool) (f_impl_Hash : (List Int) → Int) (n : Nat) (a0 : TEntry) : absF tab sigs (OP_impl_LeafOf f_impl_EntryInts g_impl_EntryInts f_impl_Hash) A_impl_LeafOf Try.f128 [((.int .i64), .no)] n [.val TyEntry a0] = impl_LeafOf_P f_impl_EntryInts g_impl_EntryInts f_impl_Hash (fun r0 => some [⟨(.int .i64), r0⟩])  a0 := by kernel_rfl
theorem a_impl_LeafOf (n : Nat) (a0 : TEntry) : absF tab sigs O_impl_LeafOf A_impl_LeafOf Try.f128 [((.int .i64), .no)] n [.val TyEntry a0] = impl_LeafOf (fun r0 => some [⟨(.int .i64), r0⟩])  a0 := aP_impl_LeafOf N.impl_EntryInts G.impl_EntryInts N.impl_Hash n a0
theorem said_impl_LeafOf (a0 : TEntry) (g : G.impl_LeafOf a0 = true) : Said Try.prog sigs_128 128 [.val TyEntry a0] [⟨(.int .i64), N.impl_LeafOf a0⟩] := said_len (T := tab) (A := A_impl_LeafOf) tabOk ok_impl_LeafOf tabOk.follows Try.func128 (by kernel_rfl) (by kernel_rfl) (fun hl => ⟨0, (a_impl_LeafOf 0 a0).trans (impl_LeafOf_ok (ρ := Ret) (fun r0 => some [⟨(.int .i64), r0⟩]) a0 hl.1 g)⟩)
/-! impl.LeavesOf -/
abbrev G.impl_LeavesOf (l : List TEntry) : Bool := decide (wEs l ≤ 1048576)
abbrev N.impl_LeavesOf (l : List TEntry) : List Int := l.map leafOf
def impl_LeavesOf_L0 {ρ : Type} (k : (List Int) → Option ρ) (L0 : (List TEntry) → Int → Int → (List Int) → Option ρ) (v0_0 : (List TEntry)) (v0_1 : Int) (v0_2 : Int) (v0_3 : (List Int)) : Option ρ := (cond (decide (v0_2 < v0_1)) (cond (inRange v0_2 (List.length v0_0)) (cond (G.impl_LeafOf (List.getD v0_0 (Int.toNat v0_2) (ByteArray.empty, ((0 : Int), ((0 : Int), []))))) (cond (fit (List.length v0_3) (List.length [(N.impl_LeafOf (List.getD v0_0 (Int.toNat v0_2) (ByteArray.empty, ((0 : Int), ((0 : Int), [])))))])) (L0 v0_0 v0_1 (IntKind.wrap .i64 (v0_2 + (1 : Int))) (List.append v0_3 [(N.impl_LeafOf (List.getD v0_0 (Int.toNat v0_2) (ByteArray.empty, ((0 : Int), ((0 : Int), [])))))])) none) none) none) (k v0_3))
def impl_LeavesOf {ρ : Type} (k : (List Int) → Option ρ) (L0 : (List TEntry) → Int → Int → (List Int) → Option ρ) (a0 : (List TEntry)) : Option ρ := (L0 a0 (List.length a0 : Int) (0 : Int) ([] : (List Int)))
theorem impl_LeavesOf_ok {ρ : Type} (k : (List Int) → Option ρ) (a0 : (List TEntry)) (l_a0 : lnL (fun y => (True ∧ (True ∧ (True ∧ lnL (fun _ => True) y.2.2.2)))) a0) (g : G.impl_LeavesOf a0 = true) : ∃ n0, ∀ n, n0 ≤ n → ∀ (L0 : Nat → (List TEntry) → Int → Int → (List Int) → Option ρ) (h0 : ∀ ( m : Nat) (v0_0 : (List TEntry)) (v0_1 : Int) (v0_2 : Int) (v0_3 : (List Int)), L0 (m + 1) v0_0 v0_1 v0_2 v0_3 = impl_LeavesOf_L0 k (L0 m) v0_0 v0_1 v0_2 v0_3), impl_LeavesOf k (L0 n) a0 = k (N.impl_LeavesOf a0) := by
  unfold G.impl_LeavesOf at g
  have hw : wEs a0 ≤ 1048576 := of_decide_eq_true g
  have hl : a0.length ≤ 1048576 := by unfold wEs at hw; omega
  refine ⟨a0.length + 1, fun n hn L0 h0 => ?_⟩
  refine raw_map (a := a0) (ByteArray.empty, (0, (0, []))) leafOf 1048576 (k := k) (L := fun m i out => L0 m a0 (a0.length : Int) i out) (R := fun i out c => impl_LeavesOf_L0 k (fun _ _ i out => c i out) a0 (a0.length : Int) i out) (fun m i s => h0 m a0 (a0.length : Int) i s) (fun j out c hj ho => ?_) (fun out c => ?_) hl hn
  · have hm := wEs_mem (getD_mem (d := (ByteArray.empty, (0, (0, [])))) hj)
    have g2 : decide (wE (a0.getD j (ByteArray.empty, (0, (0, [])))) ≤ 1048576) = true := by simp only [decide_eq_true_eq]; omega
    have e3 : fit out.length 1 = true := fit_of (by omega)
    simp only [impl_LeavesOf_L0, lt_nat, inRange_nat, decide_eq_true hj, cond_true, Int.toNat_natCast, G.impl_LeafOf, g2, List.length_singleton, e3, wrap_succ (j := j) (by unfold big; omega), List.append_eq]
  · simp [impl_LeavesOf_L0]
def OP_impl_LeavesOf (f_impl_LeafOf : TEntry → Int) (g_impl_LeafOf : TEntry → Bool) : Orac := (orcX 128 [.val TyEntry] (fun d => g_impl_LeafOf d.1) (fun d => [⟨(.int .i64), f_impl_LeafOf d.1⟩]) nilO)
def O_impl_LeavesOf : Orac := OP_impl_LeavesOf N.impl_LeafOf G.impl_LeafOf
def impl_LeavesOf_P_L0 {ρ : Type} (f_impl_LeafOf : TEntry → Int) (g_impl_LeafOf : TEntry → Bool) (k : (List Int) → Option ρ) (L0 : (List TEntry) → Int → Int → (List Int) → Option ρ) (v0_0 : (List TEntry)) (v0_1 : Int) (v0_2 : Int) (v0_3 : (List Int)) : Option ρ := (cond (decide (v0_2 < v0_1)) (cond (inRange v0_2 (List.length v0_0)) (cond (g_impl_LeafOf (List.getD v0_0 (Int.toNat v0_2) (ByteArray.empty, ((0 : Int), ((0 : Int), []))))) (cond (fit (List.length v0_3) (List.length [(f_impl_LeafOf (List.getD v0_0 (Int.toNat v0_2) (ByteArray.empty, ((0 : Int), ((0 : Int), [])))))])) (L0 v0_0 v0_1 (IntKind.wrap .i64 (v0_2 + (1 : Int))) (List.append v0_3 [(f_impl_LeafOf (List.getD v0_0 (Int.toNat v0_2) (ByteArray.empty, ((0 : Int), ((0 : Int), [])))))])) none) none) none) (k v0_3))
def impl_LeavesOf_P {ρ : Type} (f_impl_LeafOf : TEntry → Int) (g_impl_LeafOf : TEntry → Bool) (k : (List Int) → Option ρ) (L0 : (List TEntry) → Int → Int → (List Int) → Option ρ) (a0 : (List TEntry)) : Option ρ := (L0 a0 (List.length a0 : Int) (0 : Int) ([] : (List Int)))
theorem ok_impl_LeavesOf : OracOk Try.prog sigs O_impl_LeavesOf := (orcX_ok rfl rfl (fun d g => said_impl_LeafOf d.1 g) nilO_ok)
def A_impl_LeavesOf : Ann := fun b => cond (Nat.beq b 0) ⟨[(3, true), (7, false), (8, false), (9, false)], []⟩ (⟨[], []⟩)
def S_impl_LeavesOf_0 (v0_0 : (List TEntry)) (v0_1 : Int) (v0_2 : Int) (v0_3 : (List Int)) : St := [(kT 3, some (.tv (.v (.slice 3 (.int .i64)) [] (.own 24)))), (kT 7, some (.tv (.v (.slice 89 TyEntry) v0_0 .no))), (kT 8, some (.tv (.v (.int .i64) v0_1 .no))), (kT 9, some (.tv (.v (.int .i64) v0_2 .no))), (kR 24, some (.row 3 (.int .i64) v0_3))]
noncomputable def L_P_impl_LeavesOf_0 (f_impl_LeafOf : TEntry → Int) (g_impl_LeafOf : TEntry → Bool) (n m : Nat) : St → Option Ret := loopOf tab sigs (OP_impl_LeavesOf f_impl_LeafOf g_impl_LeafOf) A_impl_LeavesOf Try.f109 [((.slice 3 (.int .i64)), (.own 0))] n (fun _ => 0) 0 m
noncomputable def L_impl_LeavesOf_0 (n m : Nat) : St → Option Ret := L_P_impl_LeavesOf_0 N.impl_LeafOf G.impl_LeafOf n m
theorem bP_impl_LeavesOf_0 (f_impl_LeafOf : TEntry → Int) (g_impl_LeafOf : TEntry → Bool) (n m : Nat) (v0_0 : (List TEntry)) (v0_1 : Int) (v0_2 : Int) (v0_3 : (List Int)) : L_P_impl_LeavesOf_0 f_impl_LeafOf g_impl_LeafOf n (m + 1) (S_impl_LeavesOf_0 v0_0 v0_1 v0_2 v0_3) = impl_LeavesOf_P_L0 f_impl_LeafOf g_impl_LeafOf (fun r0 => some [⟨(.slice 3 (.int .i64)), r0⟩]) (fun v0_0 v0_1 v0_2 v0_3 => L_P_impl_LeavesOf_0 f_impl_LeafOf g_impl_LeafOf n m (S_impl_LeavesOf_0 v0_0 v0_1 v0_2 v0_3)) v0_0 v0_1 v0_2 v0_3 := by kernel_rfl
theorem b_impl_LeavesOf_0 (n m : Nat) (v0_0 : (List TEntry)) (v0_1 : Int) (v0_2 : Int) (v0_3 : (List Int)) : L_impl_LeavesOf_0 n (m + 1) (S_impl_LeavesOf_0 v0_0 v0_1 v0_2 v0_3) = impl_LeavesOf_L0 (fun r0 => some [⟨(.slice 3 (.int .i64)), r0⟩]) (fun v0_0 v0_1 v0_2 v0_3 => L_impl_LeavesOf_0 n m (S_impl_LeavesOf_0 v0_0 v0_1 v0_2 v0_3)) v0_0 v0_1 v0_2 v0_3 := bP_impl_LeavesOf_0 N.impl_LeafOf G.impl_LeafOf n m v0_0 v0_1 v0_2 v0_3
theorem aP_impl_LeavesOf (f_impl_LeafOf : TEntry → Int) (g_impl_LeafOf : TEntry → Bool) (n : Nat) (a0 : (List TEntry)) : absF tab sigs (OP_impl_LeavesOf f_impl_LeafOf g_impl_LeafOf) A_impl_LeavesOf Try.f109 [((.slice 3 (.int .i64)), (.own 0))] n [.val (.slice 89 TyEntry) a0] = impl_LeavesOf_P f_impl_LeafOf g_impl_LeafOf (fun r0 => some [⟨(.slice 3 (.int .i64)), r0⟩]) (fun v0_0 v0_1 v0_2 v0_3 => L_P_impl_LeavesOf_0 f_impl_LeafOf g_impl_LeafOf n n (S_impl_LeavesOf_0 v0_0 v0_1 v0_2 v0_3)) a0 := by kernel_rfl
theorem a_impl_LeavesOf (n : Nat) (a0 : (List TEntry)) : absF tab sigs O_impl_LeavesOf A_impl_LeavesOf Try.f109 [((.slice 3 (.int .i64)), (.own 0))] n [.val (.slice 89 TyEntry) a0] = impl_LeavesOf (fun r0 => some [⟨(.slice 3 (.int .i64)), r0⟩]) (fun v0_0 v0_1 v0_2 v0_3 => L_impl_LeavesOf_0 n n (S_impl_LeavesOf_0 v0_0 v0_1 v0_2 v0_3)) a0 := aP_impl_LeavesOf N.impl_LeafOf G.impl_LeafOf n a0
theorem said_impl_LeavesOf (a0 : (List TEntry)) (g : G.impl_LeavesOf a0 = true) : Said Try.prog sigs_109 109 [.val (.slice 89 TyEntry) a0] [⟨(.slice 3 (.int .i64)), N.impl_LeavesOf a0⟩] := said_len (T := tab) (A := A_impl_LeavesOf) tabOk ok_impl_LeavesOf tabOk.follows Try.func109 (by kernel_rfl) (by kernel_rfl) (fun hl => let ⟨n, hn⟩ := impl_LeavesOf_ok (ρ := Ret) (fun r0 => some [⟨(.slice 3 (.int .i64)), r0⟩]) a0 hl.1 g; ⟨n, (a_impl_LeavesOf n a0).trans (hn n (Nat.le_refl n) (fun  m v0_0 v0_1 v0_2 v0_3 => L_impl_LeavesOf_0 n  m (S_impl_LeavesOf_0 v0_0 v0_1 v0_2 v0_3)) (fun  m v0_0 v0_1 v0_2 v0_3 => b_impl_LeavesOf_0 n  m v0_0 v0_1 v0_2 v0_3))⟩)
/-! impl.hash -/
abbrev N.impl_hash (l : List Int) : Int := hash l
def impl_hash {ρ : Type} (k : Int → Option ρ) (a0 : (List Int)) : Option ρ := (k (N.impl_Hash a0))
theorem impl_hash_ok {ρ : Type} (k : Int → Option ρ) (a0 : (List Int)) (l_a0 : lnL (fun _ => True) a0) : impl_hash k  a0 = k (N.impl_hash a0) := by
  rfl
def OP_impl_hash (f_impl_Hash : (List Int) → Int) : Orac := (orcX 105 [.val (.slice 3 (.int .i64))] (fun d => true) (fun d => [⟨(.int .i64), f_impl_Hash d.1⟩]) nilO)
def O_impl_hash : Orac := OP_impl_hash N.impl_Hash
def impl_hash_P {ρ : Type} (f_impl_Hash : (List Int) → Int) (k : Int → Option ρ) (a0 : (List Int)) : Option ρ := (k (f_impl_Hash a0))
theorem ok_impl_hash : OracOk Try.prog sigs O_impl_hash := (orcX_ok rfl rfl (fun d g => said_impl_Hash d.1) nilO_ok)
def A_impl_hash : Ann := fun b => ⟨[], []⟩
theorem aP_impl_hash (f_impl_Hash : (List Int) → Int) (n : Nat) (a0 : (List Int)) : absF tab sigs (OP_impl_hash f_impl_Hash) A_impl_hash Try.f126 [((.int .i64), .no)] n [.val (.slice 3 (.int .i64)) a0] = impl_hash_P f_impl_Hash (fun r0 => some [⟨(.int .i64), r0⟩])  a0 := by kernel_rfl
theorem a_impl_hash (n : Nat) (a0 : (List Int)) : absF tab sigs O_impl_hash A_impl_hash Try.f126 [((.int .i64), .no)] n [.val (.slice 3 (.int .i64)) a0] = impl_hash (fun r0 => some [⟨(.int .i64), r0⟩])  a0 := aP_impl_hash N.impl_Hash n a0
theorem said_impl_hash (a0 : (List Int)) : Said Try.prog sigs_126 126 [.val (.slice 3 (.int .i64)) a0] [⟨(.int .i64), N.impl_hash a0⟩] := said_len (T := tab) (A := A_impl_hash) tabOk ok_impl_hash tabOk.follows Try.func126 (by kernel_rfl) (by kernel_rfl) (fun hl => ⟨0, (a_impl_hash 0 a0).trans (impl_hash_ok (ρ := Ret) (fun r0 => some [⟨(.int .i64), r0⟩]) a0 hl.1)⟩)
/-! impl.NodeOf -/
abbrev N.impl_NodeOf (a b : Int) : Int := nodeOf a b
def impl_NodeOf {ρ : Type} (k : Int → Option ρ) (a0 : Int) (a1 : Int) : Option ρ := (k (N.impl_hash [(229 : Int), a0, a1]))
theorem impl_NodeOf_ok {ρ : Type} (k : Int → Option ρ) (a0 : Int) (a1 : Int) : impl_NodeOf k  a0 a1 = k (N.impl_NodeOf a0 a1) := by
  rfl
def OP_impl_NodeOf (f_impl_hash : (List Int) → Int) : Orac := (orcX 126 [.val (.slice 3 (.int .i64))] (fun d => true) (fun d => [⟨(.int .i64), f_impl_hash d.1⟩]) nilO)
def O_impl_NodeOf : Orac := OP_impl_NodeOf N.impl_hash
def impl_NodeOf_P {ρ : Type} (f_impl_hash : (List Int) → Int) (k : Int → Option ρ) (a0 : Int) (a1 : Int) : Option ρ := (k (f_impl_hash [(229 : Int), a0, a1]))
theorem ok_impl_NodeOf : OracOk Try.prog sigs O_impl_NodeOf := (orcX_ok rfl rfl (fun d g => said_impl_hash d.1) nilO_ok)
def A_impl_NodeOf : Ann := fun b => ⟨[], []⟩
theorem aP_impl_NodeOf (f_impl_hash : (List Int) → Int) (n : Nat) (a0 : Int) (a1 : Int) : absF tab sigs (OP_impl_NodeOf f_impl_hash) A_impl_NodeOf Try.f138 [((.int .i64), .no)] n [.val (.int .i64) a0, .val (.int .i64) a1] = impl_NodeOf_P f_impl_hash (fun r0 => some [⟨(.int .i64), r0⟩])  a0 a1 := by kernel_rfl
theorem a_impl_NodeOf (n : Nat) (a0 : Int) (a1 : Int) : absF tab sigs O_impl_NodeOf A_impl_NodeOf Try.f138 [((.int .i64), .no)] n [.val (.int .i64) a0, .val (.int .i64) a1] = impl_NodeOf (fun r0 => some [⟨(.int .i64), r0⟩])  a0 a1 := aP_impl_NodeOf N.impl_hash n a0 a1
theorem said_impl_NodeOf (a0 : Int) (a1 : Int) : Said Try.prog sigs_138 138 [.val (.int .i64) a0, .val (.int .i64) a1] [⟨(.int .i64), N.impl_NodeOf a0 a1⟩] := said_len (T := tab) (A := A_impl_NodeOf) tabOk ok_impl_NodeOf tabOk.follows Try.func138 (by kernel_rfl) (by kernel_rfl) (fun hl => ⟨0, (a_impl_NodeOf 0 a0 a1).trans (impl_NodeOf_ok (ρ := Ret) (fun r0 => some [⟨(.int .i64), r0⟩]) a0 a1)⟩)
/-! impl.above -/
abbrev G.impl_above (l : List Int) : Bool := decide (l.length ≤ 1048576)
abbrev N.impl_above (l : List Int) : List Int := up l
def impl_above_L0 {ρ : Type} (k : (List Int) → Option ρ) (L0 : (List Int) → Int → (List Int) → Option ρ) (v0_0 : (List Int)) (v0_1 : Int) (v0_2 : (List Int)) : Option ρ := (cond (decide (v0_1 < (List.length v0_0 : Int))) (cond (decide ((IntKind.wrap .i64 (v0_1 + (1 : Int))) < (List.length v0_0 : Int))) (cond (inRange v0_1 (List.length v0_0)) (cond (inRange (IntKind.wrap .i64 (v0_1 + (1 : Int))) (List.length v0_0)) (cond (fit (List.length v0_2) (List.length [(N.impl_NodeOf (List.getD v0_0 (Int.toNat v0_1) (0 : Int)) (List.getD v0_0 (Int.toNat (IntKind.wrap .i64 (v0_1 + (1 : Int)))) (0 : Int)))])) (L0 v0_0 (IntKind.wrap .i64 (v0_1 + (2 : Int))) (List.append v0_2 [(N.impl_NodeOf (List.getD v0_0 (Int.toNat v0_1) (0 : Int)) (List.getD v0_0 (Int.toNat (IntKind.wrap .i64 (v0_1 + (1 : Int)))) (0 : Int)))])) none) none) none) (cond (inRange v0_1 (List.length v0_0)) (cond (fit (List.length v0_2) (List.length [(List.getD v0_0 (Int.toNat v0_1) (0 : Int))])) (L0 v0_0 (IntKind.wrap .i64 (v0_1 + (2 : Int))) (List.append v0_2 [(List.getD v0_0 (Int.toNat v0_1) (0 : Int))])) none) none)) (k v0_2))
def impl_above {ρ : Type} (k : (List Int) → Option ρ) (L0 : (List Int) → Int → (List Int) → Option ρ) (a0 : (List Int)) : Option ρ := (L0 a0 (0 : Int) ([] : (List Int)))
theorem impl_above_ok {ρ : Type} (k : (List Int) → Option ρ) (a0 : (List Int)) (l_a0 : lnL (fun _ => True) a0) (g : G.impl_above a0 = true) : ∃ n0, ∀ n, n0 ≤ n → ∀ (L0 : Nat → (List Int) → Int → (List Int) → Option ρ) (h0 : ∀ ( m : Nat) (v0_0 : (List Int)) (v0_1 : Int) (v0_2 : (List Int)), L0 (m + 1) v0_0 v0_1 v0_2 = impl_above_L0 k (L0 m) v0_0 v0_1 v0_2), impl_above k (L0 n) a0 = k (N.impl_above a0) := by
  unfold G.impl_above at g
  exact spec_l10Up_ok k a0 l_a0 g
def OP_impl_above (f_impl_NodeOf : Int → Int → Int) : Orac := (orcX 138 [.val (.int .i64), .val (.int .i64)] (fun d => true) (fun d => [⟨(.int .i64), f_impl_NodeOf d.1 d.2.1⟩]) nilO)
def O_impl_above : Orac := OP_impl_above N.impl_NodeOf
def impl_above_P_L0 {ρ : Type} (f_impl_NodeOf : Int → Int → Int) (k : (List Int) → Option ρ) (L0 : (List Int) → Int → (List Int) → Option ρ) (v0_0 : (List Int)) (v0_1 : Int) (v0_2 : (List Int)) : Option ρ := (cond (decide (v0_1 < (List.length v0_0 : Int))) (cond (decide ((IntKind.wrap .i64 (v0_1 + (1 : Int))) < (List.length v0_0 : Int))) (cond (inRange v0_1 (List.length v0_0)) (cond (inRange (IntKind.wrap .i64 (v0_1 + (1 : Int))) (List.length v0_0)) (cond (fit (List.length v0_2) (List.length [(f_impl_NodeOf (List.getD v0_0 (Int.toNat v0_1) (0 : Int)) (List.getD v0_0 (Int.toNat (IntKind.wrap .i64 (v0_1 + (1 : Int)))) (0 : Int)))])) (L0 v0_0 (IntKind.wrap .i64 (v0_1 + (2 : Int))) (List.append v0_2 [(f_impl_NodeOf (List.getD v0_0 (Int.toNat v0_1) (0 : Int)) (List.getD v0_0 (Int.toNat (IntKind.wrap .i64 (v0_1 + (1 : Int)))) (0 : Int)))])) none) none) none) (cond (inRange v0_1 (List.length v0_0)) (cond (fit (List.length v0_2) (List.length [(List.getD v0_0 (Int.toNat v0_1) (0 : Int))])) (L0 v0_0 (IntKind.wrap .i64 (v0_1 + (2 : Int))) (List.append v0_2 [(List.getD v0_0 (Int.toNat v0_1) (0 : Int))])) none) none)) (k v0_2))
def impl_above_P {ρ : Type} (f_impl_NodeOf : Int → Int → Int) (k : (List Int) → Option ρ) (L0 : (List Int) → Int → (List Int) → Option ρ) (a0 : (List Int)) : Option ρ := (L0 a0 (0 : Int) ([] : (List Int)))
theorem ok_impl_above : OracOk Try.prog sigs O_impl_above := (orcX_ok rfl rfl (fun d g => said_impl_NodeOf d.1 d.2.1) nilO_ok)
def A_impl_above : Ann := fun b => cond (Nat.beq b 0) ⟨[(0, false), (3, true), (4, false)], []⟩ (⟨[], []⟩)
def S_impl_above_0 (v0_0 : (List Int)) (v0_1 : Int) (v0_2 : (List Int)) : St := [(kT 0, some (.tv (.v (.slice 3 (.int .i64)) v0_0 .no))), (kT 3, some (.tv (.v (.slice 3 (.int .i64)) [] (.own 24)))), (kT 4, some (.tv (.v (.int .i64) v0_1 .no))), (kR 24, some (.row 3 (.int .i64) v0_2))]
noncomputable def L_P_impl_above_0 (f_impl_NodeOf : Int → Int → Int) (n m : Nat) : St → Option Ret := loopOf tab sigs (OP_impl_above f_impl_NodeOf) A_impl_above Try.f127 [((.slice 3 (.int .i64)), (.own 0))] n (fun _ => 0) 0 m
noncomputable def L_impl_above_0 (n m : Nat) : St → Option Ret := L_P_impl_above_0 N.impl_NodeOf n m
theorem bP_impl_above_0 (f_impl_NodeOf : Int → Int → Int) (n m : Nat) (v0_0 : (List Int)) (v0_1 : Int) (v0_2 : (List Int)) : L_P_impl_above_0 f_impl_NodeOf n (m + 1) (S_impl_above_0 v0_0 v0_1 v0_2) = impl_above_P_L0 f_impl_NodeOf (fun r0 => some [⟨(.slice 3 (.int .i64)), r0⟩]) (fun v0_0 v0_1 v0_2 => L_P_impl_above_0 f_impl_NodeOf n m (S_impl_above_0 v0_0 v0_1 v0_2)) v0_0 v0_1 v0_2 := by kernel_rfl
theorem b_impl_above_0 (n m : Nat) (v0_0 : (List Int)) (v0_1 : Int) (v0_2 : (List Int)) : L_impl_above_0 n (m + 1) (S_impl_above_0 v0_0 v0_1 v0_2) = impl_above_L0 (fun r0 => some [⟨(.slice 3 (.int .i64)), r0⟩]) (fun v0_0 v0_1 v0_2 => L_impl_above_0 n m (S_impl_above_0 v0_0 v0_1 v0_2)) v0_0 v0_1 v0_2 := bP_impl_above_0 N.impl_NodeOf n m v0_0 v0_1 v0_2
theorem aP_impl_above (f_impl_NodeOf : Int → Int → Int) (n : Nat) (a0 : (List Int)) : absF tab sigs (OP_impl_above f_impl_NodeOf) A_impl_above Try.f127 [((.slice 3 (.int .i64)), (.own 0))] n [.val (.slice 3 (.int .i64)) a0] = impl_above_P f_impl_NodeOf (fun r0 => some [⟨(.slice 3 (.int .i64)), r0⟩]) (fun v0_0 v0_1 v0_2 => L_P_impl_above_0 f_impl_NodeOf n n (S_impl_above_0 v0_0 v0_1 v0_2)) a0 := by kernel_rfl
theorem a_impl_above (n : Nat) (a0 : (List Int)) : absF tab sigs O_impl_above A_impl_above Try.f127 [((.slice 3 (.int .i64)), (.own 0))] n [.val (.slice 3 (.int .i64)) a0] = impl_above (fun r0 => some [⟨(.slice 3 (.int .i64)), r0⟩]) (fun v0_0 v0_1 v0_2 => L_impl_above_0 n n (S_impl_above_0 v0_0 v0_1 v0_2)) a0 := aP_impl_above N.impl_NodeOf n a0
theorem said_impl_above (a0 : (List Int)) (g : G.impl_above a0 = true) : Said Try.prog sigs_127 127 [.val (.slice 3 (.int .i64)) a0] [⟨(.slice 3 (.int .i64)), N.impl_above a0⟩] := said_len (T := tab) (A := A_impl_above) tabOk ok_impl_above tabOk.follows Try.func127 (by kernel_rfl) (by kernel_rfl) (fun hl => let ⟨n, hn⟩ := impl_above_ok (ρ := Ret) (fun r0 => some [⟨(.slice 3 (.int .i64)), r0⟩]) a0 hl.1 g; ⟨n, (a_impl_above n a0).trans (hn n (Nat.le_refl n) (fun  m v0_0 v0_1 v0_2 => L_impl_above_0 n  m (S_impl_above_0 v0_0 v0_1 v0_2)) (fun  m v0_0 v0_1 v0_2 => b_impl_above_0 n  m v0_0 v0_1 v0_2))⟩)
/-! impl.TopOf -/
abbrev G.impl_TopOf (l : List Int) : Bool := decide (l.length ≤ 1048576)
abbrev N.impl_TopOf (l : List Int) : Int := topOf l
def impl_TopOf_L0 {ρ : Type} (k : Int → Option ρ) (L0 : (List Int) → Option ρ) (v0_0 : (List Int)) : Option ρ := (cond (decide ((List.length v0_0 : Int) > (1 : Int))) (cond (G.impl_above v0_0) (L0 (N.impl_above v0_0)) none) (cond (inRange (0 : Int) (List.length v0_0)) (k (List.getD v0_0 0 (0 : Int))) none))
def impl_TopOf {ρ : Type} (k : Int → Option ρ) (L0 : (List Int) → Option ρ) (a0 : (List Int)) : Option ρ := (cond ((List.length a0 : Int) == (0 : Int)) (k (N.impl_hash [(229 : Int)])) (L0 a0))
theorem impl_TopOf_ok {ρ : Type} (k : Int → Option ρ) (a0 : (List Int)) (l_a0 : lnL (fun _ => True) a0) (g : G.impl_TopOf a0 = true) : ∃ n0, ∀ n, n0 ≤ n → ∀ (L0 : Nat → (List Int) → Option ρ) (h0 : ∀ ( m : Nat) (v0_0 : (List Int)), L0 (m + 1) v0_0 = impl_TopOf_L0 k (L0 m) v0_0), impl_TopOf k (L0 n) a0 = k (N.impl_TopOf a0) := by
  unfold G.impl_TopOf at g
  exact spec_TopOf_ok k a0 l_a0 g
def OP_impl_TopOf (f_impl_hash : (List Int) → Int) (f_impl_above : (List Int) → (List Int)) (g_impl_above : (List Int) → Bool) : Orac := (orcX 127 [.val (.slice 3 (.int .i64))] (fun d => g_impl_above d.1) (fun d => [⟨(.slice 3 (.int .i64)), f_impl_above d.1⟩]) (orcX 126 [.val (.slice 3 (.int .i64))] (fun d => true) (fun d => [⟨(.int .i64), f_impl_hash d.1⟩]) nilO))
def O_impl_TopOf : Orac := OP_impl_TopOf N.impl_hash N.impl_above G.impl_above
def impl_TopOf_P_L0 {ρ : Type} (f_impl_hash : (List Int) → Int) (f_impl_above : (List Int) → (List Int)) (g_impl_above : (List Int) → Bool) (k : Int → Option ρ) (L0 : (List Int) → Option ρ) (v0_0 : (List Int)) : Option ρ := (cond (decide ((List.length v0_0 : Int) > (1 : Int))) (cond (g_impl_above v0_0) (L0 (f_impl_above v0_0)) none) (cond (inRange (0 : Int) (List.length v0_0)) (k (List.getD v0_0 0 (0 : Int))) none))
def impl_TopOf_P {ρ : Type} (f_impl_hash : (List Int) → Int) (f_impl_above : (List Int) → (List Int)) (g_impl_above : (List Int) → Bool) (k : Int → Option ρ) (L0 : (List Int) → Option ρ) (a0 : (List Int)) : Option ρ := (cond ((List.length a0 : Int) == (0 : Int)) (k (f_impl_hash [(229 : Int)])) (L0 a0))
theorem ok_impl_TopOf : OracOk Try.prog sigs O_impl_TopOf := (orcX_ok rfl rfl (fun d g => said_impl_above d.1 g) (orcX_ok rfl rfl (fun d g => said_impl_hash d.1) nilO_ok))
def A_impl_TopOf : Ann := fun b => cond (Nat.beq b 0) ⟨[(0, false)], []⟩ (⟨[], []⟩)
def S_impl_TopOf_0 (v0_0 : (List Int)) : St := [(kT 0, some (.tv (.v (.slice 3 (.int .i64)) v0_0 .no)))]
noncomputable def L_P_impl_TopOf_0 (f_impl_hash : (List Int) → Int) (f_impl_above : (List Int) → (List Int)) (g_impl_above : (List Int) → Bool) (n m : Nat) : St → Option Ret := loopOf tab sigs (OP_impl_TopOf f_impl_hash f_impl_above g_impl_above) A_impl_TopOf Try.f108 [((.int .i64), .no)] n (fun _ => 0) 0 m
noncomputable def L_impl_TopOf_0 (n m : Nat) : St → Option Ret := L_P_impl_TopOf_0 N.impl_hash N.impl_above G.impl_above n m
theorem bP_impl_TopOf_0 (f_impl_hash : (List Int) → Int) (f_impl_above : (List Int) → (List Int)) (g_impl_above : (List Int) → Bool) (n m : Nat) (v0_0 : (List Int)) : L_P_impl_TopOf_0 f_impl_hash f_impl_above g_impl_above n (m + 1) (S_impl_TopOf_0 v0_0) = impl_TopOf_P_L0 f_impl_hash f_impl_above g_impl_above (fun r0 => some [⟨(.int .i64), r0⟩]) (fun v0_0 => L_P_impl_TopOf_0 f_impl_hash f_impl_above g_impl_above n m (S_impl_TopOf_0 v0_0)) v0_0 := by kernel_rfl
theorem b_impl_TopOf_0 (n m : Nat) (v0_0 : (List Int)) : L_impl_TopOf_0 n (m + 1) (S_impl_TopOf_0 v0_0) = impl_TopOf_L0 (fun r0 => some [⟨(.int .i64), r0⟩]) (fun v0_0 => L_impl_TopOf_0 n m (S_impl_TopOf_0 v0_0)) v0_0 := bP_impl_TopOf_0 N.impl_hash N.impl_above G.impl_above n m v0_0
theorem aP_impl_TopOf (f_impl_hash : (List Int) → Int) (f_impl_above : (List Int) → (List Int)) (g_impl_above : (List Int) → Bool) (n : Nat) (a0 : (List Int)) : absF tab sigs (OP_impl_TopOf f_impl_hash f_impl_above g_impl_above) A_impl_TopOf Try.f108 [((.int .i64), .no)] n [.val (.slice 3 (.int .i64)) a0] = impl_TopOf_P f_impl_hash f_impl_above g_impl_above (fun r0 => some [⟨(.int .i64), r0⟩]) (fun v0_0 => L_P_impl_TopOf_0 f_impl_hash f_impl_above g_impl_above n n (S_impl_TopOf_0 v0_0)) a0 := by kernel_rfl
theorem a_impl_TopOf (n : Nat) (a0 : (List Int)) : absF tab sigs O_impl_TopOf A_impl_TopOf Try.f108 [((.int .i64), .no)] n [.val (.slice 3 (.int .i64)) a0] = impl_TopOf (fun r0 => some [⟨(.int .i64), r0⟩]) (fun v0_0 => L_impl_TopOf_0 n n (S_impl_TopOf_0 v0_0)) a0 := aP_impl_TopOf N.impl_hash N.impl_above G.impl_above n a0
theorem said_impl_TopOf (a0 : (List Int)) (g : G.impl_TopOf a0 = true) : Said Try.prog sigs_108 108 [.val (.slice 3 (.int .i64)) a0] [⟨(.int .i64), N.impl_TopOf a0⟩] := said_len (T := tab) (A := A_impl_TopOf) tabOk ok_impl_TopOf tabOk.follows Try.func108 (by kernel_rfl) (by kernel_rfl) (fun hl => let ⟨n, hn⟩ := impl_TopOf_ok (ρ := Ret) (fun r0 => some [⟨(.int .i64), r0⟩]) a0 hl.1 g; ⟨n, (a_impl_TopOf n a0).trans (hn n (Nat.le_refl n) (fun  m v0_0 => L_impl_TopOf_0 n  m (S_impl_TopOf_0 v0_0)) (fun  m v0_0 => b_impl_TopOf_0 n  m v0_0))⟩)
/-! impl.rootFrom -/
abbrev N.impl_rootFrom (n top : Int) : Int := rootFrom n top
def impl_rootFrom {ρ : Type} (k : Int → Option ρ) (a0 : Int) (a1 : Int) : Option ρ := (k (N.impl_hash [(231 : Int), a0, a1]))
theorem impl_rootFrom_ok {ρ : Type} (k : Int → Option ρ) (a0 : Int) (a1 : Int) : impl_rootFrom k  a0 a1 = k (N.impl_rootFrom a0 a1) := by
  rfl
def OP_impl_rootFrom (f_impl_hash : (List Int) → Int) : Orac := (orcX 126 [.val (.slice 3 (.int .i64))] (fun d => true) (fun d => [⟨(.int .i64), f_impl_hash d.1⟩]) nilO)
def O_impl_rootFrom : Orac := OP_impl_rootFrom N.impl_hash
def impl_rootFrom_P {ρ : Type} (f_impl_hash : (List Int) → Int) (k : Int → Option ρ) (a0 : Int) (a1 : Int) : Option ρ := (k (f_impl_hash [(231 : Int), a0, a1]))
theorem ok_impl_rootFrom : OracOk Try.prog sigs O_impl_rootFrom := (orcX_ok rfl rfl (fun d g => said_impl_hash d.1) nilO_ok)
def A_impl_rootFrom : Ann := fun b => ⟨[], []⟩
theorem aP_impl_rootFrom (f_impl_hash : (List Int) → Int) (n : Nat) (a0 : Int) (a1 : Int) : absF tab sigs (OP_impl_rootFrom f_impl_hash) A_impl_rootFrom Try.f107 [((.int .i64), .no)] n [.val (.int .i64) a0, .val (.int .i64) a1] = impl_rootFrom_P f_impl_hash (fun r0 => some [⟨(.int .i64), r0⟩])  a0 a1 := by kernel_rfl
theorem a_impl_rootFrom (n : Nat) (a0 : Int) (a1 : Int) : absF tab sigs O_impl_rootFrom A_impl_rootFrom Try.f107 [((.int .i64), .no)] n [.val (.int .i64) a0, .val (.int .i64) a1] = impl_rootFrom (fun r0 => some [⟨(.int .i64), r0⟩])  a0 a1 := aP_impl_rootFrom N.impl_hash n a0 a1
theorem said_impl_rootFrom (a0 : Int) (a1 : Int) : Said Try.prog sigs_107 107 [.val (.int .i64) a0, .val (.int .i64) a1] [⟨(.int .i64), N.impl_rootFrom a0 a1⟩] := said_len (T := tab) (A := A_impl_rootFrom) tabOk ok_impl_rootFrom tabOk.follows Try.func107 (by kernel_rfl) (by kernel_rfl) (fun hl => ⟨0, (a_impl_rootFrom 0 a0 a1).trans (impl_rootFrom_ok (ρ := Ret) (fun r0 => some [⟨(.int .i64), r0⟩]) a0 a1)⟩)
/-! impl.RootOf -/
abbrev G.impl_RootOf (l : List TEntry) : Bool := decide (wEs l ≤ 1048576)
abbrev N.impl_RootOf (l : List TEntry) : Int := rootOf l
def impl_RootOf {ρ : Type} (k : Int → Option ρ) (a0 : (List TEntry)) : Option ρ := (cond (G.impl_LeavesOf a0) (cond (G.impl_TopOf (N.impl_LeavesOf a0)) (k (N.impl_rootFrom (List.length a0 : Int) (N.impl_TopOf (N.impl_LeavesOf a0)))) none) none)
theorem impl_RootOf_ok {ρ : Type} (k : Int → Option ρ) (a0 : (List TEntry)) (l_a0 : lnL (fun y => (True ∧ (True ∧ (True ∧ lnL (fun _ => True) y.2.2.2)))) a0) (g : G.impl_RootOf a0 = true) : impl_RootOf k  a0 = k (N.impl_RootOf a0) := by
  unfold G.impl_RootOf at g
  have hw : wEs a0 ≤ 1048576 := of_decide_eq_true g
  have hl : decide ((a0.map leafOf).length ≤ 1048576) = true := by unfold wEs at hw; simp; omega
  show cond (decide (wEs a0 ≤ 1048576)) (cond (decide ((a0.map leafOf).length ≤ 1048576)) _ none) none = _
  rw [g, hl]
  rfl
def OP_impl_RootOf (f_impl_LeavesOf : (List TEntry) → (List Int)) (g_impl_LeavesOf : (List TEntry) → Bool) (f_impl_TopOf : (List Int) → Int) (g_impl_TopOf : (List Int) → Bool) (f_impl_rootFrom : Int → Int → Int) : Orac := (orcX 107 [.val (.int .i64), .val (.int .i64)] (fun d => true) (fun d => [⟨(.int .i64), f_impl_rootFrom d.1 d.2.1⟩]) (orcX 108 [.val (.slice 3 (.int .i64))] (fun d => g_impl_TopOf d.1) (fun d => [⟨(.int .i64), f_impl_TopOf d.1⟩]) (orcX 109 [.val (.slice 89 TyEntry)] (fun d => g_impl_LeavesOf d.1) (fun d => [⟨(.slice 3 (.int .i64)), f_impl_LeavesOf d.1⟩]) nilO)))
def O_impl_RootOf : Orac := OP_impl_RootOf N.impl_LeavesOf G.impl_LeavesOf N.impl_TopOf G.impl_TopOf N.impl_rootFrom
def impl_RootOf_P {ρ : Type} (f_impl_LeavesOf : (List TEntry) → (List Int)) (g_impl_LeavesOf : (List TEntry) → Bool) (f_impl_TopOf : (List Int) → Int) (g_impl_TopOf : (List Int) → Bool) (f_impl_rootFrom : Int → Int → Int) (k : Int → Option ρ) (a0 : (List TEntry)) : Option ρ := (cond (g_impl_LeavesOf a0) (cond (g_impl_TopOf (f_impl_LeavesOf a0)) (k (f_impl_rootFrom (List.length a0 : Int) (f_impl_TopOf (f_impl_LeavesOf a0)))) none) none)
theorem ok_impl_RootOf : OracOk Try.prog sigs O_impl_RootOf := (orcX_ok rfl rfl (fun d g => said_impl_rootFrom d.1 d.2.1) (orcX_ok rfl rfl (fun d g => said_impl_TopOf d.1 g) (orcX_ok rfl rfl (fun d g => said_impl_LeavesOf d.1 g) nilO_ok)))
def A_impl_RootOf : Ann := fun b => ⟨[], []⟩
theorem aP_impl_RootOf (f_impl_LeavesOf : (List TEntry) → (List Int)) (g_impl_LeavesOf : (List TEntry) → Bool) (f_impl_TopOf : (List Int) → Int) (g_impl_TopOf : (List Int) → Bool) (f_impl_rootFrom : Int → Int → Int) (n : Nat) (a0 : (List TEntry)) : absF tab sigs (OP_impl_RootOf f_impl_LeavesOf g_impl_LeavesOf f_impl_TopOf g_impl_TopOf f_impl_rootFrom) A_impl_RootOf Try.f72 [((.int .i64), .no)] n [.val (.slice 89 TyEntry) a0] = impl_RootOf_P f_impl_LeavesOf g_impl_LeavesOf f_impl_TopOf g_impl_TopOf f_impl_rootFrom (fun r0 => some [⟨(.int .i64), r0⟩])  a0 := by kernel_rfl
theorem a_impl_RootOf (n : Nat) (a0 : (List TEntry)) : absF tab sigs O_impl_RootOf A_impl_RootOf Try.f72 [((.int .i64), .no)] n [.val (.slice 89 TyEntry) a0] = impl_RootOf (fun r0 => some [⟨(.int .i64), r0⟩])  a0 := aP_impl_RootOf N.impl_LeavesOf G.impl_LeavesOf N.impl_TopOf G.impl_TopOf N.impl_rootFrom n a0
theorem said_impl_RootOf (a0 : (List TEntry)) (g : G.impl_RootOf a0 = true) : Said Try.prog sigs_72 72 [.val (.slice 89 TyEntry) a0] [⟨(.int .i64), N.impl_RootOf a0⟩] := said_len (T := tab) (A := A_impl_RootOf) tabOk ok_impl_RootOf tabOk.follows Try.func72 (by kernel_rfl) (by kernel_rfl) (fun hl => ⟨0, (a_impl_RootOf 0 a0).trans (impl_RootOf_ok (ρ := Ret) (fun r0 => some [⟨(.int .i64), r0⟩]) a0 hl.1 g)⟩)
/-! slices.Clone[[]int,int] -/
abbrev G.slices_Clone_int (a : List Int) : Bool := decide (a.length ≤ 1048576)
abbrev N.slices_Clone_int (a : List Int) : List Int := a
noncomputable def slices_Clone_int {ρ : Type} (k : (List Int) → Option ρ) (a0 : (List Int)) : Option ρ := (cond (List.isEmpty a0) (both (k []) (cond (fit (List.length ([] : (List Int))) (List.length a0)) (k (List.append ([] : (List Int)) a0)) none)) (cond (fit (List.length ([] : (List Int))) (List.length a0)) (k (List.append ([] : (List Int)) a0)) none))
theorem slices_Clone_int_ok {ρ : Type} (k : (List Int) → Option ρ) (a0 : (List Int)) (l_a0 : lnL (fun _ => True) a0) (g : G.slices_Clone_int a0 = true) : slices_Clone_int k  a0 = k (N.slices_Clone_int a0) := by
  unfold G.slices_Clone_int at g
  have h1 : fit (List.length ([] : List Int)) (List.length a0) = true := fit_of (by have := of_decide_eq_true g; simp; omega)
  unfold slices_Clone_int
  rw [h1]
  cases a0 with
  | nil => exact both_self _
  | cons x l => rfl
def O_slices_Clone_int : Orac := nilO
theorem ok_slices_Clone_int : OracOk Try.prog sigs O_slices_Clone_int := nilO_ok
def A_slices_Clone_int : Ann := fun b => ⟨[], []⟩
theorem a_slices_Clone_int (n : Nat) (a0 : (List Int)) : absF tab sigs O_slices_Clone_int A_slices_Clone_int Try.f97 [((.slice 3 (.int .i64)), (.own 0))] n [.val (.slice 3 (.int .i64)) a0] = slices_Clone_int (fun r0 => some [⟨(.slice 3 (.int .i64)), r0⟩])  a0 := by kernel_rfl
theorem said_slices_Clone_int (a0 : (List Int)) (g : G.slices_Clone_int a0 = true) : Said Try.prog sigs_97 97 [.val (.slice 3 (.int .i64)) a0] [⟨(.slice 3 (.int .i64)), N.slices_Clone_int a0⟩] := said_len (T := tab) (A := A_slices_Clone_int) tabOk ok_slices_Clone_int tabOk.follows Try.func97 (by kernel_rfl) (by kernel_rfl) (fun hl => ⟨0, (a_slices_Clone_int 0 a0).trans (slices_Clone_int_ok (ρ := Ret) (fun r0 => some [⟨(.slice 3 (.int .i64)), r0⟩]) a0 hl.1 g)⟩)
/-! impl.copyKeys -/
abbrev G.impl_copyKeys (a : TKeys) : Bool := decide (wK a ≤ 1048576)
abbrev N.impl_copyKeys (a : TKeys) : TKeys := a
def impl_copyKeys {ρ : Type} (k : TKeys → Option ρ) (a0 : TKeys) : Option ρ := (cond (G.slices_Clone_int a0.1) (k ((N.slices_Clone_int a0.1), a0.2)) none)
theorem impl_copyKeys_ok {ρ : Type} (k : TKeys → Option ρ) (a0 : TKeys) (l_a0 : (lnL (fun _ => True) a0.1 ∧ True)) (g : G.impl_copyKeys a0 = true) : impl_copyKeys k  a0 = k (N.impl_copyKeys a0) := by
  unfold G.impl_copyKeys at g
  show cond (decide (wK a0 ≤ 1048576)) _ none = _
  rw [g]
  rfl
def OP_impl_copyKeys (f_slices_Clone_int : (List Int) → (List Int)) (g_slices_Clone_int : (List Int) → Bool) : Orac := (orcX 97 [.val (.slice 3 (.int .i64))] (fun d => g_slices_Clone_int d.1) (fun d => [⟨(.slice 3 (.int .i64)), f_slices_Clone_int d.1⟩]) nilO)
def O_impl_copyKeys : Orac := OP_impl_copyKeys N.slices_Clone_int G.slices_Clone_int
def impl_copyKeys_P {ρ : Type} (f_slices_Clone_int : (List Int) → (List Int)) (g_slices_Clone_int : (List Int) → Bool) (k : TKeys → Option ρ) (a0 : TKeys) : Option ρ := (cond (g_slices_Clone_int a0.1) (k ((f_slices_Clone_int a0.1), a0.2)) none)
theorem ok_impl_copyKeys : OracOk Try.prog sigs O_impl_copyKeys := (orcX_ok rfl rfl (fun d g => said_slices_Clone_int d.1 g) nilO_ok)
def A_impl_copyKeys : Ann := fun b => ⟨[], []⟩
theorem aP_impl_copyKeys (f_slices_Clone_int : (List Int) → (List Int)) (g_slices_Clone_int : (List Int) → Bool) (n : Nat) (a0 : TKeys) : absF tab sigs (OP_impl_copyKeys f_slices_Clone_int g_slices_Clone_int) A_impl_copyKeys Try.f55 [((.pair (.slice 3 (.int .i64)) (.int .i64)), (.pair (.own 0) .no))] n [.val (.pair (.slice 3 (.int .i64)) (.int .i64)) a0] = impl_copyKeys_P f_slices_Clone_int g_slices_Clone_int (fun r0 => some [⟨(.pair (.slice 3 (.int .i64)) (.int .i64)), r0⟩])  a0 := by kernel_rfl
theorem a_impl_copyKeys (n : Nat) (a0 : TKeys) : absF tab sigs O_impl_copyKeys A_impl_copyKeys Try.f55 [((.pair (.slice 3 (.int .i64)) (.int .i64)), (.pair (.own 0) .no))] n [.val (.pair (.slice 3 (.int .i64)) (.int .i64)) a0] = impl_copyKeys (fun r0 => some [⟨(.pair (.slice 3 (.int .i64)) (.int .i64)), r0⟩])  a0 := aP_impl_copyKeys N.slices_Clone_int G.slices_Clone_int n a0
theorem said_impl_copyKeys (a0 : TKeys) (g : G.impl_copyKeys a0 = true) : Said Try.prog sigs_55 55 [.val (.pair (.slice 3 (.int .i64)) (.int .i64)) a0] [⟨(.pair (.slice 3 (.int .i64)) (.int .i64)), N.impl_copyKeys a0⟩] := said_len (T := tab) (A := A_impl_copyKeys) tabOk ok_impl_copyKeys tabOk.follows Try.func55 (by kernel_rfl) (by kernel_rfl) (fun hl => ⟨0, (a_impl_copyKeys 0 a0).trans (impl_copyKeys_ok (ρ := Ret) (fun r0 => some [⟨(.pair (.slice 3 (.int .i64)) (.int .i64)), r0⟩]) a0 hl.1 g)⟩)
/-! impl.IsLabel -/
abbrev G.impl_IsLabel (s : ByteArray) : Bool := decide (s.size ≤ 1048576)
abbrev N.impl_IsLabel (s : ByteArray) : Bool := isLabel s
def impl_IsLabel_L0 {ρ : Type} (k : Bool → Option ρ) (L0 : ByteArray → Int → Int → Option ρ) (v0_0 : ByteArray) (v0_1 : Int) (v0_2 : Int) : Option ρ := (cond (decide (v0_2 < v0_1)) (cond (inRange v0_2 (ByteArray.size v0_0)) (cond (decide ((bt v0_0 v0_2) ≥ (97 : Int))) (cond (decide ((bt v0_0 v0_2) ≤ (122 : Int))) (L0 v0_0 v0_1 (IntKind.wrap .i64 (v0_2 + (1 : Int)))) (cond (decide ((bt v0_0 v0_2) ≥ (48 : Int))) (cond (decide ((bt v0_0 v0_2) ≤ (57 : Int))) (L0 v0_0 v0_1 (IntKind.wrap .i64 (v0_2 + (1 : Int)))) (cond ((bt v0_0 v0_2) == (45 : Int)) (cond (decide (v0_2 > (0 : Int))) (cond (!(decide (v0_2 < (IntKind.wrap .i64 ((ByteArray.size v0_0 : Int) - (1 : Int)))))) (k false) (L0 v0_0 v0_1 (IntKind.wrap .i64 (v0_2 + (1 : Int))))) (k false)) (k false))) (cond ((bt v0_0 v0_2) == (45 : Int)) (cond (decide (v0_2 > (0 : Int))) (cond (!(decide (v0_2 < (IntKind.wrap .i64 ((ByteArray.size v0_0 : Int) - (1 : Int)))))) (k false) (L0 v0_0 v0_1 (IntKind.wrap .i64 (v0_2 + (1 : Int))))) (k false)) (k false)))) (cond (decide ((bt v0_0 v0_2) ≥ (48 : Int))) (cond (decide ((bt v0_0 v0_2) ≤ (57 : Int))) (L0 v0_0 v0_1 (IntKind.wrap .i64 (v0_2 + (1 : Int)))) (cond ((bt v0_0 v0_2) == (45 : Int)) (cond (decide (v0_2 > (0 : Int))) (cond (!(decide (v0_2 < (IntKind.wrap .i64 ((ByteArray.size v0_0 : Int) - (1 : Int)))))) (k false) (L0 v0_0 v0_1 (IntKind.wrap .i64 (v0_2 + (1 : Int))))) (k false)) (k false))) (cond ((bt v0_0 v0_2) == (45 : Int)) (cond (decide (v0_2 > (0 : Int))) (cond (!(decide (v0_2 < (IntKind.wrap .i64 ((ByteArray.size v0_0 : Int) - (1 : Int)))))) (k false) (L0 v0_0 v0_1 (IntKind.wrap .i64 (v0_2 + (1 : Int))))) (k false)) (k false)))) none) (k (N.impl_InRange (ByteArray.size v0_0 : Int) (1 : Int) (8 : Int))))
def impl_IsLabel {ρ : Type} (k : Bool → Option ρ) (L0 : ByteArray → Int → Int → Option ρ) (a0 : ByteArray) : Option ρ := (L0 a0 (ByteArray.size a0 : Int) (0 : Int))
theorem impl_IsLabel_ok {ρ : Type} (k : Bool → Option ρ) (a0 : ByteArray) (g : G.impl_IsLabel a0 = true) : ∃ n0, ∀ n, n0 ≤ n → ∀ (L0 : Nat → ByteArray → Int → Int → Option ρ) (h0 : ∀ ( m : Nat) (v0_0 : ByteArray) (v0_1 : Int) (v0_2 : Int), L0 (m + 1) v0_0 v0_1 v0_2 = impl_IsLabel_L0 k (L0 m) v0_0 v0_1 v0_2), impl_IsLabel k (L0 n) a0 = k (N.impl_IsLabel a0) := by
  unfold G.impl_IsLabel at g
  have hlen : a0.size ≤ 1048576 := of_decide_eq_true g
  refine ⟨a0.size + 1, fun n hn L0 h0 => ?_⟩
  show L0 n a0 (a0.size : Int) 0 = k (isLabel a0)
  have hrun := raw_run0 (σ := Unit) (s := ()) (L := fun m i _ => L0 m a0 (a0.size : Int) i) (R := fun i _ c => impl_IsLabel_L0 k (fun _ _ i => c i ()) a0 (a0.size : Int) i) (fun m i s => h0 m a0 (a0.size : Int) i) a0.size (fun _ _ => True) (fun j _ => cond (labelBytes a0 (a0.size - j) j) (k (inR (a0.size : Int) 1 8)) (k false)) (fun j s c hj _ hc => ?_) (fun s c _ => ?_) hn trivial
  · refine hrun.trans ?_
    unfold isLabel
    rw [Nat.sub_zero]
    cases labelBytes a0 a0.size 0 <;> cases inR (a0.size : Int) 1 8 <;> rfl
  · obtain ⟨m, hm⟩ : ∃ m, a0.size - j = m + 1 := ⟨a0.size - j - 1, by omega⟩
    have hm2 : a0.size - (j + 1) = m := by omega
    have hc' := hc () trivial
    rw [hm2] at hc'
    have e1 : decide ((j : Int) < IntKind.wrap .i64 ((a0.size : Int) - 1)) = decide (j + 1 < a0.size) := by rw [wrap_id (by omega) (by omega)]; simp only [decide_eq_decide]; omega
    have e2 : decide ((j : Int) > 0) = decide (0 < j) := by simp only [decide_eq_decide]; omega
    rw [hm]
    unfold labelBytes okByte isLetter
    simp only [impl_IsLabel_L0, lt_nat, inRange_nat, decide_eq_true hj, cond_true, wrap_succ (j := j) (by unfold big; omega), hc', e1, e2, ge_iff_le, N.impl_InRange]
    generalize bt a0 (j : Int) = b
    cases decide (97 ≤ b) <;> cases decide (b ≤ 122) <;> cases decide (48 ≤ b) <;> cases decide (b ≤ 57) <;> cases b == 45 <;> cases decide (0 < j) <;> cases decide (j + 1 < a0.size) <;> rfl
  · rw [Nat.sub_self]
    simp [impl_IsLabel_L0, labelBytes]
def OP_impl_IsLabel (f_impl_InRange : Int → Int → Int → Bool) : Orac := (orcX 86 [.val (.int .i64), .val (.int .i64), .val (.int .i64)] (fun d => true) (fun d => [⟨.bool, f_impl_InRange d.1 d.2.1 d.2.2.1⟩]) nilO)
def O_impl_IsLabel : Orac := OP_impl_IsLabel N.impl_InRange
def impl_IsLabel_P_L0 {ρ : Type} (f_impl_InRange : Int → Int → Int → Bool) (k : Bool → Option ρ) (L0 : ByteArray → Int → Int → Option ρ) (v0_0 : ByteArray) (v0_1 : Int) (v0_2 : Int) : Option ρ := (cond (decide (v0_2 < v0_1)) (cond (inRange v0_2 (ByteArray.size v0_0)) (cond (decide ((bt v0_0 v0_2) ≥ (97 : Int))) (cond (decide ((bt v0_0 v0_2) ≤ (122 : Int))) (L0 v0_0 v0_1 (IntKind.wrap .i64 (v0_2 + (1 : Int)))) (cond (decide ((bt v0_0 v0_2) ≥ (48 : Int))) (cond (decide ((bt v0_0 v0_2) ≤ (57 : Int))) (L0 v0_0 v0_1 (IntKind.wrap .i64 (v0_2 + (1 : Int)))) (cond ((bt v0_0 v0_2) == (45 : Int)) (cond (decide (v0_2 > (0 : Int))) (cond (!(decide (v0_2 < (IntKind.wrap .i64 ((ByteArray.size v0_0 : Int) - (1 : Int)))))) (k false) (L0 v0_0 v0_1 (IntKind.wrap .i64 (v0_2 + (1 : Int))))) (k false)) (k false))) (cond ((bt v0_0 v0_2) == (45 : Int)) (cond (decide (v0_2 > (0 : Int))) (cond (!(decide (v0_2 < (IntKind.wrap .i64 ((ByteArray.size v0_0 : Int) - (1 : Int)))))) (k false) (L0 v0_0 v0_1 (IntKind.wrap .i64 (v0_2 + (1 : Int))))) (k false)) (k false)))) (cond (decide ((bt v0_0 v0_2) ≥ (48 : Int))) (cond (decide ((bt v0_0 v0_2) ≤ (57 : Int))) (L0 v0_0 v0_1 (IntKind.wrap .i64 (v0_2 + (1 : Int)))) (cond ((bt v0_0 v0_2) == (45 : Int)) (cond (decide (v0_2 > (0 : Int))) (cond (!(decide (v0_2 < (IntKind.wrap .i64 ((ByteArray.size v0_0 : Int) - (1 : Int)))))) (k false) (L0 v0_0 v0_1 (IntKind.wrap .i64 (v0_2 + (1 : Int))))) (k false)) (k false))) (cond ((bt v0_0 v0_2) == (45 : Int)) (cond (decide (v0_2 > (0 : Int))) (cond (!(decide (v0_2 < (IntKind.wrap .i64 ((ByteArray.size v0_0 : Int) - (1 : Int)))))) (k false) (L0 v0_0 v0_1 (IntKind.wrap .i64 (v0_2 + (1 : Int))))) (k false)) (k false)))) none) (k (f_impl_InRange (ByteArray.size v0_0 : Int) (1 : Int) (8 : Int))))
def impl_IsLabel_P {ρ : Type} (f_impl_InRange : Int → Int → Int → Bool) (k : Bool → Option ρ) (L0 : ByteArray → Int → Int → Option ρ) (a0 : ByteArray) : Option ρ := (L0 a0 (ByteArray.size a0 : Int) (0 : Int))
theorem ok_impl_IsLabel : OracOk Try.prog sigs O_impl_IsLabel := (orcX_ok rfl rfl (fun d g => said_impl_InRange d.1 d.2.1 d.2.2.1) nilO_ok)
def A_impl_IsLabel : Ann := fun b => cond (Nat.beq b 0) ⟨[(0, false), (6, false), (7, false)], []⟩ (⟨[], []⟩)
def S_impl_IsLabel_0 (v0_0 : ByteArray) (v0_1 : Int) (v0_2 : Int) : St := [(kT 0, some (.tv (.v .str v0_0 .no))), (kT 6, some (.tv (.v (.int .i64) v0_1 .no))), (kT 7, some (.tv (.v (.int .i64) v0_2 .no)))]
noncomputable def L_P_impl_IsLabel_0 (f_impl_InRange : Int → Int → Int → Bool) (n m : Nat) : St → Option Ret := loopOf tab sigs (OP_impl_IsLabel f_impl_InRange) A_impl_IsLabel Try.f129 [(.bool, .no)] n (fun _ => 0) 0 m
noncomputable def L_impl_IsLabel_0 (n m : Nat) : St → Option Ret := L_P_impl_IsLabel_0 N.impl_InRange n m
theorem bP_impl_IsLabel_0 (f_impl_InRange : Int → Int → Int → Bool) (n m : Nat) (v0_0 : ByteArray) (v0_1 : Int) (v0_2 : Int) : L_P_impl_IsLabel_0 f_impl_InRange n (m + 1) (S_impl_IsLabel_0 v0_0 v0_1 v0_2) = impl_IsLabel_P_L0 f_impl_InRange (fun r0 => some [⟨.bool, r0⟩]) (fun v0_0 v0_1 v0_2 => L_P_impl_IsLabel_0 f_impl_InRange n m (S_impl_IsLabel_0 v0_0 v0_1 v0_2)) v0_0 v0_1 v0_2 := by kernel_rfl
theorem b_impl_IsLabel_0 (n m : Nat) (v0_0 : ByteArray) (v0_1 : Int) (v0_2 : Int) : L_impl_IsLabel_0 n (m + 1) (S_impl_IsLabel_0 v0_0 v0_1 v0_2) = impl_IsLabel_L0 (fun r0 => some [⟨.bool, r0⟩]) (fun v0_0 v0_1 v0_2 => L_impl_IsLabel_0 n m (S_impl_IsLabel_0 v0_0 v0_1 v0_2)) v0_0 v0_1 v0_2 := bP_impl_IsLabel_0 N.impl_InRange n m v0_0 v0_1 v0_2
theorem aP_impl_IsLabel (f_impl_InRange : Int → Int → Int → Bool) (n : Nat) (a0 : ByteArray) : absF tab sigs (OP_impl_IsLabel f_impl_InRange) A_impl_IsLabel Try.f129 [(.bool, .no)] n [.val .str a0] = impl_IsLabel_P f_impl_InRange (fun r0 => some [⟨.bool, r0⟩]) (fun v0_0 v0_1 v0_2 => L_P_impl_IsLabel_0 f_impl_InRange n n (S_impl_IsLabel_0 v0_0 v0_1 v0_2)) a0 := by kernel_rfl
theorem a_impl_IsLabel (n : Nat) (a0 : ByteArray) : absF tab sigs O_impl_IsLabel A_impl_IsLabel Try.f129 [(.bool, .no)] n [.val .str a0] = impl_IsLabel (fun r0 => some [⟨.bool, r0⟩]) (fun v0_0 v0_1 v0_2 => L_impl_IsLabel_0 n n (S_impl_IsLabel_0 v0_0 v0_1 v0_2)) a0 := aP_impl_IsLabel N.impl_InRange n a0
theorem said_impl_IsLabel (a0 : ByteArray) (g : G.impl_IsLabel a0 = true) : Said Try.prog sigs_129 129 [.val .str a0] [⟨.bool, N.impl_IsLabel a0⟩] := said_len (T := tab) (A := A_impl_IsLabel) tabOk ok_impl_IsLabel tabOk.follows Try.func129 (by kernel_rfl) (by kernel_rfl) (fun hl => let ⟨n, hn⟩ := impl_IsLabel_ok (ρ := Ret) (fun r0 => some [⟨.bool, r0⟩]) a0 g; ⟨n, (a_impl_IsLabel n a0).trans (hn n (Nat.le_refl n) (fun  m v0_0 v0_1 v0_2 => L_impl_IsLabel_0 n  m (S_impl_IsLabel_0 v0_0 v0_1 v0_2)) (fun  m v0_0 v0_1 v0_2 => b_impl_IsLabel_0 n  m v0_0 v0_1 v0_2))⟩)
/-! impl.isDigest -/
abbrev N.impl_isDigest (n : Int) : Bool := isDigest n
def impl_isDigest {ρ : Type} (k : Bool → Option ρ) (a0 : Int) : Option ρ := (k (N.impl_InRange a0 (0 : Int) (2147483646 : Int)))
theorem impl_isDigest_ok {ρ : Type} (k : Bool → Option ρ) (a0 : Int) : impl_isDigest k  a0 = k (N.impl_isDigest a0) := by
  rfl
def OP_impl_isDigest (f_impl_InRange : Int → Int → Int → Bool) : Orac := (orcX 86 [.val (.int .i64), .val (.int .i64), .val (.int .i64)] (fun d => true) (fun d => [⟨.bool, f_impl_InRange d.1 d.2.1 d.2.2.1⟩]) nilO)
def O_impl_isDigest : Orac := OP_impl_isDigest N.impl_InRange
def impl_isDigest_P {ρ : Type} (f_impl_InRange : Int → Int → Int → Bool) (k : Bool → Option ρ) (a0 : Int) : Option ρ := (k (f_impl_InRange a0 (0 : Int) (2147483646 : Int)))
theorem ok_impl_isDigest : OracOk Try.prog sigs O_impl_isDigest := (orcX_ok rfl rfl (fun d g => said_impl_InRange d.1 d.2.1 d.2.2.1) nilO_ok)
def A_impl_isDigest : Ann := fun b => ⟨[], []⟩
theorem aP_impl_isDigest (f_impl_InRange : Int → Int → Int → Bool) (n : Nat) (a0 : Int) : absF tab sigs (OP_impl_isDigest f_impl_InRange) A_impl_isDigest Try.f85 [(.bool, .no)] n [.val (.int .i64) a0] = impl_isDigest_P f_impl_InRange (fun r0 => some [⟨.bool, r0⟩])  a0 := by kernel_rfl
theorem a_impl_isDigest (n : Nat) (a0 : Int) : absF tab sigs O_impl_isDigest A_impl_isDigest Try.f85 [(.bool, .no)] n [.val (.int .i64) a0] = impl_isDigest (fun r0 => some [⟨.bool, r0⟩])  a0 := aP_impl_isDigest N.impl_InRange n a0
theorem said_impl_isDigest (a0 : Int) : Said Try.prog sigs_85 85 [.val (.int .i64) a0] [⟨.bool, N.impl_isDigest a0⟩] := said_len (T := tab) (A := A_impl_isDigest) tabOk ok_impl_isDigest tabOk.follows Try.func85 (by kernel_rfl) (by kernel_rfl) (fun hl => ⟨0, (a_impl_isDigest 0 a0).trans (impl_isDigest_ok (ρ := Ret) (fun r0 => some [⟨.bool, r0⟩]) a0)⟩)
/-! impl.IsPath$1 -/
abbrev G.impl_IsPath_s1 (s : ByteArray) : Bool := decide (s.size ≤ 1048576)
abbrev N.impl_IsPath_s1 (s : ByteArray) : Bool := !(isLabel s)
def impl_IsPath_s1 {ρ : Type} (k : Bool → Option ρ) (a0 : ByteArray) : Option ρ := (cond (G.impl_IsLabel a0) (k (!(N.impl_IsLabel a0))) none)
theorem impl_IsPath_s1_ok {ρ : Type} (k : Bool → Option ρ) (a0 : ByteArray) (g : G.impl_IsPath_s1 a0 = true) : impl_IsPath_s1 k  a0 = k (N.impl_IsPath_s1 a0) := by
  unfold G.impl_IsPath_s1 at g
  show cond (decide (a0.size ≤ 1048576)) _ none = _
  rw [g]
  rfl
def OP_impl_IsPath_s1 (f_impl_IsLabel : ByteArray → Bool) (g_impl_IsLabel : ByteArray → Bool) : Orac := (orcX 129 [.val .str] (fun d => g_impl_IsLabel d.1) (fun d => [⟨.bool, f_impl_IsLabel d.1⟩]) nilO)
def O_impl_IsPath_s1 : Orac := OP_impl_IsPath_s1 N.impl_IsLabel G.impl_IsLabel
def impl_IsPath_s1_P {ρ : Type} (f_impl_IsLabel : ByteArray → Bool) (g_impl_IsLabel : ByteArray → Bool) (k : Bool → Option ρ) (a0 : ByteArray) : Option ρ := (cond (g_impl_IsLabel a0) (k (!(f_impl_IsLabel a0))) none)
theorem ok_impl_IsPath_s1 : OracOk Try.prog sigs O_impl_IsPath_s1 := (orcX_ok rfl rfl (fun d g => said_impl_IsLabel d.1 g) nilO_ok)
def A_impl_IsPath_s1 : Ann := fun b => ⟨[], []⟩
theorem aP_impl_IsPath_s1 (f_impl_IsLabel : ByteArray → Bool) (g_impl_IsLabel : ByteArray → Bool) (n : Nat) (a0 : ByteArray) : absF tab sigs (OP_impl_IsPath_s1 f_impl_IsLabel g_impl_IsLabel) A_impl_IsPath_s1 Try.f141 [(.bool, .no)] n [.val .str a0] = impl_IsPath_s1_P f_impl_IsLabel g_impl_IsLabel (fun r0 => some [⟨.bool, r0⟩])  a0 := by kernel_rfl
theorem a_impl_IsPath_s1 (n : Nat) (a0 : ByteArray) : absF tab sigs O_impl_IsPath_s1 A_impl_IsPath_s1 Try.f141 [(.bool, .no)] n [.val .str a0] = impl_IsPath_s1 (fun r0 => some [⟨.bool, r0⟩])  a0 := aP_impl_IsPath_s1 N.impl_IsLabel G.impl_IsLabel n a0
theorem said_impl_IsPath_s1 (a0 : ByteArray) (g : G.impl_IsPath_s1 a0 = true) : Said Try.prog sigs_141 141 [.val .str a0] [⟨.bool, N.impl_IsPath_s1 a0⟩] := said_len (T := tab) (A := A_impl_IsPath_s1) tabOk ok_impl_IsPath_s1 tabOk.follows Try.func141 (by kernel_rfl) (by kernel_rfl) (fun hl => ⟨0, (a_impl_IsPath_s1 0 a0).trans (impl_IsPath_s1_ok (ρ := Ret) (fun r0 => some [⟨.bool, r0⟩]) a0 g)⟩)
/-! slices.IndexFunc[[]string,string] -/
abbrev G.slices_IndexFunc_string__impl_IsPath_s1 (p : List ByteArray) : Bool := decide (wP p ≤ 1048576)
abbrev N.slices_IndexFunc_string__impl_IsPath_s1 (p : List ByteArray) : Int := idxFrom (fun s => !(isLabel s)) 0 p
def slices_IndexFunc_string__impl_IsPath_s1_L0 {ρ : Type} (k : Int → Option ρ) (L0 : (List ByteArray) → Int → Int → Option ρ) (v0_0 : (List ByteArray)) (v0_1 : Int) (v0_2 : Int) : Option ρ := (cond (decide (v0_2 < v0_1)) (cond (inRange v0_2 (List.length v0_0)) (cond (G.impl_IsPath_s1 (List.getD v0_0 (Int.toNat v0_2) ByteArray.empty)) (cond (N.impl_IsPath_s1 (List.getD v0_0 (Int.toNat v0_2) ByteArray.empty)) (k v0_2) (L0 v0_0 v0_1 (IntKind.wrap .i64 (v0_2 + (1 : Int))))) none) none) (k (-1 : Int)))
def slices_IndexFunc_string__impl_IsPath_s1 {ρ : Type} (k : Int → Option ρ) (L0 : (List ByteArray) → Int → Int → Option ρ) (a0 : (List ByteArray)) : Option ρ := (L0 a0 (List.length a0 : Int) (0 : Int))
theorem slices_IndexFunc_string__impl_IsPath_s1_ok {ρ : Type} (k : Int → Option ρ) (a0 : (List ByteArray)) (l_a0 : lnL (fun _ => True) a0) (g : G.slices_IndexFunc_string__impl_IsPath_s1 a0 = true) : ∃ n0, ∀ n, n0 ≤ n → ∀ (L0 : Nat → (List ByteArray) → Int → Int → Option ρ) (h0 : ∀ ( m : Nat) (v0_0 : (List ByteArray)) (v0_1 : Int) (v0_2 : Int), L0 (m + 1) v0_0 v0_1 v0_2 = slices_IndexFunc_string__impl_IsPath_s1_L0 k (L0 m) v0_0 v0_1 v0_2), slices_IndexFunc_string__impl_IsPath_s1 k (L0 n) a0 = k (N.slices_IndexFunc_string__impl_IsPath_s1 a0) := by
  unfold G.slices_IndexFunc_string__impl_IsPath_s1 at g
  have hw : wP a0 ≤ 1048576 := of_decide_eq_true g
  have hl : a0.length ≤ 1048576 := by unfold wP at hw; omega
  refine ⟨a0.length + 1, fun n hn L0 h0 => ?_⟩
  refine raw_idx (a := a0) ByteArray.empty (fun s => !(isLabel s)) (k := k) (σ := Unit) (s := ()) (L := fun m i _ => L0 m a0 (a0.length : Int) i) (R := fun i s c => slices_IndexFunc_string__impl_IsPath_s1_L0 k (fun _ _ i => c i ()) a0 (a0.length : Int) i) (fun m i s => h0 m a0 (a0.length : Int) i) (fun j s c hj => ?_) (fun s c => ?_) hn
  · have hm := wP_mem (getD_mem (d := ByteArray.empty) hj)
    have g2 : decide ((a0.getD j ByteArray.empty).size ≤ 1048576) = true := by simp only [decide_eq_true_eq]; omega
    simp only [slices_IndexFunc_string__impl_IsPath_s1_L0, lt_nat, inRange_nat, decide_eq_true hj, cond_true, Int.toNat_natCast, G.impl_IsPath_s1, N.impl_IsPath_s1, g2, wrap_succ (j := j) (by unfold big; omega)]
  · simp [slices_IndexFunc_string__impl_IsPath_s1_L0]
def OP_slices_IndexFunc_string__impl_IsPath_s1 (f_impl_IsPath_s1 : ByteArray → Bool) (g_impl_IsPath_s1 : ByteArray → Bool) : Orac := (orcX 141 [.val .str] (fun d => g_impl_IsPath_s1 d.1) (fun d => [⟨.bool, f_impl_IsPath_s1 d.1⟩]) nilO)
def O_slices_IndexFunc_string__impl_IsPath_s1 : Orac := OP_slices_IndexFunc_string__impl_IsPath_s1 N.impl_IsPath_s1 G.impl_IsPath_s1
def slices_IndexFunc_string__impl_IsPath_s1_P_L0 {ρ : Type} (f_impl_IsPath_s1 : ByteArray → Bool) (g_impl_IsPath_s1 : ByteArray → Bool) (k : Int → Option ρ) (L0 : (List ByteArray) → Int → Int → Option ρ) (v0_0 : (List ByteArray)) (v0_1 : Int) (v0_2 : Int) : Option ρ := (cond (decide (v0_2 < v0_1)) (cond (inRange v0_2 (List.length v0_0)) (cond (g_impl_IsPath_s1 (List.getD v0_0 (Int.toNat v0_2) ByteArray.empty)) (cond (f_impl_IsPath_s1 (List.getD v0_0 (Int.toNat v0_2) ByteArray.empty)) (k v0_2) (L0 v0_0 v0_1 (IntKind.wrap .i64 (v0_2 + (1 : Int))))) none) none) (k (-1 : Int)))
def slices_IndexFunc_string__impl_IsPath_s1_P {ρ : Type} (f_impl_IsPath_s1 : ByteArray → Bool) (g_impl_IsPath_s1 : ByteArray → Bool) (k : Int → Option ρ) (L0 : (List ByteArray) → Int → Int → Option ρ) (a0 : (List ByteArray)) : Option ρ := (L0 a0 (List.length a0 : Int) (0 : Int))
theorem ok_slices_IndexFunc_string__impl_IsPath_s1 : OracOk Try.prog sigs O_slices_IndexFunc_string__impl_IsPath_s1 := (orcX_ok rfl rfl (fun d g => said_impl_IsPath_s1 d.1 g) nilO_ok)
def A_slices_IndexFunc_string__impl_IsPath_s1 : Ann := fun b => cond (Nat.beq b 0) ⟨[(0, false), (1, false), (7, false), (8, false)], []⟩ (⟨[], []⟩)
def S_slices_IndexFunc_string__impl_IsPath_s1_0 (v0_0 : (List ByteArray)) (v0_1 : Int) (v0_2 : Int) : St := [(kT 0, some (.tv (.v (.slice 9 .str) v0_0 .no))), (kT 1, some (.tv (.clo 141 []))), (kT 7, some (.tv (.v (.int .i64) v0_1 .no))), (kT 8, some (.tv (.v (.int .i64) v0_2 .no)))]
noncomputable def L_P_slices_IndexFunc_string__impl_IsPath_s1_0 (f_impl_IsPath_s1 : ByteArray → Bool) (g_impl_IsPath_s1 : ByteArray → Bool) (n m : Nat) : St → Option Ret := loopOf tab sigs (OP_slices_IndexFunc_string__impl_IsPath_s1 f_impl_IsPath_s1 g_impl_IsPath_s1) A_slices_IndexFunc_string__impl_IsPath_s1 Try.f150 [((.int .i64), .no)] n (fun _ => 0) 0 m
noncomputable def L_slices_IndexFunc_string__impl_IsPath_s1_0 (n m : Nat) : St → Option Ret := L_P_slices_IndexFunc_string__impl_IsPath_s1_0 N.impl_IsPath_s1 G.impl_IsPath_s1 n m
theorem bP_slices_IndexFunc_string__impl_IsPath_s1_0 (f_impl_IsPath_s1 : ByteArray → Bool) (g_impl_IsPath_s1 : ByteArray → Bool) (n m : Nat) (v0_0 : (List ByteArray)) (v0_1 : Int) (v0_2 : Int) : L_P_slices_IndexFunc_string__impl_IsPath_s1_0 f_impl_IsPath_s1 g_impl_IsPath_s1 n (m + 1) (S_slices_IndexFunc_string__impl_IsPath_s1_0 v0_0 v0_1 v0_2) = slices_IndexFunc_string__impl_IsPath_s1_P_L0 f_impl_IsPath_s1 g_impl_IsPath_s1 (fun r0 => some [⟨(.int .i64), r0⟩]) (fun v0_0 v0_1 v0_2 => L_P_slices_IndexFunc_string__impl_IsPath_s1_0 f_impl_IsPath_s1 g_impl_IsPath_s1 n m (S_slices_IndexFunc_string__impl_IsPath_s1_0 v0_0 v0_1 v0_2)) v0_0 v0_1 v0_2 := by kernel_rfl
theorem b_slices_IndexFunc_string__impl_IsPath_s1_0 (n m : Nat) (v0_0 : (List ByteArray)) (v0_1 : Int) (v0_2 : Int) : L_slices_IndexFunc_string__impl_IsPath_s1_0 n (m + 1) (S_slices_IndexFunc_string__impl_IsPath_s1_0 v0_0 v0_1 v0_2) = slices_IndexFunc_string__impl_IsPath_s1_L0 (fun r0 => some [⟨(.int .i64), r0⟩]) (fun v0_0 v0_1 v0_2 => L_slices_IndexFunc_string__impl_IsPath_s1_0 n m (S_slices_IndexFunc_string__impl_IsPath_s1_0 v0_0 v0_1 v0_2)) v0_0 v0_1 v0_2 := bP_slices_IndexFunc_string__impl_IsPath_s1_0 N.impl_IsPath_s1 G.impl_IsPath_s1 n m v0_0 v0_1 v0_2
theorem aP_slices_IndexFunc_string__impl_IsPath_s1 (f_impl_IsPath_s1 : ByteArray → Bool) (g_impl_IsPath_s1 : ByteArray → Bool) (n : Nat) (a0 : (List ByteArray)) : absF tab sigs (OP_slices_IndexFunc_string__impl_IsPath_s1 f_impl_IsPath_s1 g_impl_IsPath_s1) A_slices_IndexFunc_string__impl_IsPath_s1 Try.f150 [((.int .i64), .no)] n [.val (.slice 9 .str) a0, .clo 141 []] = slices_IndexFunc_string__impl_IsPath_s1_P f_impl_IsPath_s1 g_impl_IsPath_s1 (fun r0 => some [⟨(.int .i64), r0⟩]) (fun v0_0 v0_1 v0_2 => L_P_slices_IndexFunc_string__impl_IsPath_s1_0 f_impl_IsPath_s1 g_impl_IsPath_s1 n n (S_slices_IndexFunc_string__impl_IsPath_s1_0 v0_0 v0_1 v0_2)) a0 := by kernel_rfl
theorem a_slices_IndexFunc_string__impl_IsPath_s1 (n : Nat) (a0 : (List ByteArray)) : absF tab sigs O_slices_IndexFunc_string__impl_IsPath_s1 A_slices_IndexFunc_string__impl_IsPath_s1 Try.f150 [((.int .i64), .no)] n [.val (.slice 9 .str) a0, .clo 141 []] = slices_IndexFunc_string__impl_IsPath_s1 (fun r0 => some [⟨(.int .i64), r0⟩]) (fun v0_0 v0_1 v0_2 => L_slices_IndexFunc_string__impl_IsPath_s1_0 n n (S_slices_IndexFunc_string__impl_IsPath_s1_0 v0_0 v0_1 v0_2)) a0 := aP_slices_IndexFunc_string__impl_IsPath_s1 N.impl_IsPath_s1 G.impl_IsPath_s1 n a0
theorem said_slices_IndexFunc_string__impl_IsPath_s1 (a0 : (List ByteArray)) (g : G.slices_IndexFunc_string__impl_IsPath_s1 a0 = true) : Said Try.prog sigs_150 150 [.val (.slice 9 .str) a0, .clo 141 []] [⟨(.int .i64), N.slices_IndexFunc_string__impl_IsPath_s1 a0⟩] := said_len (T := tab) (A := A_slices_IndexFunc_string__impl_IsPath_s1) tabOk ok_slices_IndexFunc_string__impl_IsPath_s1 tabOk.follows Try.func150 (by kernel_rfl) (by kernel_rfl) (fun hl => let ⟨n, hn⟩ := slices_IndexFunc_string__impl_IsPath_s1_ok (ρ := Ret) (fun r0 => some [⟨(.int .i64), r0⟩]) a0 hl.1 g; ⟨n, (a_slices_IndexFunc_string__impl_IsPath_s1 n a0).trans (hn n (Nat.le_refl n) (fun  m v0_0 v0_1 v0_2 => L_slices_IndexFunc_string__impl_IsPath_s1_0 n  m (S_slices_IndexFunc_string__impl_IsPath_s1_0 v0_0 v0_1 v0_2)) (fun  m v0_0 v0_1 v0_2 => b_slices_IndexFunc_string__impl_IsPath_s1_0 n  m v0_0 v0_1 v0_2))⟩)
/-! slices.ContainsFunc[[]string,string] -/
abbrev G.slices_ContainsFunc_string__impl_IsPath_s1 (p : List ByteArray) : Bool := decide (wP p ≤ 1048576)
abbrev N.slices_ContainsFunc_string__impl_IsPath_s1 (p : List ByteArray) : Bool := p.any (fun s => !(isLabel s))
def slices_ContainsFunc_string__impl_IsPath_s1 {ρ : Type} (k : Bool → Option ρ) (a0 : (List ByteArray)) : Option ρ := (cond (G.slices_IndexFunc_string__impl_IsPath_s1 a0) (k (decide ((N.slices_IndexFunc_string__impl_IsPath_s1 a0) ≥ (0 : Int)))) none)
theorem slices_ContainsFunc_string__impl_IsPath_s1_ok {ρ : Type} (k : Bool → Option ρ) (a0 : (List ByteArray)) (l_a0 : lnL (fun _ => True) a0) (g : G.slices_ContainsFunc_string__impl_IsPath_s1 a0 = true) : slices_ContainsFunc_string__impl_IsPath_s1 k  a0 = k (N.slices_ContainsFunc_string__impl_IsPath_s1 a0) := by
  unfold G.slices_ContainsFunc_string__impl_IsPath_s1 at g
  show cond (decide (wP a0 ≤ 1048576)) _ none = _
  rw [g]
  show k (decide (idxFrom (fun s => !(isLabel s)) 0 a0 ≥ 0)) = _
  rw [idxFrom_any]
def OP_slices_ContainsFunc_string__impl_IsPath_s1 (f_slices_IndexFunc_string__impl_IsPath_s1 : (List ByteArray) → Int) (g_slices_IndexFunc_string__impl_IsPath_s1 : (List ByteArray) → Bool) : Orac := (orcX 150 [.val (.slice 9 .str), .clo 141 []] (fun d => g_slices_IndexFunc_string__impl_IsPath_s1 d.1) (fun d => [⟨(.int .i64), f_slices_IndexFunc_string__impl_IsPath_s1 d.1⟩]) nilO)
def O_slices_ContainsFunc_string__impl_IsPath_s1 : Orac := OP_slices_ContainsFunc_string__impl_IsPath_s1 N.slices_IndexFunc_string__impl_IsPath_s1 G.slices_IndexFunc_string__impl_IsPath_s1
def slices_ContainsFunc_string__impl_IsPath_s1_P {ρ : Type} (f_slices_IndexFunc_string__impl_IsPath_s1 : (List ByteArray) → Int) (g_slices_IndexFunc_string__impl_IsPath_s1 : (List ByteArray) → Bool) (k : Bool → Option ρ) (a0 : (List ByteArray)) : Option ρ := (cond (g_slices_IndexFunc_string__impl_IsPath_s1 a0) (k (decide ((f_slices_IndexFunc_string__impl_IsPath_s1 a0) ≥ (0 : Int)))) none)
theorem ok_slices_ContainsFunc_string__impl_IsPath_s1 : OracOk Try.prog sigs O_slices_ContainsFunc_string__impl_IsPath_s1 := (orcX_ok rfl rfl (fun d g => said_slices_IndexFunc_string__impl_IsPath_s1 d.1 g) nilO_ok)
def A_slices_ContainsFunc_string__impl_IsPath_s1 : Ann := fun b => ⟨[], []⟩
theorem aP_slices_ContainsFunc_string__impl_IsPath_s1 (f_slices_IndexFunc_string__impl_IsPath_s1 : (List ByteArray) → Int) (g_slices_IndexFunc_string__impl_IsPath_s1 : (List ByteArray) → Bool) (n : Nat) (a0 : (List ByteArray)) : absF tab sigs (OP_slices_ContainsFunc_string__impl_IsPath_s1 f_slices_IndexFunc_string__impl_IsPath_s1 g_slices_IndexFunc_string__impl_IsPath_s1) A_slices_ContainsFunc_string__impl_IsPath_s1 Try.f140 [(.bool, .no)] n [.val (.slice 9 .str) a0, .clo 141 []] = slices_ContainsFunc_string__impl_IsPath_s1_P f_slices_IndexFunc_string__impl_IsPath_s1 g_slices_IndexFunc_string__impl_IsPath_s1 (fun r0 => some [⟨.bool, r0⟩])  a0 := by kernel_rfl
theorem a_slices_ContainsFunc_string__impl_IsPath_s1 (n : Nat) (a0 : (List ByteArray)) : absF tab sigs O_slices_ContainsFunc_string__impl_IsPath_s1 A_slices_ContainsFunc_string__impl_IsPath_s1 Try.f140 [(.bool, .no)] n [.val (.slice 9 .str) a0, .clo 141 []] = slices_ContainsFunc_string__impl_IsPath_s1 (fun r0 => some [⟨.bool, r0⟩])  a0 := aP_slices_ContainsFunc_string__impl_IsPath_s1 N.slices_IndexFunc_string__impl_IsPath_s1 G.slices_IndexFunc_string__impl_IsPath_s1 n a0
theorem said_slices_ContainsFunc_string__impl_IsPath_s1 (a0 : (List ByteArray)) (g : G.slices_ContainsFunc_string__impl_IsPath_s1 a0 = true) : Said Try.prog sigs_140 140 [.val (.slice 9 .str) a0, .clo 141 []] [⟨.bool, N.slices_ContainsFunc_string__impl_IsPath_s1 a0⟩] := said_len (T := tab) (A := A_slices_ContainsFunc_string__impl_IsPath_s1) tabOk ok_slices_ContainsFunc_string__impl_IsPath_s1 tabOk.follows Try.func140 (by kernel_rfl) (by kernel_rfl) (fun hl => ⟨0, (a_slices_ContainsFunc_string__impl_IsPath_s1 0 a0).trans (slices_ContainsFunc_string__impl_IsPath_s1_ok (ρ := Ret) (fun r0 => some [⟨.bool, r0⟩]) a0 hl.1 g)⟩)
/-! impl.IsPath -/
abbrev G.impl_IsPath (p : List ByteArray) : Bool := decide (wP p ≤ 1048576)
abbrev N.impl_IsPath (p : List ByteArray) : Bool := isPath p
def impl_IsPath {ρ : Type} (k : Bool → Option ρ) (a0 : (List ByteArray)) : Option ρ := (cond (N.impl_InRange (List.length a0 : Int) (1 : Int) (4 : Int)) (cond (G.slices_ContainsFunc_string__impl_IsPath_s1 a0) (k (!(N.slices_ContainsFunc_string__impl_IsPath_s1 a0))) none) (k false))
theorem impl_IsPath_ok {ρ : Type} (k : Bool → Option ρ) (a0 : (List ByteArray)) (l_a0 : lnL (fun _ => True) a0) (g : G.impl_IsPath a0 = true) : impl_IsPath k  a0 = k (N.impl_IsPath a0) := by
  unfold G.impl_IsPath at g
  show cond (inR (a0.length : Int) 1 4) (cond (decide (wP a0 ≤ 1048576)) (k (!(a0.any (fun s => !(isLabel s))))) none) (k false) = k (inR (a0.length : Int) 1 4 && a0.all isLabel)
  rw [g, any_not]
  cases inR (a0.length : Int) 1 4 <;> rfl
def OP_impl_IsPath (f_impl_InRange : Int → Int → Int → Bool) (f_slices_ContainsFunc_string__impl_IsPath_s1 : (List ByteArray) → Bool) (g_slices_ContainsFunc_string__impl_IsPath_s1 : (List ByteArray) → Bool) : Orac := (orcX 140 [.val (.slice 9 .str), .clo 141 []] (fun d => g_slices_ContainsFunc_string__impl_IsPath_s1 d.1) (fun d => [⟨.bool, f_slices_ContainsFunc_string__impl_IsPath_s1 d.1⟩]) (orcX 86 [.val (.int .i64), .val (.int .i64), .val (.int .i64)] (fun d => true) (fun d => [⟨.bool, f_impl_InRange d.1 d.2.1 d.2.2.1⟩]) nilO))
def O_impl_IsPath : Orac := OP_impl_IsPath N.impl_InRange N.slices_ContainsFunc_string__impl_IsPath_s1 G.slices_ContainsFunc_string__impl_IsPath_s1
def impl_IsPath_P {ρ : Type} (f_impl_InRange : Int → Int → Int → Bool) (f_slices_ContainsFunc_string__impl_IsPath_s1 : (List ByteArray) → Bool) (g_slices_ContainsFunc_string__impl_IsPath_s1 : (List ByteArray) → Bool) (k : Bool → Option ρ) (a0 : (List ByteArray)) : Option ρ := (cond (f_impl_InRange (List.length a0 : Int) (1 : Int) (4 : Int)) (cond (g_slices_ContainsFunc_string__impl_IsPath_s1 a0) (k (!(f_slices_ContainsFunc_string__impl_IsPath_s1 a0))) none) (k false))
theorem ok_impl_IsPath : OracOk Try.prog sigs O_impl_IsPath := (orcX_ok rfl rfl (fun d g => said_slices_ContainsFunc_string__impl_IsPath_s1 d.1 g) (orcX_ok rfl rfl (fun d g => said_impl_InRange d.1 d.2.1 d.2.2.1) nilO_ok))
def A_impl_IsPath : Ann := fun b => ⟨[], []⟩
theorem aP_impl_IsPath (f_impl_InRange : Int → Int → Int → Bool) (f_slices_ContainsFunc_string__impl_IsPath_s1 : (List ByteArray) → Bool) (g_slices_ContainsFunc_string__impl_IsPath_s1 : (List ByteArray) → Bool) (n : Nat) (a0 : (List ByteArray)) : absF tab sigs (OP_impl_IsPath f_impl_InRange f_slices_ContainsFunc_string__impl_IsPath_s1 g_slices_ContainsFunc_string__impl_IsPath_s1) A_impl_IsPath Try.f130 [(.bool, .no)] n [.val (.slice 9 .str) a0] = impl_IsPath_P f_impl_InRange f_slices_ContainsFunc_string__impl_IsPath_s1 g_slices_ContainsFunc_string__impl_IsPath_s1 (fun r0 => some [⟨.bool, r0⟩])  a0 := by kernel_rfl
theorem a_impl_IsPath (n : Nat) (a0 : (List ByteArray)) : absF tab sigs O_impl_IsPath A_impl_IsPath Try.f130 [(.bool, .no)] n [.val (.slice 9 .str) a0] = impl_IsPath (fun r0 => some [⟨.bool, r0⟩])  a0 := aP_impl_IsPath N.impl_InRange N.slices_ContainsFunc_string__impl_IsPath_s1 G.slices_ContainsFunc_string__impl_IsPath_s1 n a0
theorem said_impl_IsPath (a0 : (List ByteArray)) (g : G.impl_IsPath a0 = true) : Said Try.prog sigs_130 130 [.val (.slice 9 .str) a0] [⟨.bool, N.impl_IsPath a0⟩] := said_len (T := tab) (A := A_impl_IsPath) tabOk ok_impl_IsPath tabOk.follows Try.func130 (by kernel_rfl) (by kernel_rfl) (fun hl => ⟨0, (a_impl_IsPath 0 a0).trans (impl_IsPath_ok (ρ := Ret) (fun r0 => some [⟨.bool, r0⟩]) a0 hl.1 g)⟩)
/-! impl.IsEntry -/
abbrev G.impl_IsEntry (e : TEntry) : Bool := decide (wE e ≤ 1048576)
abbrev N.impl_IsEntry (e : TEntry) : Bool := isEntry e
def impl_IsEntry {ρ : Type} (k : Bool → Option ρ) (a0 : TEntry) : Option ρ := (cond (G.impl_IsLabel a0.1) (cond (!(N.impl_IsLabel a0.1)) (k false) (cond (a0.2.1 == (1 : Int)) (cond (N.impl_InRange a0.2.2.1 (0 : Int) (999999 : Int)) (k ((List.length a0.2.2.2 : Int) == (0 : Int))) (k false)) (cond (a0.2.1 == (2 : Int)) (cond (N.impl_isDigest a0.2.2.1) (k ((List.length a0.2.2.2 : Int) == (0 : Int))) (k false)) (cond (a0.2.1 == (3 : Int)) (cond (N.impl_isDigest a0.2.2.1) (cond (G.impl_IsPath a0.2.2.2) (k (N.impl_IsPath a0.2.2.2)) none) (k false)) (k false))))) none)
theorem impl_IsEntry_ok {ρ : Type} (k : Bool → Option ρ) (a0 : TEntry) (l_a0 : (True ∧ (True ∧ (True ∧ lnL (fun _ => True) a0.2.2.2)))) (g : G.impl_IsEntry a0 = true) : impl_IsEntry k  a0 = k (N.impl_IsEntry a0) := by
  unfold G.impl_IsEntry at g
  have hw : wE a0 ≤ 1048576 := of_decide_eq_true g
  have g1 : decide (a0.1.size ≤ 1048576) = true := by unfold wE at hw; simp; omega
  have g2 : decide (wP a0.2.2.2 ≤ 1048576) = true := by unfold wE at hw; simp; omega
  simp only [impl_IsEntry, G.impl_IsLabel, N.impl_IsLabel, G.impl_IsPath, N.impl_IsPath, N.impl_InRange, N.impl_isDigest, g1, g2, cond_true, isEntry]
  by_cases h1 : a0.2.1 = 1
  · have e1 : (a0.2.1 == 1) = true := by simp [h1]
    have e2 : (a0.2.1 == 2) = false := by simp [h1]
    have e3 : (a0.2.1 == 3) = false := by simp [h1]
    simp only [e1, e2, e3]
    cases isLabel a0.1 <;> cases inR a0.2.2.1 0 999999 <;> simp
  by_cases h2 : a0.2.1 = 2
  · have e1 : (a0.2.1 == 1) = false := by simp [h2]
    have e2 : (a0.2.1 == 2) = true := by simp [h2]
    have e3 : (a0.2.1 == 3) = false := by simp [h2]
    simp only [e1, e2, e3]
    cases isLabel a0.1 <;> cases isDigest a0.2.2.1 <;> simp
  have e1 : (a0.2.1 == 1) = false := by simp [h1]
  have e2 : (a0.2.1 == 2) = false := by simp [h2]
  simp only [e1, e2]
  cases a0.2.1 == 3 <;> cases isLabel a0.1 <;> cases isDigest a0.2.2.1 <;> simp
def OP_impl_IsEntry (f_impl_IsLabel : ByteArray → Bool) (g_impl_IsLabel : ByteArray → Bool) (f_impl_InRange : Int → Int → Int → Bool) (f_impl_isDigest : Int → Bool) (f_impl_IsPath : (List ByteArray) → Bool) (g_impl_IsPath : (List ByteArray) → Bool) : Orac := (orcX 130 [.val (.slice 9 .str)] (fun d => g_impl_IsPath d.1) (fun d => [⟨.bool, f_impl_IsPath d.1⟩]) (orcX 85 [.val (.int .i64)] (fun d => true) (fun d => [⟨.bool, f_impl_isDigest d.1⟩]) (orcX 86 [.val (.int .i64), .val (.int .i64), .val (.int .i64)] (fun d => true) (fun d => [⟨.bool, f_impl_InRange d.1 d.2.1 d.2.2.1⟩]) (orcX 129 [.val .str] (fun d => g_impl_IsLabel d.1) (fun d => [⟨.bool, f_impl_IsLabel d.1⟩]) nilO))))
def O_impl_IsEntry : Orac := OP_impl_IsEntry N.impl_IsLabel G.impl_IsLabel N.impl_InRange N.impl_isDigest N.impl_IsPath G.impl_IsPath
def impl_IsEntry_P {ρ : Type} (f_impl_IsLabel : ByteArray → Bool) (g_impl_IsLabel : ByteArray → Bool) (f_impl_InRange : Int → Int → Int → Bool) (f_impl_isDigest : Int → Bool) (f_impl_IsPath : (List ByteArray) → Bool) (g_impl_IsPath : (List ByteArray) → Bool) (k : Bool → Option ρ) (a0 : TEntry) : Option ρ := (cond (g_impl_IsLabel a0.1) (cond (!(f_impl_IsLabel a0.1)) (k false) (cond (a0.2.1 == (1 : Int)) (cond (f_impl_InRange a0.2.2.1 (0 : Int) (999999 : Int)) (k ((List.length a0.2.2.2 : Int) == (0 : Int))) (k false)) (cond (a0.2.1 == (2 : Int)) (cond (f_impl_isDigest a0.2.2.1) (k ((List.length a0.2.2.2 : Int) == (0 : Int))) (k false)) (cond (a0.2.1 == (3 : Int)) (cond (f_impl_isDigest a0.2.2.1) (cond (g_impl_IsPath a0.2.2.2) (k (f_impl_IsPath a0.2.2.2)) none) (k false)) (k false))))) none)
theorem ok_impl_IsEntry : OracOk Try.prog sigs O_impl_IsEntry := (orcX_ok rfl rfl (fun d g => said_impl_IsPath d.1 g) (orcX_ok rfl rfl (fun d g => said_impl_isDigest d.1) (orcX_ok rfl rfl (fun d g => said_impl_InRange d.1 d.2.1 d.2.2.1) (orcX_ok rfl rfl (fun d g => said_impl_IsLabel d.1 g) nilO_ok))))
def A_impl_IsEntry : Ann := fun b => ⟨[], []⟩
theorem aP_impl_IsEntry (f_impl_IsLabel : ByteArray → Bool) (g_impl_IsLabel : ByteArray → Bool) (f_impl_InRange : Int → Int → Int → Bool) (f_impl_isDigest : Int → Bool) (f_impl_IsPath : (List ByteArray) → Bool) (g_impl_IsPath : (List ByteArray) → Bool) (n : Nat) (a0 : TEntry) : absF tab sigs (OP_impl_IsEntry f_impl_IsLabel g_impl_IsLabel f_impl_InRange f_impl_isDigest f_impl_IsPath g_impl_IsPath) A_impl_IsEntry Try.f110 [(.bool, .no)] n [.val TyEntry a0] = impl_IsEntry_P f_impl_IsLabel g_impl_IsLabel f_impl_InRange f_impl_isDigest f_impl_IsPath g_impl_IsPath (fun r0 => some [⟨.bool, r0⟩])  a0 := by kernel_rfl
theorem a_impl_IsEntry (n : Nat) (a0 : TEntry) : absF tab sigs O_impl_IsEntry A_impl_IsEntry Try.f110 [(.bool, .no)] n [.val TyEntry a0] = impl_IsEntry (fun r0 => some [⟨.bool, r0⟩])  a0 := aP_impl_IsEntry N.impl_IsLabel G.impl_IsLabel N.impl_InRange N.impl_isDigest N.impl_IsPath G.impl_IsPath n a0
theorem said_impl_IsEntry (a0 : TEntry) (g : G.impl_IsEntry a0 = true) : Said Try.prog sigs_110 110 [.val TyEntry a0] [⟨.bool, N.impl_IsEntry a0⟩] := said_len (T := tab) (A := A_impl_IsEntry) tabOk ok_impl_IsEntry tabOk.follows Try.func110 (by kernel_rfl) (by kernel_rfl) (fun hl => ⟨0, (a_impl_IsEntry 0 a0).trans (impl_IsEntry_ok (ρ := Ret) (fun r0 => some [⟨.bool, r0⟩]) a0 hl.1 g)⟩)
/-! internal.bytealg.CompareString -/
abbrev N.internal_bytealg_CompareString (a b : ByteArray) : Int := cmpStr a b
-- HAND
open Go.Proofs.Ythcenfbfgjcikaa in
theorem calls_cmp (a b : ByteArray) (w : World) : Calls Try.prog 142 #[.string a, .string b] w fun e w' => e = .returned (.int .i64 (Lib.compareBytes a.data.toList b.data.toList)) ∧ w' = w := by
  go_enter Try.func142, Try.ntmps142
  go_wp2
  rw [run_callFunc_extern Try.func151 (by kernel_rfl) (by kernel_rfl) (by kernel_rfl) (e := Extern.BytealgCompare.compare) (by kernel_rfl), Lib.run_compareString]
  simp only [Result.andThen]
  rw [Oper.upon_value]
  go_wp2
  go_ret
  exact ⟨rfl, rfl⟩
theorem said_internal_bytealg_CompareString (a0 a1 : ByteArray) : Said Try.prog sigs_142 142 [.val .str a0, .val .str a1] [⟨.int .i64, N.internal_bytealg_CompareString a0 a1⟩] :=
  said_int Try.func142 (by kernel_rfl) (by kernel_rfl) (fun w ok vs h => by
    obtain ⟨v0, vs0, rfl, h0, v1, vs1, rfl, h1, rfl⟩ := h
    rw [avr_str h0, avr_str h1, show N.internal_bytealg_CompareString a0 a1 = _ from (cmp_data a0 a1).symm]
    exact calls_cmp a0 a1 w)

/-! strings.Compare -/
abbrev N.strings_Compare (a b : ByteArray) : Int := cmpStr a b
def strings_Compare {ρ : Type} (k : Int → Option ρ) (a0 : ByteArray) (a1 : ByteArray) : Option ρ := (k (N.internal_bytealg_CompareString a0 a1))
theorem strings_Compare_ok {ρ : Type} (k : Int → Option ρ) (a0 : ByteArray) (a1 : ByteArray) : strings_Compare k  a0 a1 = k (N.strings_Compare a0 a1) := by
  rfl
def OP_strings_Compare (f_internal_bytealg_CompareString : ByteArray → ByteArray → Int) : Orac := (orcX 142 [.val .str, .val .str] (fun d => true) (fun d => [⟨(.int .i64), f_internal_bytealg_CompareString d.1 d.2.1⟩]) nilO)
def O_strings_Compare : Orac := OP_strings_Compare N.internal_bytealg_CompareString
def strings_Compare_P {ρ : Type} (f_internal_bytealg_CompareString : ByteArray → ByteArray → Int) (k : Int → Option ρ) (a0 : ByteArray) (a1 : ByteArray) : Option ρ := (k (f_internal_bytealg_CompareString a0 a1))
theorem ok_strings_Compare : OracOk Try.prog sigs O_strings_Compare := (orcX_ok rfl rfl (fun d g => said_internal_bytealg_CompareString d.1 d.2.1) nilO_ok)
def A_strings_Compare : Ann := fun b => ⟨[], []⟩
theorem aP_strings_Compare (f_internal_bytealg_CompareString : ByteArray → ByteArray → Int) (n : Nat) (a0 : ByteArray) (a1 : ByteArray) : absF tab sigs (OP_strings_Compare f_internal_bytealg_CompareString) A_strings_Compare Try.f131 [((.int .i64), .no)] n [.val .str a0, .val .str a1] = strings_Compare_P f_internal_bytealg_CompareString (fun r0 => some [⟨(.int .i64), r0⟩])  a0 a1 := by kernel_rfl
theorem a_strings_Compare (n : Nat) (a0 : ByteArray) (a1 : ByteArray) : absF tab sigs O_strings_Compare A_strings_Compare Try.f131 [((.int .i64), .no)] n [.val .str a0, .val .str a1] = strings_Compare (fun r0 => some [⟨(.int .i64), r0⟩])  a0 a1 := aP_strings_Compare N.internal_bytealg_CompareString n a0 a1
theorem said_strings_Compare (a0 : ByteArray) (a1 : ByteArray) : Said Try.prog sigs_131 131 [.val .str a0, .val .str a1] [⟨(.int .i64), N.strings_Compare a0 a1⟩] := said_len (T := tab) (A := A_strings_Compare) tabOk ok_strings_Compare tabOk.follows Try.func131 (by kernel_rfl) (by kernel_rfl) (fun hl => ⟨0, (a_strings_Compare 0 a0 a1).trans (strings_Compare_ok (ρ := Ret) (fun r0 => some [⟨(.int .i64), r0⟩]) a0 a1)⟩)
/-! impl.CompareLabels -/
abbrev N.impl_CompareLabels (a b : ByteArray) : Int := cmpStr a b
def impl_CompareLabels {ρ : Type} (k : Int → Option ρ) (a0 : ByteArray) (a1 : ByteArray) : Option ρ := (k (N.strings_Compare a0 a1))
theorem impl_CompareLabels_ok {ρ : Type} (k : Int → Option ρ) (a0 : ByteArray) (a1 : ByteArray) : impl_CompareLabels k  a0 a1 = k (N.impl_CompareLabels a0 a1) := by
  rfl
def OP_impl_CompareLabels (f_strings_Compare : ByteArray → ByteArray → Int) : Orac := (orcX 131 [.val .str, .val .str] (fun d => true) (fun d => [⟨(.int .i64), f_strings_Compare d.1 d.2.1⟩]) nilO)
def O_impl_CompareLabels : Orac := OP_impl_CompareLabels N.strings_Compare
def impl_CompareLabels_P {ρ : Type} (f_strings_Compare : ByteArray → ByteArray → Int) (k : Int → Option ρ) (a0 : ByteArray) (a1 : ByteArray) : Option ρ := (k (f_strings_Compare a0 a1))
theorem ok_impl_CompareLabels : OracOk Try.prog sigs O_impl_CompareLabels := (orcX_ok rfl rfl (fun d g => said_strings_Compare d.1 d.2.1) nilO_ok)
def A_impl_CompareLabels : Ann := fun b => ⟨[], []⟩
theorem aP_impl_CompareLabels (f_strings_Compare : ByteArray → ByteArray → Int) (n : Nat) (a0 : ByteArray) (a1 : ByteArray) : absF tab sigs (OP_impl_CompareLabels f_strings_Compare) A_impl_CompareLabels Try.f111 [((.int .i64), .no)] n [.val .str a0, .val .str a1] = impl_CompareLabels_P f_strings_Compare (fun r0 => some [⟨(.int .i64), r0⟩])  a0 a1 := by kernel_rfl
theorem a_impl_CompareLabels (n : Nat) (a0 : ByteArray) (a1 : ByteArray) : absF tab sigs O_impl_CompareLabels A_impl_CompareLabels Try.f111 [((.int .i64), .no)] n [.val .str a0, .val .str a1] = impl_CompareLabels (fun r0 => some [⟨(.int .i64), r0⟩])  a0 a1 := aP_impl_CompareLabels N.strings_Compare n a0 a1
theorem said_impl_CompareLabels (a0 : ByteArray) (a1 : ByteArray) : Said Try.prog sigs_111 111 [.val .str a0, .val .str a1] [⟨(.int .i64), N.impl_CompareLabels a0 a1⟩] := said_len (T := tab) (A := A_impl_CompareLabels) tabOk ok_impl_CompareLabels tabOk.follows Try.func111 (by kernel_rfl) (by kernel_rfl) (fun hl => ⟨0, (a_impl_CompareLabels 0 a0 a1).trans (impl_CompareLabels_ok (ρ := Ret) (fun r0 => some [⟨(.int .i64), r0⟩]) a0 a1)⟩)
/-! impl.AreEntries -/
abbrev G.impl_AreEntries (l : List TEntry) : Bool := decide (wEs l ≤ 1048576)
abbrev N.impl_AreEntries (l : List TEntry) : Bool := areEntries l
def impl_AreEntries_L0 {ρ : Type} (k : Bool → Option ρ) (L0 : (List TEntry) → (List TEntry) → Int → Int → Option ρ) (v0_0 : (List TEntry)) (v0_1 : (List TEntry)) (v0_2 : Int) (v0_3 : Int) : Option ρ := (cond (decide (v0_3 < v0_2)) (cond (inRange v0_3 (List.length v0_1)) (cond (G.impl_IsEntry (List.getD v0_1 (Int.toNat v0_3) (ByteArray.empty, ((0 : Int), ((0 : Int), []))))) (cond (!(N.impl_IsEntry (List.getD v0_1 (Int.toNat v0_3) (ByteArray.empty, ((0 : Int), ((0 : Int), [])))))) (k false) (cond (decide (v0_3 > (0 : Int))) (cond (inRange (IntKind.wrap .i64 (v0_3 - (1 : Int))) (List.length v0_0)) (cond (decide ((N.impl_CompareLabels (List.getD v0_1 (Int.toNat v0_3) (ByteArray.empty, ((0 : Int), ((0 : Int), [])))).1 (List.getD v0_0 (Int.toNat (IntKind.wrap .i64 (v0_3 - (1 : Int)))) (ByteArray.empty, ((0 : Int), ((0 : Int), [])))).1) ≤ (0 : Int))) (k false) (L0 v0_0 v0_1 v0_2 (IntKind.wrap .i64 (v0_3 + (1 : Int))))) none) (L0 v0_0 v0_1 v0_2 (IntKind.wrap .i64 (v0_3 + (1 : Int)))))) none) none) (k (decide ((List.length v0_0 : Int) ≤ (12 : Int)))))
def impl_AreEntries {ρ : Type} (k : Bool → Option ρ) (L0 : (List TEntry) → (List TEntry) → Int → Int → Option ρ) (a0 : (List TEntry)) : Option ρ := (L0 a0 a0 (List.length a0 : Int) (0 : Int))
theorem impl_AreEntries_ok {ρ : Type} (k : Bool → Option ρ) (a0 : (List TEntry)) (l_a0 : lnL (fun y => (True ∧ (True ∧ (True ∧ lnL (fun _ => True) y.2.2.2)))) a0) (g : G.impl_AreEntries a0 = true) : ∃ n0, ∀ n, n0 ≤ n → ∀ (L0 : Nat → (List TEntry) → (List TEntry) → Int → Int → Option ρ) (h0 : ∀ ( m : Nat) (v0_0 : (List TEntry)) (v0_1 : (List TEntry)) (v0_2 : Int) (v0_3 : Int), L0 (m + 1) v0_0 v0_1 v0_2 v0_3 = impl_AreEntries_L0 k (L0 m) v0_0 v0_1 v0_2 v0_3), impl_AreEntries k (L0 n) a0 = k (N.impl_AreEntries a0) := by
  unfold G.impl_AreEntries at g
  have hw : wEs a0 ≤ 1048576 := of_decide_eq_true g
  have hl : a0.length ≤ 1048576 := by unfold wEs at hw; omega
  refine ⟨a0.length + 1, fun n hn L0 h0 => ?_⟩
  have hrun := raw_run0 (σ := Unit) (s := ()) (L := fun m i _ => L0 m a0 a0 (a0.length : Int) i) (R := fun i _ c => impl_AreEntries_L0 k (fun _ _ _ i => c i ()) a0 a0 (a0.length : Int) i) (fun m i s => h0 m a0 a0 (a0.length : Int) i) a0.length (fun _ _ => True) (fun j _ => cond (areFrom a0 (a0.length - j) j) (k (decide (a0.length ≤ 12))) (k false)) (fun j s c hj _ hc => ?_) (fun s c _ => ?_) hn trivial
  · refine hrun.trans ?_
    show _ = k (areFrom a0 a0.length 0 && decide (a0.length ≤ 12))
    rw [Nat.sub_zero]
    cases areFrom a0 a0.length 0 <;> rfl
  · obtain ⟨m, hm⟩ : ∃ m, a0.length - j = m + 1 := ⟨a0.length - j - 1, by omega⟩
    have hm2 : a0.length - (j + 1) = m := by omega
    have hc' := hc () trivial
    rw [hm2] at hc'
    have hmem := wEs_mem (getD_mem (d := (ByteArray.empty, (0, (0, [])))) hj)
    have g2 : decide (wE (a0.getD j (ByteArray.empty, (0, (0, [])))) ≤ 1048576) = true := by simp only [decide_eq_true_eq]; omega
    rw [hm]
    unfold areFrom
    by_cases h0j : j = 0
    · subst h0j
      simp only [impl_AreEntries_L0, lt_nat, inRange_nat, decide_eq_true hj, cond_true, Int.toNat_natCast, G.impl_IsEntry, N.impl_IsEntry, g2, wrap_succ (j := 0) (by unfold big; omega), hc']
      cases isEntry (a0.getD 0 (ByteArray.empty, (0, (0, [])))) <;> simp
    · have e1 : decide ((j : Int) > 0) = true := by simp; omega
      have e2 : IntKind.wrap .i64 ((j : Int) - 1) = ((j - 1 : Nat) : Int) := by rw [wrap_id (by omega) (by omega)]; omega
      have e3 : j - 1 < a0.length := by omega
      simp only [impl_AreEntries_L0, lt_nat, inRange_nat, decide_eq_true hj, cond_true, Int.toNat_natCast, G.impl_IsEntry, N.impl_IsEntry, N.impl_CompareLabels, g2, e1, e2, decide_eq_true e3, wrap_succ (j := j) (by unfold big; omega), hc', decide_eq_false h0j, cmpStr_swap]
      cases isEntry (a0.getD j (ByteArray.empty, (0, (0, [])))) <;> cases cmpStr (a0.getD (j - 1) (ByteArray.empty, (0, (0, [])))).1 (a0.getD j (ByteArray.empty, (0, (0, [])))).1 == -1 <;> simp
  · have e1 : decide ((a0.length : Int) ≤ 12) = decide (a0.length ≤ 12) := by simp only [decide_eq_decide]; omega
    rw [Nat.sub_self]
    simp [impl_AreEntries_L0, areFrom, e1]
def OP_impl_AreEntries (f_impl_IsEntry : TEntry → Bool) (g_impl_IsEntry : TEntry → Bool) (f_impl_CompareLabels : ByteArray → ByteArray → Int) : Orac := (orcX 111 [.val .str, .val .str] (fun d => true) (fun d => [⟨(.int .i64), f_impl_CompareLabels d.1 d.2.1⟩]) (orcX 110 [.val TyEntry] (fun d => g_impl_IsEntry d.1) (fun d => [⟨.bool, f_impl_IsEntry d.1⟩]) nilO))
def O_impl_AreEntries : Orac := OP_impl_AreEntries N.impl_IsEntry G.impl_IsEntry N.impl_CompareLabels
def impl_AreEntries_P_L0 {ρ : Type} (f_impl_IsEntry : TEntry → Bool) (g_impl_IsEntry : TEntry → Bool) (f_impl_CompareLabels : ByteArray → ByteArray → Int) (k : Bool → Option ρ) (L0 : (List TEntry) → (List TEntry) → Int → Int → Option ρ) (v0_0 : (List TEntry)) (v0_1 : (List TEntry)) (v0_2 : Int) (v0_3 : Int) : Option ρ := (cond (decide (v0_3 < v0_2)) (cond (inRange v0_3 (List.length v0_1)) (cond (g_impl_IsEntry (List.getD v0_1 (Int.toNat v0_3) (ByteArray.empty, ((0 : Int), ((0 : Int), []))))) (cond (!(f_impl_IsEntry (List.getD v0_1 (Int.toNat v0_3) (ByteArray.empty, ((0 : Int), ((0 : Int), [])))))) (k false) (cond (decide (v0_3 > (0 : Int))) (cond (inRange (IntKind.wrap .i64 (v0_3 - (1 : Int))) (List.length v0_0)) (cond (decide ((f_impl_CompareLabels (List.getD v0_1 (Int.toNat v0_3) (ByteArray.empty, ((0 : Int), ((0 : Int), [])))).1 (List.getD v0_0 (Int.toNat (IntKind.wrap .i64 (v0_3 - (1 : Int)))) (ByteArray.empty, ((0 : Int), ((0 : Int), [])))).1) ≤ (0 : Int))) (k false) (L0 v0_0 v0_1 v0_2 (IntKind.wrap .i64 (v0_3 + (1 : Int))))) none) (L0 v0_0 v0_1 v0_2 (IntKind.wrap .i64 (v0_3 + (1 : Int)))))) none) none) (k (decide ((List.length v0_0 : Int) ≤ (12 : Int)))))
def impl_AreEntries_P {ρ : Type} (f_impl_IsEntry : TEntry → Bool) (g_impl_IsEntry : TEntry → Bool) (f_impl_CompareLabels : ByteArray → ByteArray → Int) (k : Bool → Option ρ) (L0 : (List TEntry) → (List TEntry) → Int → Int → Option ρ) (a0 : (List TEntry)) : Option ρ := (L0 a0 a0 (List.length a0 : Int) (0 : Int))
theorem ok_impl_AreEntries : OracOk Try.prog sigs O_impl_AreEntries := (orcX_ok rfl rfl (fun d g => said_impl_CompareLabels d.1 d.2.1) (orcX_ok rfl rfl (fun d g => said_impl_IsEntry d.1 g) nilO_ok))
def A_impl_AreEntries : Ann := fun b => cond (Nat.beq b 0) ⟨[(0, false), (5, false), (6, false), (7, false)], []⟩ (⟨[], []⟩)
def S_impl_AreEntries_0 (v0_0 : (List TEntry)) (v0_1 : (List TEntry)) (v0_2 : Int) (v0_3 : Int) : St := [(kT 0, some (.tv (.v (.slice 89 TyEntry) v0_0 .no))), (kT 5, some (.tv (.v (.slice 89 TyEntry) v0_1 .no))), (kT 6, some (.tv (.v (.int .i64) v0_2 .no))), (kT 7, some (.tv (.v (.int .i64) v0_3 .no)))]
noncomputable def L_P_impl_AreEntries_0 (f_impl_IsEntry : TEntry → Bool) (g_impl_IsEntry : TEntry → Bool) (f_impl_CompareLabels : ByteArray → ByteArray → Int) (n m : Nat) : St → Option Ret := loopOf tab sigs (OP_impl_AreEntries f_impl_IsEntry g_impl_IsEntry f_impl_CompareLabels) A_impl_AreEntries Try.f73 [(.bool, .no)] n (fun _ => 0) 0 m
noncomputable def L_impl_AreEntries_0 (n m : Nat) : St → Option Ret := L_P_impl_AreEntries_0 N.impl_IsEntry G.impl_IsEntry N.impl_CompareLabels n m
theorem bP_impl_AreEntries_0 (f_impl_IsEntry : TEntry → Bool) (g_impl_IsEntry : TEntry → Bool) (f_impl_CompareLabels : ByteArray → ByteArray → Int) (n m : Nat) (v0_0 : (List TEntry)) (v0_1 : (List TEntry)) (v0_2 : Int) (v0_3 : Int) : L_P_impl_AreEntries_0 f_impl_IsEntry g_impl_IsEntry f_impl_CompareLabels n (m + 1) (S_impl_AreEntries_0 v0_0 v0_1 v0_2 v0_3) = impl_AreEntries_P_L0 f_impl_IsEntry g_impl_IsEntry f_impl_CompareLabels (fun r0 => some [⟨.bool, r0⟩]) (fun v0_0 v0_1 v0_2 v0_3 => L_P_impl_AreEntries_0 f_impl_IsEntry g_impl_IsEntry f_impl_CompareLabels n m (S_impl_AreEntries_0 v0_0 v0_1 v0_2 v0_3)) v0_0 v0_1 v0_2 v0_3 := by kernel_rfl
theorem b_impl_AreEntries_0 (n m : Nat) (v0_0 : (List TEntry)) (v0_1 : (List TEntry)) (v0_2 : Int) (v0_3 : Int) : L_impl_AreEntries_0 n (m + 1) (S_impl_AreEntries_0 v0_0 v0_1 v0_2 v0_3) = impl_AreEntries_L0 (fun r0 => some [⟨.bool, r0⟩]) (fun v0_0 v0_1 v0_2 v0_3 => L_impl_AreEntries_0 n m (S_impl_AreEntries_0 v0_0 v0_1 v0_2 v0_3)) v0_0 v0_1 v0_2 v0_3 := bP_impl_AreEntries_0 N.impl_IsEntry G.impl_IsEntry N.impl_CompareLabels n m v0_0 v0_1 v0_2 v0_3
theorem aP_impl_AreEntries (f_impl_IsEntry : TEntry → Bool) (g_impl_IsEntry : TEntry → Bool) (f_impl_CompareLabels : ByteArray → ByteArray → Int) (n : Nat) (a0 : (List TEntry)) : absF tab sigs (OP_impl_AreEntries f_impl_IsEntry g_impl_IsEntry f_impl_CompareLabels) A_impl_AreEntries Try.f73 [(.bool, .no)] n [.val (.slice 89 TyEntry) a0] = impl_AreEntries_P f_impl_IsEntry g_impl_IsEntry f_impl_CompareLabels (fun r0 => some [⟨.bool, r0⟩]) (fun v0_0 v0_1 v0_2 v0_3 => L_P_impl_AreEntries_0 f_impl_IsEntry g_impl_IsEntry f_impl_CompareLabels n n (S_impl_AreEntries_0 v0_0 v0_1 v0_2 v0_3)) a0 := by kernel_rfl
theorem a_impl_AreEntries (n : Nat) (a0 : (List TEntry)) : absF tab sigs O_impl_AreEntries A_impl_AreEntries Try.f73 [(.bool, .no)] n [.val (.slice 89 TyEntry) a0] = impl_AreEntries (fun r0 => some [⟨.bool, r0⟩]) (fun v0_0 v0_1 v0_2 v0_3 => L_impl_AreEntries_0 n n (S_impl_AreEntries_0 v0_0 v0_1 v0_2 v0_3)) a0 := aP_impl_AreEntries N.impl_IsEntry G.impl_IsEntry N.impl_CompareLabels n a0
theorem said_impl_AreEntries (a0 : (List TEntry)) (g : G.impl_AreEntries a0 = true) : Said Try.prog sigs_73 73 [.val (.slice 89 TyEntry) a0] [⟨.bool, N.impl_AreEntries a0⟩] := said_len (T := tab) (A := A_impl_AreEntries) tabOk ok_impl_AreEntries tabOk.follows Try.func73 (by kernel_rfl) (by kernel_rfl) (fun hl => let ⟨n, hn⟩ := impl_AreEntries_ok (ρ := Ret) (fun r0 => some [⟨.bool, r0⟩]) a0 hl.1 g; ⟨n, (a_impl_AreEntries n a0).trans (hn n (Nat.le_refl n) (fun  m v0_0 v0_1 v0_2 v0_3 => L_impl_AreEntries_0 n  m (S_impl_AreEntries_0 v0_0 v0_1 v0_2 v0_3)) (fun  m v0_0 v0_1 v0_2 v0_3 => b_impl_AreEntries_0 n  m v0_0 v0_1 v0_2 v0_3))⟩)
end Go.Proofs.Ythcenfbfgjcikaa.Ref
