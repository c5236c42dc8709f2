/- Functions of the program: what each computes, and that it does so.
   Conditions: as each theorem states. -/
import Derived.Test.YthcenfbfgjcikaaSB0
set_option linter.unusedVariables false
set_option linter.unusedSimpArgs false
set_option maxRecDepth 100000
namespace Go.Proofs.Ythcenfbfgjcikaa.Ref
open Go.RowKit Go.Proofs.YthcenfbfgjcikaaW.PrintWords Go.Proofs.YthcenfbfgjcikaaW.PrintLast
/-! spec.LabelInts -/
abbrev G.spec_LabelInts (s : ByteArray) : Bool := decide (s.size ≤ 1048576)
abbrev N.spec_LabelInts (s : ByteArray) : List Int := labelInts s
def spec_LabelInts {ρ : Type} (k : (List Int) → Option ρ) (a0 : ByteArray) : Option ρ := (cond (decide ((ByteArray.size a0 : Int) ≤ 549755813888)) (cond (G.spec_BytesToInts (bytesOf a0)) (k (N.spec_BytesToInts (bytesOf a0))) none) none)
theorem spec_LabelInts_ok {ρ : Type} (k : (List Int) → Option ρ) (a0 : ByteArray) (g : G.spec_LabelInts a0 = true) : spec_LabelInts k  a0 = k (N.spec_LabelInts a0) := by
  unfold G.spec_LabelInts at g
  have h : a0.size ≤ 1048576 := of_decide_eq_true g
  have h1 : decide ((a0.size : Int) ≤ 549755813888) = true := by simp; omega
  have h2 : G.spec_BytesToInts (bytesOf a0) = true := decide_eq_true (by rw [bytesOf_length]; omega)
  show cond _ (cond _ _ none) none = _
  rw [h1, h2]
  rfl
def OP_spec_LabelInts (f_spec_BytesToInts : (List Int) → (List Int)) (g_spec_BytesToInts : (List Int) → Bool) : Orac := (orcX 154 [.val (.slice 5 (.int .u8))] (fun d => g_spec_BytesToInts d.1) (fun d => [⟨(.slice 3 (.int .i64)), f_spec_BytesToInts d.1⟩]) nilO)
def O_spec_LabelInts : Orac := OP_spec_LabelInts N.spec_BytesToInts G.spec_BytesToInts
def spec_LabelInts_P {ρ : Type} (f_spec_BytesToInts : (List Int) → (List Int)) (g_spec_BytesToInts : (List Int) → Bool) (k : (List Int) → Option ρ) (a0 : ByteArray) : Option ρ := (cond (decide ((ByteArray.size a0 : Int) ≤ 549755813888)) (cond (g_spec_BytesToInts (bytesOf a0)) (k (f_spec_BytesToInts (bytesOf a0))) none) none)
theorem ok_spec_LabelInts : OracOk Try.prog sigs O_spec_LabelInts := (orcX_ok rfl rfl (fun d g => said_spec_BytesToInts d.1 g) nilO_ok)
def A_spec_LabelInts : Ann := fun b => ⟨[], []⟩
theorem aP_spec_LabelInts (f_spec_BytesToInts : (List Int) → (List Int)) (g_spec_BytesToInts : (List Int) → Bool) (n : Nat) (a0 : ByteArray) : absF tab sigs (OP_spec_LabelInts f_spec_BytesToInts g_spec_BytesToInts) A_spec_LabelInts Try.f148 [((.slice 3 (.int .i64)), (.own 0))] n [.val .str a0] = spec_LabelInts_P f_spec_BytesToInts g_spec_BytesToInts (fun r0 => some [⟨(.slice 3 (.int .i64)), r0⟩])  a0 := by kernel_rfl
theorem a_spec_LabelInts (n : Nat) (a0 : ByteArray) : absF tab sigs O_spec_LabelInts A_spec_LabelInts Try.f148 [((.slice 3 (.int .i64)), (.own 0))] n [.val .str a0] = spec_LabelInts (fun r0 => some [⟨(.slice 3 (.int .i64)), r0⟩])  a0 := aP_spec_LabelInts N.spec_BytesToInts G.spec_BytesToInts n a0
theorem said_spec_LabelInts (a0 : ByteArray) (g : G.spec_LabelInts a0 = true) : Said Try.prog sigs_148 148 [.val .str a0] [⟨(.slice 3 (.int .i64)), N.spec_LabelInts a0⟩] := said_len (T := tab) (A := A_spec_LabelInts) tabOk ok_spec_LabelInts tabOk.follows Try.func148 (by kernel_rfl) (by kernel_rfl) (fun hl => ⟨0, (a_spec_LabelInts 0 a0).trans (spec_LabelInts_ok (ρ := Ret) (fun r0 => some [⟨(.slice 3 (.int .i64)), r0⟩]) a0 g)⟩)
/-! spec.EntryInts -/
abbrev G.spec_EntryInts (e : TEntry) : Bool := decide (wE e ≤ 1048576)
abbrev N.spec_EntryInts (e : TEntry) : List Int := entryInts e
def spec_EntryInts_L0 {ρ : Type} (k : (List Int) → Option ρ) (L0 : Int → TEntry → (List Int) → Option ρ) (v0_0 : Int) (v0_1 : TEntry) (v0_2 : (List Int)) : Option ρ := (cond (decide (v0_0 < (List.length v0_1.2.2.2 : Int))) (cond (inRange v0_0 (List.length v0_1.2.2.2)) (cond (G.spec_LabelInts (List.getD v0_1.2.2.2 (Int.toNat v0_0) ByteArray.empty)) (cond (fit (List.length v0_2) (List.length (N.spec_LabelInts (List.getD v0_1.2.2.2 (Int.toNat v0_0) ByteArray.empty)))) (L0 (IntKind.wrap .i64 (v0_0 + (1 : Int))) v0_1 (List.append v0_2 (N.spec_LabelInts (List.getD v0_1.2.2.2 (Int.toNat v0_0) ByteArray.empty)))) none) none) none) (k v0_2))
def spec_EntryInts {ρ : Type} (k : (List Int) → Option ρ) (L0 : Int → TEntry → (List Int) → Option ρ) (a0 : TEntry) : Option ρ := (cond (G.spec_LabelInts a0.1) (cond (fit (List.length (N.spec_LabelInts a0.1)) (List.length [a0.2.1, a0.2.2.1, (List.length a0.2.2.2 : Int)])) (L0 (0 : Int) a0 (List.append (N.spec_LabelInts a0.1) [a0.2.1, a0.2.2.1, (List.length a0.2.2.2 : Int)])) none) none)
theorem spec_EntryInts_ok {ρ : Type} (k : (List Int) → Option ρ) (a0 : TEntry) (l_a0 : (True ∧ (True ∧ (True ∧ lnL (fun _ => True) a0.2.2.2)))) (g : G.spec_EntryInts a0 = true) : ∃ n0, ∀ n, n0 ≤ n → ∀ (L0 : Nat → Int → TEntry → (List Int) → Option ρ) (h0 : ∀ ( m : Nat) (v0_0 : Int) (v0_1 : TEntry) (v0_2 : (List Int)), L0 (m + 1) v0_0 v0_1 v0_2 = spec_EntryInts_L0 k (L0 m) v0_0 v0_1 v0_2), spec_EntryInts k (L0 n) a0 = k (N.spec_EntryInts a0) := by
  unfold G.spec_EntryInts at g
  have hw : wE a0 ≤ 1048576 := of_decide_eq_true g
  have hw2 : a0.1.size + (a0.2.2.2.length + wsum ByteArray.size a0.2.2.2) ≤ 1048576 := hw
  have g1 : decide (a0.1.size ≤ 1048576) = true := by simp; omega
  have f1 : fit (labelInts a0.1).length 3 = true := fit_of (by rw [labelInts_len]; omega)
  refine ⟨a0.2.2.2.length + 1, fun n hn L0 h0 => ?_⟩
  show cond (decide (a0.1.size ≤ 1048576)) (cond (fit (labelInts a0.1).length 3) (L0 n 0 a0 (labelInts a0.1 ++ [a0.2.1, a0.2.2.1, (a0.2.2.2.length : Int)])) none) none = k (entryInts a0)
  rw [g1, f1]
  have key := raw_run0 (σ := List Int) (L := fun m i s => L0 m i a0 s) (R := fun i s c => spec_EntryInts_L0 k (fun i _ s => c i s) i a0 s) (fun m i s => h0 m i a0 s) a0.2.2.2.length (fun j s => s.length + wP (a0.2.2.2.drop j) ≤ 4194304) (fun j s => k (s ++ (a0.2.2.2.drop j).flatMap labelInts)) (fun j s c hj hI hc => ?_) (fun s c _ => ?_) hn (s := labelInts a0.1 ++ [a0.2.1, a0.2.2.1, (a0.2.2.2.length : Int)]) (by rw [List.drop_zero, List.length_append, labelInts_len]; unfold wP; simp; omega)
  · rw [List.drop_zero] at key
    exact key
  · have hd := drop_cons ByteArray.empty hj
    have hp : wP (a0.2.2.2.drop j) = 1 + (a0.2.2.2.getD j ByteArray.empty).size + wP (a0.2.2.2.drop (j + 1)) := by
      rw [hd]
      unfold wP
      rw [List.length_cons]
      show _ + (_ + _) = _
      omega
    have hm := wsum_mem (wt := ByteArray.size) (getD_mem (d := ByteArray.empty) hj)
    have g2 : decide ((a0.2.2.2.getD j ByteArray.empty).size ≤ 1048576) = true := by simp only [decide_eq_true_eq]; omega
    have e3 : fit s.length (labelInts (a0.2.2.2.getD j ByteArray.empty)).length = true := fit_of (by rw [labelInts_len]; omega)
    have := hc (s ++ labelInts (a0.2.2.2.getD j ByteArray.empty)) (by rw [List.length_append, labelInts_len]; omega)
    simp only [spec_EntryInts_L0, lt_nat, inRange_nat, decide_eq_true hj, cond_true, Int.toNat_natCast, G.spec_LabelInts, N.spec_LabelInts, g2, e3, wrap_succ (j := j) (by unfold big; omega), List.append_eq, this]
    rw [hd]
    simp
  · simp [spec_EntryInts_L0]
def OP_spec_EntryInts (f_spec_LabelInts : ByteArray → (List Int)) (g_spec_LabelInts : ByteArray → Bool) : Orac := (orcX 148 [.val .str] (fun d => g_spec_LabelInts d.1) (fun d => [⟨(.slice 3 (.int .i64)), f_spec_LabelInts d.1⟩]) nilO)
def O_spec_EntryInts : Orac := OP_spec_EntryInts N.spec_LabelInts G.spec_LabelInts
def spec_EntryInts_P_L0 {ρ : Type} (f_spec_LabelInts : ByteArray → (List Int)) (g_spec_LabelInts : ByteArray → Bool) (k : (List Int) → Option ρ) (L0 : Int → TEntry → (List Int) → Option ρ) (v0_0 : Int) (v0_1 : TEntry) (v0_2 : (List Int)) : Option ρ := (cond (decide (v0_0 < (List.length v0_1.2.2.2 : Int))) (cond (inRange v0_0 (List.length v0_1.2.2.2)) (cond (g_spec_LabelInts (List.getD v0_1.2.2.2 (Int.toNat v0_0) ByteArray.empty)) (cond (fit (List.length v0_2) (List.length (f_spec_LabelInts (List.getD v0_1.2.2.2 (Int.toNat v0_0) ByteArray.empty)))) (L0 (IntKind.wrap .i64 (v0_0 + (1 : Int))) v0_1 (List.append v0_2 (f_spec_LabelInts (List.getD v0_1.2.2.2 (Int.toNat v0_0) ByteArray.empty)))) none) none) none) (k v0_2))
def spec_EntryInts_P {ρ : Type} (f_spec_LabelInts : ByteArray → (List Int)) (g_spec_LabelInts : ByteArray → Bool) (k : (List Int) → Option ρ) (L0 : Int → TEntry → (List Int) → Option ρ) (a0 : TEntry) : Option ρ := (cond (g_spec_LabelInts a0.1) (cond (fit (List.length (f_spec_LabelInts a0.1)) (List.length [a0.2.1, a0.2.2.1, (List.length a0.2.2.2 : Int)])) (L0 (0 : Int) a0 (List.append (f_spec_LabelInts a0.1) [a0.2.1, a0.2.2.1, (List.length a0.2.2.2 : Int)])) none) none)
theorem ok_spec_EntryInts : OracOk Try.prog sigs O_spec_EntryInts := (orcX_ok rfl rfl (fun d g => said_spec_LabelInts d.1 g) nilO_ok)
def A_spec_EntryInts : Ann := fun b => cond (Nat.beq b 0) ⟨[(1, false), (3, true), (4, false)], [(1, false)]⟩ (⟨[], []⟩)
def S_spec_EntryInts_0 (v0_0 : Int) (v0_1 : TEntry) (v0_2 : (List Int)) : St := [(kT 1, some (.tv (.box 1 []))), (kT 3, some (.tv (.v (.slice 3 (.int .i64)) [] (.own 24)))), (kT 4, some (.tv (.v (.int .i64) v0_0 .no))), (kB 1, some (.box TyEntry v0_1 .no)), (kR 24, some (.row 3 (.int .i64) v0_2))]
noncomputable def L_P_spec_EntryInts_0 (f_spec_LabelInts : ByteArray → (List Int)) (g_spec_LabelInts : ByteArray → Bool) (n m : Nat) : St → Option Ret := loopOf tab sigs (OP_spec_EntryInts f_spec_LabelInts g_spec_LabelInts) A_spec_EntryInts Try.f137 [((.slice 3 (.int .i64)), (.own 0))] n (fun _ => 0) 0 m
noncomputable def L_spec_EntryInts_0 (n m : Nat) : St → Option Ret := L_P_spec_EntryInts_0 N.spec_LabelInts G.spec_LabelInts n m
theorem bP_spec_EntryInts_0 (f_spec_LabelInts : ByteArray → (List Int)) (g_spec_LabelInts : ByteArray → Bool) (n m : Nat) (v0_0 : Int) (v0_1 : TEntry) (v0_2 : (List Int)) : L_P_spec_EntryInts_0 f_spec_LabelInts g_spec_LabelInts n (m + 1) (S_spec_EntryInts_0 v0_0 v0_1 v0_2) = spec_EntryInts_P_L0 f_spec_LabelInts g_spec_LabelInts (fun r0 => some [⟨(.slice 3 (.int .i64)), r0⟩]) (fun v0_0 v0_1 v0_2 => L_P_spec_EntryInts_0 f_spec_LabelInts g_spec_LabelInts n m (S_spec_EntryInts_0 v0_0 v0_1 v0_2)) v0_0 v0_1 v0_2 := by kernel_rfl
theorem b_spec_EntryInts_0 (n m : Nat) (v0_0 : Int) (v0_1 : TEntry) (v0_2 : (List Int)) : L_spec_EntryInts_0 n (m + 1) (S_spec_EntryInts_0 v0_0 v0_1 v0_2) = spec_EntryInts_L0 (fun r0 => some [⟨(.slice 3 (.int .i64)), r0⟩]) (fun v0_0 v0_1 v0_2 => L_spec_EntryInts_0 n m (S_spec_EntryInts_0 v0_0 v0_1 v0_2)) v0_0 v0_1 v0_2 := bP_spec_EntryInts_0 N.spec_LabelInts G.spec_LabelInts n m v0_0 v0_1 v0_2
theorem aP_spec_EntryInts (f_spec_LabelInts : ByteArray → (List Int)) (g_spec_LabelInts : ByteArray → Bool) (n : Nat) (a0 : TEntry) : absF tab sigs (OP_spec_EntryInts f_spec_LabelInts g_spec_LabelInts) A_spec_EntryInts Try.f137 [((.slice 3 (.int .i64)), (.own 0))] n [.val TyEntry a0] = spec_EntryInts_P f_spec_LabelInts g_spec_LabelInts (fun r0 => some [⟨(.slice 3 (.int .i64)), r0⟩]) (fun v0_0 v0_1 v0_2 => L_P_spec_EntryInts_0 f_spec_LabelInts g_spec_LabelInts n n (S_spec_EntryInts_0 v0_0 v0_1 v0_2)) a0 := by kernel_rfl
theorem a_spec_EntryInts (n : Nat) (a0 : TEntry) : absF tab sigs O_spec_EntryInts A_spec_EntryInts Try.f137 [((.slice 3 (.int .i64)), (.own 0))] n [.val TyEntry a0] = spec_EntryInts (fun r0 => some [⟨(.slice 3 (.int .i64)), r0⟩]) (fun v0_0 v0_1 v0_2 => L_spec_EntryInts_0 n n (S_spec_EntryInts_0 v0_0 v0_1 v0_2)) a0 := aP_spec_EntryInts N.spec_LabelInts G.spec_LabelInts n a0
theorem said_spec_EntryInts (a0 : TEntry) (g : G.spec_EntryInts a0 = true) : Said Try.prog sigs_137 137 [.val TyEntry a0] [⟨(.slice 3 (.int .i64)), N.spec_EntryInts a0⟩] := said_len (T := tab) (A := A_spec_EntryInts) tabOk ok_spec_EntryInts tabOk.follows Try.func137 (by kernel_rfl) (by kernel_rfl) (fun hl => let ⟨n, hn⟩ := spec_EntryInts_ok (ρ := Ret) (fun r0 => some [⟨(.slice 3 (.int .i64)), r0⟩]) a0 hl.1 g; ⟨n, (a_spec_EntryInts n a0).trans (hn n (Nat.le_refl n) (fun  m v0_0 v0_1 v0_2 => L_spec_EntryInts_0 n  m (S_spec_EntryInts_0 v0_0 v0_1 v0_2)) (fun  m v0_0 v0_1 v0_2 => b_spec_EntryInts_0 n  m v0_0 v0_1 v0_2))⟩)
/-! spec.LeafOf -/
abbrev G.spec_LeafOf (e : TEntry) : Bool := decide (wE e ≤ 1048576)
abbrev N.spec_LeafOf (e : TEntry) : Int := leafOf e
def spec_LeafOf {ρ : Type} (k : Int → Option ρ) (a0 : TEntry) : Option ρ := (cond (G.spec_EntryInts a0) (cond (fit (List.length [(227 : Int)]) (List.length (N.spec_EntryInts a0))) (k (N.spec_Hash (List.append [(227 : Int)] (N.spec_EntryInts a0)))) none) none)
theorem spec_LeafOf_ok {ρ : Type} (k : Int → Option ρ) (a0 : TEntry) (l_a0 : (True ∧ (True ∧ (True ∧ lnL (fun _ => True) a0.2.2.2)))) (g : G.spec_LeafOf a0 = true) : spec_LeafOf k  a0 = k (N.spec_LeafOf a0) := by
  unfold G.spec_LeafOf at g
  have hw : wE a0 ≤ 1048576 := of_decide_eq_true g
  have f1 : fit 1 (entryInts a0).length = true := fit_of (by rw [entryInts_len]; omega)
  show cond (decide (wE a0 ≤ 1048576)) (cond (fit 1 (entryInts a0).length) _ none) none = _
  rw [g, f1]
  rfl
def OP_spec_LeafOf (f_spec_EntryInts : TEntry → (List Int)) (g_spec_EntryInts : TEntry → Bool) (f_spec_Hash : (List Int) → Int) : Orac := (orcX 79 [.val (.slice 3 (.int .i64))] (fun d => true) (fun d => [⟨(.int .i64), f_spec_Hash d.1⟩]) (orcX 137 [.val TyEntry] (fun d => g_spec_EntryInts d.1) (fun d => [⟨(.slice 3 (.int .i64)), f_spec_EntryInts d.1⟩]) nilO))
def O_spec_LeafOf : Orac := OP_spec_LeafOf N.spec_EntryInts G.spec_EntryInts N.spec_Hash
def spec_LeafOf_P {ρ : Type} (f_spec_EntryInts : TEntry → (List Int)) (g_spec_EntryInts : TEntry → Bool) (f_spec_Hash : (List Int) → Int) (k : Int → Option ρ) (a0 : TEntry) : Option ρ := (cond (g_spec_EntryInts a0) (cond (fit (List.length [(227 : Int)]) (List.length (f_spec_EntryInts a0))) (k (f_spec_Hash (List.append [(227 : Int)] (f_spec_EntryInts a0)))) none) none)
theorem ok_spec_LeafOf : OracOk Try.prog sigs O_spec_LeafOf := (orcX_ok rfl rfl (fun d g => said_spec_Hash d.1) (orcX_ok rfl rfl (fun d g => said_spec_EntryInts d.1 g) nilO_ok))
def A_spec_LeafOf : Ann := fun b => ⟨[], []⟩
theorem aP_spec_LeafOf (f_spec_EntryInts : TEntry → (List Int)) (g_spec_EntryInts : TEntry → Bool) (f_spec_Hash : (List Int) → Int) (n : Nat) (a0 : TEntry) : absF tab sigs (OP_spec_LeafOf f_spec_EntryInts g_spec_EntryInts f_spec_Hash) A_spec_LeafOf Try.f124 [((.int .i64), .no)] n [.val TyEntry a0] = spec_LeafOf_P f_spec_EntryInts g_spec_EntryInts f_spec_Hash (fun r0 => some [⟨(.int .i64), r0⟩])  a0 := by kernel_rfl
theorem a_spec_LeafOf (n : Nat) (a0 : TEntry) : absF tab sigs O_spec_LeafOf A_spec_LeafOf Try.f124 [((.int .i64), .no)] n [.val TyEntry a0] = spec_LeafOf (fun r0 => some [⟨(.int .i64), r0⟩])  a0 := aP_spec_LeafOf N.spec_EntryInts G.spec_EntryInts N.spec_Hash n a0
theorem said_spec_LeafOf (a0 : TEntry) (g : G.spec_LeafOf a0 = true) : Said Try.prog sigs_124 124 [.val TyEntry a0] [⟨(.int .i64), N.spec_LeafOf a0⟩] := said_len (T := tab) (A := A_spec_LeafOf) tabOk ok_spec_LeafOf tabOk.follows Try.func124 (by kernel_rfl) (by kernel_rfl) (fun hl => ⟨0, (a_spec_LeafOf 0 a0).trans (spec_LeafOf_ok (ρ := Ret) (fun r0 => some [⟨(.int .i64), r0⟩]) a0 hl.1 g)⟩)
/-! spec.LeavesOf -/
abbrev G.spec_LeavesOf (l : List TEntry) : Bool := decide (wEs l ≤ 1048576)
abbrev N.spec_LeavesOf (l : List TEntry) : List Int := l.map leafOf
def spec_LeavesOf_L0 {ρ : Type} (k : (List Int) → Option ρ) (L0 : (List TEntry) → Int → (List Int) → Option ρ) (v0_0 : (List TEntry)) (v0_1 : Int) (v0_2 : (List Int)) : Option ρ := (cond (decide (v0_1 < (List.length v0_0 : Int))) (cond (inRange v0_1 (List.length v0_0)) (cond (G.spec_LeafOf (List.getD v0_0 (Int.toNat v0_1) (ByteArray.empty, ((0 : Int), ((0 : Int), []))))) (cond (fit (List.length v0_2) (List.length [(N.spec_LeafOf (List.getD v0_0 (Int.toNat v0_1) (ByteArray.empty, ((0 : Int), ((0 : Int), [])))))])) (L0 v0_0 (IntKind.wrap .i64 (v0_1 + (1 : Int))) (List.append v0_2 [(N.spec_LeafOf (List.getD v0_0 (Int.toNat v0_1) (ByteArray.empty, ((0 : Int), ((0 : Int), [])))))])) none) none) none) (k v0_2))
def spec_LeavesOf {ρ : Type} (k : (List Int) → Option ρ) (L0 : (List TEntry) → Int → (List Int) → Option ρ) (a0 : (List TEntry)) : Option ρ := (L0 a0 (0 : Int) ([] : (List Int)))
theorem spec_LeavesOf_ok {ρ : Type} (k : (List Int) → Option ρ) (a0 : (List TEntry)) (l_a0 : lnL (fun y => (True ∧ (True ∧ (True ∧ lnL (fun _ => True) y.2.2.2)))) a0) (g : G.spec_LeavesOf a0 = true) : ∃ n0, ∀ n, n0 ≤ n → ∀ (L0 : Nat → (List TEntry) → Int → (List Int) → Option ρ) (h0 : ∀ ( m : Nat) (v0_0 : (List TEntry)) (v0_1 : Int) (v0_2 : (List Int)), L0 (m + 1) v0_0 v0_1 v0_2 = spec_LeavesOf_L0 k (L0 m) v0_0 v0_1 v0_2), spec_LeavesOf k (L0 n) a0 = k (N.spec_LeavesOf a0) := by
  unfold G.spec_LeavesOf at g
  have hw : wEs a0 ≤ 1048576 := of_decide_eq_true g
  have hl : a0.length ≤ 1048576 := by unfold wEs at hw; omega
  refine ⟨a0.length + 1, fun n hn L0 h0 => ?_⟩
  refine raw_map (a := a0) (ByteArray.empty, (0, (0, []))) leafOf 1048576 (k := k) (L := fun m i out => L0 m a0 i out) (R := fun i out c => spec_LeavesOf_L0 k (fun _ i out => c i out) a0 i out) (fun m i s => h0 m a0 i s) (fun j out c hj ho => ?_) (fun out c => ?_) hl hn
  · have hm := wEs_mem (getD_mem (d := (ByteArray.empty, (0, (0, [])))) hj)
    have g2 : decide (wE (a0.getD j (ByteArray.empty, (0, (0, [])))) ≤ 1048576) = true := by simp only [decide_eq_true_eq]; omega
    have e3 : fit out.length 1 = true := fit_of (by omega)
    simp only [spec_LeavesOf_L0, lt_nat, inRange_nat, decide_eq_true hj, cond_true, Int.toNat_natCast, G.spec_LeafOf, g2, List.length_singleton, e3, wrap_succ (j := j) (by unfold big; omega), List.append_eq]
  · simp [spec_LeavesOf_L0]
def OP_spec_LeavesOf (f_spec_LeafOf : TEntry → Int) (g_spec_LeafOf : TEntry → Bool) : Orac := (orcX 124 [.val TyEntry] (fun d => g_spec_LeafOf d.1) (fun d => [⟨(.int .i64), f_spec_LeafOf d.1⟩]) nilO)
def O_spec_LeavesOf : Orac := OP_spec_LeavesOf N.spec_LeafOf G.spec_LeafOf
def spec_LeavesOf_P_L0 {ρ : Type} (f_spec_LeafOf : TEntry → Int) (g_spec_LeafOf : TEntry → Bool) (k : (List Int) → Option ρ) (L0 : (List TEntry) → Int → (List Int) → Option ρ) (v0_0 : (List TEntry)) (v0_1 : Int) (v0_2 : (List Int)) : Option ρ := (cond (decide (v0_1 < (List.length v0_0 : Int))) (cond (inRange v0_1 (List.length v0_0)) (cond (g_spec_LeafOf (List.getD v0_0 (Int.toNat v0_1) (ByteArray.empty, ((0 : Int), ((0 : Int), []))))) (cond (fit (List.length v0_2) (List.length [(f_spec_LeafOf (List.getD v0_0 (Int.toNat v0_1) (ByteArray.empty, ((0 : Int), ((0 : Int), [])))))])) (L0 v0_0 (IntKind.wrap .i64 (v0_1 + (1 : Int))) (List.append v0_2 [(f_spec_LeafOf (List.getD v0_0 (Int.toNat v0_1) (ByteArray.empty, ((0 : Int), ((0 : Int), [])))))])) none) none) none) (k v0_2))
def spec_LeavesOf_P {ρ : Type} (f_spec_LeafOf : TEntry → Int) (g_spec_LeafOf : TEntry → Bool) (k : (List Int) → Option ρ) (L0 : (List TEntry) → Int → (List Int) → Option ρ) (a0 : (List TEntry)) : Option ρ := (L0 a0 (0 : Int) ([] : (List Int)))
theorem ok_spec_LeavesOf : OracOk Try.prog sigs O_spec_LeavesOf := (orcX_ok rfl rfl (fun d g => said_spec_LeafOf d.1 g) nilO_ok)
def A_spec_LeavesOf : Ann := fun b => cond (Nat.beq b 0) ⟨[(0, false), (3, true), (4, false)], []⟩ (⟨[], []⟩)
def S_spec_LeavesOf_0 (v0_0 : (List TEntry)) (v0_1 : Int) (v0_2 : (List Int)) : St := [(kT 0, some (.tv (.v (.slice 89 TyEntry) v0_0 .no))), (kT 3, some (.tv (.v (.slice 3 (.int .i64)) [] (.own 24)))), (kT 4, some (.tv (.v (.int .i64) v0_1 .no))), (kR 24, some (.row 3 (.int .i64) v0_2))]
noncomputable def L_P_spec_LeavesOf_0 (f_spec_LeafOf : TEntry → Int) (g_spec_LeafOf : TEntry → Bool) (n m : Nat) : St → Option Ret := loopOf tab sigs (OP_spec_LeavesOf f_spec_LeafOf g_spec_LeafOf) A_spec_LeavesOf Try.f103 [((.slice 3 (.int .i64)), (.own 0))] n (fun _ => 0) 0 m
noncomputable def L_spec_LeavesOf_0 (n m : Nat) : St → Option Ret := L_P_spec_LeavesOf_0 N.spec_LeafOf G.spec_LeafOf n m
theorem bP_spec_LeavesOf_0 (f_spec_LeafOf : TEntry → Int) (g_spec_LeafOf : TEntry → Bool) (n m : Nat) (v0_0 : (List TEntry)) (v0_1 : Int) (v0_2 : (List Int)) : L_P_spec_LeavesOf_0 f_spec_LeafOf g_spec_LeafOf n (m + 1) (S_spec_LeavesOf_0 v0_0 v0_1 v0_2) = spec_LeavesOf_P_L0 f_spec_LeafOf g_spec_LeafOf (fun r0 => some [⟨(.slice 3 (.int .i64)), r0⟩]) (fun v0_0 v0_1 v0_2 => L_P_spec_LeavesOf_0 f_spec_LeafOf g_spec_LeafOf n m (S_spec_LeavesOf_0 v0_0 v0_1 v0_2)) v0_0 v0_1 v0_2 := by kernel_rfl
theorem b_spec_LeavesOf_0 (n m : Nat) (v0_0 : (List TEntry)) (v0_1 : Int) (v0_2 : (List Int)) : L_spec_LeavesOf_0 n (m + 1) (S_spec_LeavesOf_0 v0_0 v0_1 v0_2) = spec_LeavesOf_L0 (fun r0 => some [⟨(.slice 3 (.int .i64)), r0⟩]) (fun v0_0 v0_1 v0_2 => L_spec_LeavesOf_0 n m (S_spec_LeavesOf_0 v0_0 v0_1 v0_2)) v0_0 v0_1 v0_2 := bP_spec_LeavesOf_0 N.spec_LeafOf G.spec_LeafOf n m v0_0 v0_1 v0_2
theorem aP_spec_LeavesOf (f_spec_LeafOf : TEntry → Int) (g_spec_LeafOf : TEntry → Bool) (n : Nat) (a0 : (List TEntry)) : absF tab sigs (OP_spec_LeavesOf f_spec_LeafOf g_spec_LeafOf) A_spec_LeavesOf Try.f103 [((.slice 3 (.int .i64)), (.own 0))] n [.val (.slice 89 TyEntry) a0] = spec_LeavesOf_P f_spec_LeafOf g_spec_LeafOf (fun r0 => some [⟨(.slice 3 (.int .i64)), r0⟩]) (fun v0_0 v0_1 v0_2 => L_P_spec_LeavesOf_0 f_spec_LeafOf g_spec_LeafOf n n (S_spec_LeavesOf_0 v0_0 v0_1 v0_2)) a0 := by kernel_rfl
theorem a_spec_LeavesOf (n : Nat) (a0 : (List TEntry)) : absF tab sigs O_spec_LeavesOf A_spec_LeavesOf Try.f103 [((.slice 3 (.int .i64)), (.own 0))] n [.val (.slice 89 TyEntry) a0] = spec_LeavesOf (fun r0 => some [⟨(.slice 3 (.int .i64)), r0⟩]) (fun v0_0 v0_1 v0_2 => L_spec_LeavesOf_0 n n (S_spec_LeavesOf_0 v0_0 v0_1 v0_2)) a0 := aP_spec_LeavesOf N.spec_LeafOf G.spec_LeafOf n a0
theorem said_spec_LeavesOf (a0 : (List TEntry)) (g : G.spec_LeavesOf a0 = true) : Said Try.prog sigs_103 103 [.val (.slice 89 TyEntry) a0] [⟨(.slice 3 (.int .i64)), N.spec_LeavesOf a0⟩] := said_len (T := tab) (A := A_spec_LeavesOf) tabOk ok_spec_LeavesOf tabOk.follows Try.func103 (by kernel_rfl) (by kernel_rfl) (fun hl => let ⟨n, hn⟩ := spec_LeavesOf_ok (ρ := Ret) (fun r0 => some [⟨(.slice 3 (.int .i64)), r0⟩]) a0 hl.1 g; ⟨n, (a_spec_LeavesOf n a0).trans (hn n (Nat.le_refl n) (fun  m v0_0 v0_1 v0_2 => L_spec_LeavesOf_0 n  m (S_spec_LeavesOf_0 v0_0 v0_1 v0_2)) (fun  m v0_0 v0_1 v0_2 => b_spec_LeavesOf_0 n  m v0_0 v0_1 v0_2))⟩)
/-! spec.NodeOf -/
abbrev N.spec_NodeOf (a b : Int) : Int := nodeOf a b
def spec_NodeOf {ρ : Type} (k : Int → Option ρ) (a0 : Int) (a1 : Int) : Option ρ := (k (N.spec_Hash [(229 : Int), a0, a1]))
theorem spec_NodeOf_ok {ρ : Type} (k : Int → Option ρ) (a0 : Int) (a1 : Int) : spec_NodeOf k  a0 a1 = k (N.spec_NodeOf a0 a1) := by
  rfl
def OP_spec_NodeOf (f_spec_Hash : (List Int) → Int) : Orac := (orcX 79 [.val (.slice 3 (.int .i64))] (fun d => true) (fun d => [⟨(.int .i64), f_spec_Hash d.1⟩]) nilO)
def O_spec_NodeOf : Orac := OP_spec_NodeOf N.spec_Hash
def spec_NodeOf_P {ρ : Type} (f_spec_Hash : (List Int) → Int) (k : Int → Option ρ) (a0 : Int) (a1 : Int) : Option ρ := (k (f_spec_Hash [(229 : Int), a0, a1]))
theorem ok_spec_NodeOf : OracOk Try.prog sigs O_spec_NodeOf := (orcX_ok rfl rfl (fun d g => said_spec_Hash d.1) nilO_ok)
def A_spec_NodeOf : Ann := fun b => ⟨[], []⟩
theorem aP_spec_NodeOf (f_spec_Hash : (List Int) → Int) (n : Nat) (a0 : Int) (a1 : Int) : absF tab sigs (OP_spec_NodeOf f_spec_Hash) A_spec_NodeOf Try.f136 [((.int .i64), .no)] n [.val (.int .i64) a0, .val (.int .i64) a1] = spec_NodeOf_P f_spec_Hash (fun r0 => some [⟨(.int .i64), r0⟩])  a0 a1 := by kernel_rfl
theorem a_spec_NodeOf (n : Nat) (a0 : Int) (a1 : Int) : absF tab sigs O_spec_NodeOf A_spec_NodeOf Try.f136 [((.int .i64), .no)] n [.val (.int .i64) a0, .val (.int .i64) a1] = spec_NodeOf (fun r0 => some [⟨(.int .i64), r0⟩])  a0 a1 := aP_spec_NodeOf N.spec_Hash n a0 a1
theorem said_spec_NodeOf (a0 : Int) (a1 : Int) : Said Try.prog sigs_136 136 [.val (.int .i64) a0, .val (.int .i64) a1] [⟨(.int .i64), N.spec_NodeOf a0 a1⟩] := said_len (T := tab) (A := A_spec_NodeOf) tabOk ok_spec_NodeOf tabOk.follows Try.func136 (by kernel_rfl) (by kernel_rfl) (fun hl => ⟨0, (a_spec_NodeOf 0 a0 a1).trans (spec_NodeOf_ok (ρ := Ret) (fun r0 => some [⟨(.int .i64), r0⟩]) a0 a1)⟩)
/-! spec.l10Up -/
abbrev G.spec_l10Up (l : List Int) : Bool := decide (l.length ≤ 1048576)
abbrev N.spec_l10Up (l : List Int) : List Int := up l
def spec_l10Up_L0 {ρ : Type} (k : (List Int) → Option ρ) (L0 : (List Int) → Int → (List Int) → Option ρ) (v0_0 : (List Int)) (v0_1 : Int) (v0_2 : (List Int)) : Option ρ := (cond (decide (v0_1 < (List.length v0_0 : Int))) (cond (decide ((IntKind.wrap .i64 (v0_1 + (1 : Int))) < (List.length v0_0 : Int))) (cond (inRange v0_1 (List.length v0_0)) (cond (inRange (IntKind.wrap .i64 (v0_1 + (1 : Int))) (List.length v0_0)) (cond (fit (List.length v0_2) (List.length [(N.spec_NodeOf (List.getD v0_0 (Int.toNat v0_1) (0 : Int)) (List.getD v0_0 (Int.toNat (IntKind.wrap .i64 (v0_1 + (1 : Int)))) (0 : Int)))])) (L0 v0_0 (IntKind.wrap .i64 (v0_1 + (2 : Int))) (List.append v0_2 [(N.spec_NodeOf (List.getD v0_0 (Int.toNat v0_1) (0 : Int)) (List.getD v0_0 (Int.toNat (IntKind.wrap .i64 (v0_1 + (1 : Int)))) (0 : Int)))])) none) none) none) (cond (inRange v0_1 (List.length v0_0)) (cond (fit (List.length v0_2) (List.length [(List.getD v0_0 (Int.toNat v0_1) (0 : Int))])) (L0 v0_0 (IntKind.wrap .i64 (v0_1 + (2 : Int))) (List.append v0_2 [(List.getD v0_0 (Int.toNat v0_1) (0 : Int))])) none) none)) (k v0_2))
def spec_l10Up {ρ : Type} (k : (List Int) → Option ρ) (L0 : (List Int) → Int → (List Int) → Option ρ) (a0 : (List Int)) : Option ρ := (L0 a0 (0 : Int) ([] : (List Int)))
theorem spec_l10Up_ok {ρ : Type} (k : (List Int) → Option ρ) (a0 : (List Int)) (l_a0 : lnL (fun _ => True) a0) (g : G.spec_l10Up a0 = true) : ∃ n0, ∀ n, n0 ≤ n → ∀ (L0 : Nat → (List Int) → Int → (List Int) → Option ρ) (h0 : ∀ ( m : Nat) (v0_0 : (List Int)) (v0_1 : Int) (v0_2 : (List Int)), L0 (m + 1) v0_0 v0_1 v0_2 = spec_l10Up_L0 k (L0 m) v0_0 v0_1 v0_2), spec_l10Up k (L0 n) a0 = k (N.spec_l10Up a0) := by
  unfold G.spec_l10Up at g
  have hlen : a0.length ≤ 1048576 := of_decide_eq_true g
  refine ⟨a0.length + 1, fun n hn L0 h0 => ?_⟩
  refine (raw_meas (σ := Int × List Int) (L := fun m s => L0 m a0 s.1 s.2) (R := fun s c => spec_l10Up_L0 k (fun _ i out => c (i, out)) a0 s.1 s.2) (fun m s => h0 m a0 s.1 s.2) (fun s => 0 ≤ s.1 ∧ s.2.length + s.1 ≤ 2097160 ∧ s.1 ≤ a0.length + 1 ∧ s.2.length ≤ s.1) (fun s => a0.length - s.1.toNat) (fun s => k (s.2 ++ up (a0.drop s.1.toNat))) (fun s c hI hc => ?_) n (0, []) ⟨by simp, by simp, by simp; omega, by simp⟩ (by simp; omega)).trans (by simp)
  obtain ⟨j, out⟩ := s
  obtain ⟨hj0, hj1, hj2, hj3⟩ := hI
  dsimp only at hj0 hj1 hj2 hj3 hc ⊢
  obtain ⟨j, rfl⟩ := Int.eq_ofNat_of_zero_le hj0
  rw [Int.toNat_natCast]
  by_cases h : j < a0.length
  · have e1 : IntKind.wrap .i64 ((j : Int) + 2) = ((j + 2 : Nat) : Int) := by rw [wrap_id (by omega) (by omega)]; omega
    have e2 : IntKind.wrap .i64 ((j : Int) + 1) = ((j + 1 : Nat) : Int) := wrap_succ (by unfold big; omega)
    have e3 : fit out.length 1 = true := fit_of (by omega)
    by_cases h2 : j + 1 < a0.length
    · have hd : a0.drop j = a0.getD j 0 :: a0.getD (j + 1) 0 :: a0.drop (j + 2) := by rw [drop_cons 0 h, drop_cons 0 h2]
      have := hc (((j + 2 : Nat) : Int), out ++ [nodeOf (a0.getD j 0) (a0.getD (j + 1) 0)]) ⟨by simp; omega, by simp; omega, by simp; omega, by simp; omega⟩ (by simp; omega)
      dsimp only at this
      rw [Int.toNat_natCast] at this
      simp only [spec_l10Up_L0, e1, e2, lt_nat, inRange_nat, decide_eq_true h, decide_eq_true h2, cond_true, Int.toNat_natCast, List.length_singleton, Int.natCast_one, e3, List.append_eq, this, hd]
      simp [up]
    · have hd : a0.drop j = [a0.getD j 0] := by rw [drop_cons 0 h, List.drop_of_length_le (by omega)]
      have := hc (((j + 2 : Nat) : Int), out ++ [a0.getD j 0]) ⟨by simp; omega, by simp; omega, by simp; omega, by simp; omega⟩ (by simp; omega)
      dsimp only at this
      rw [Int.toNat_natCast, List.drop_of_length_le (by omega)] at this
      simp only [spec_l10Up_L0, e1, e2, lt_nat, inRange_nat, decide_eq_true h, decide_eq_false h2, cond_true, cond_false, Int.toNat_natCast, List.length_singleton, Int.natCast_one, e3, List.append_eq, this, hd]
      simp [up]
  · simp [spec_l10Up_L0, lt_nat, h, List.drop_of_length_le (Nat.not_lt.1 h), up]
def OP_spec_l10Up (f_spec_NodeOf : Int → Int → Int) : Orac := (orcX 136 [.val (.int .i64), .val (.int .i64)] (fun d => true) (fun d => [⟨(.int .i64), f_spec_NodeOf d.1 d.2.1⟩]) nilO)
def O_spec_l10Up : Orac := OP_spec_l10Up N.spec_NodeOf
def spec_l10Up_P_L0 {ρ : Type} (f_spec_NodeOf : Int → Int → Int) (k : (List Int) → Option ρ) (L0 : (List Int) → Int → (List Int) → Option ρ) (v0_0 : (List Int)) (v0_1 : Int) (v0_2 : (List Int)) : Option ρ := (cond (decide (v0_1 < (List.length v0_0 : Int))) (cond (decide ((IntKind.wrap .i64 (v0_1 + (1 : Int))) < (List.length v0_0 : Int))) (cond (inRange v0_1 (List.length v0_0)) (cond (inRange (IntKind.wrap .i64 (v0_1 + (1 : Int))) (List.length v0_0)) (cond (fit (List.length v0_2) (List.length [(f_spec_NodeOf (List.getD v0_0 (Int.toNat v0_1) (0 : Int)) (List.getD v0_0 (Int.toNat (IntKind.wrap .i64 (v0_1 + (1 : Int)))) (0 : Int)))])) (L0 v0_0 (IntKind.wrap .i64 (v0_1 + (2 : Int))) (List.append v0_2 [(f_spec_NodeOf (List.getD v0_0 (Int.toNat v0_1) (0 : Int)) (List.getD v0_0 (Int.toNat (IntKind.wrap .i64 (v0_1 + (1 : Int)))) (0 : Int)))])) none) none) none) (cond (inRange v0_1 (List.length v0_0)) (cond (fit (List.length v0_2) (List.length [(List.getD v0_0 (Int.toNat v0_1) (0 : Int))])) (L0 v0_0 (IntKind.wrap .i64 (v0_1 + (2 : Int))) (List.append v0_2 [(List.getD v0_0 (Int.toNat v0_1) (0 : Int))])) none) none)) (k v0_2))
def spec_l10Up_P {ρ : Type} (f_spec_NodeOf : Int → Int → Int) (k : (List Int) → Option ρ) (L0 : (List Int) → Int → (List Int) → Option ρ) (a0 : (List Int)) : Option ρ := (L0 a0 (0 : Int) ([] : (List Int)))
theorem ok_spec_l10Up : OracOk Try.prog sigs O_spec_l10Up := (orcX_ok rfl rfl (fun d g => said_spec_NodeOf d.1 d.2.1) nilO_ok)
def A_spec_l10Up : Ann := fun b => cond (Nat.beq b 0) ⟨[(0, false), (3, true), (4, false)], []⟩ (⟨[], []⟩)
def S_spec_l10Up_0 (v0_0 : (List Int)) (v0_1 : Int) (v0_2 : (List Int)) : St := [(kT 0, some (.tv (.v (.slice 3 (.int .i64)) v0_0 .no))), (kT 3, some (.tv (.v (.slice 3 (.int .i64)) [] (.own 24)))), (kT 4, some (.tv (.v (.int .i64) v0_1 .no))), (kR 24, some (.row 3 (.int .i64) v0_2))]
noncomputable def L_P_spec_l10Up_0 (f_spec_NodeOf : Int → Int → Int) (n m : Nat) : St → Option Ret := loopOf tab sigs (OP_spec_l10Up f_spec_NodeOf) A_spec_l10Up Try.f123 [((.slice 3 (.int .i64)), (.own 0))] n (fun _ => 0) 0 m
noncomputable def L_spec_l10Up_0 (n m : Nat) : St → Option Ret := L_P_spec_l10Up_0 N.spec_NodeOf n m
theorem bP_spec_l10Up_0 (f_spec_NodeOf : Int → Int → Int) (n m : Nat) (v0_0 : (List Int)) (v0_1 : Int) (v0_2 : (List Int)) : L_P_spec_l10Up_0 f_spec_NodeOf n (m + 1) (S_spec_l10Up_0 v0_0 v0_1 v0_2) = spec_l10Up_P_L0 f_spec_NodeOf (fun r0 => some [⟨(.slice 3 (.int .i64)), r0⟩]) (fun v0_0 v0_1 v0_2 => L_P_spec_l10Up_0 f_spec_NodeOf n m (S_spec_l10Up_0 v0_0 v0_1 v0_2)) v0_0 v0_1 v0_2 := by kernel_rfl
theorem b_spec_l10Up_0 (n m : Nat) (v0_0 : (List Int)) (v0_1 : Int) (v0_2 : (List Int)) : L_spec_l10Up_0 n (m + 1) (S_spec_l10Up_0 v0_0 v0_1 v0_2) = spec_l10Up_L0 (fun r0 => some [⟨(.slice 3 (.int .i64)), r0⟩]) (fun v0_0 v0_1 v0_2 => L_spec_l10Up_0 n m (S_spec_l10Up_0 v0_0 v0_1 v0_2)) v0_0 v0_1 v0_2 := bP_spec_l10Up_0 N.spec_NodeOf n m v0_0 v0_1 v0_2
theorem aP_spec_l10Up (f_spec_NodeOf : Int → Int → Int) (n : Nat) (a0 : (List Int)) : absF tab sigs (OP_spec_l10Up f_spec_NodeOf) A_spec_l10Up Try.f123 [((.slice 3 (.int .i64)), (.own 0))] n [.val (.slice 3 (.int .i64)) a0] = spec_l10Up_P f_spec_NodeOf (fun r0 => some [⟨(.slice 3 (.int .i64)), r0⟩]) (fun v0_0 v0_1 v0_2 => L_P_spec_l10Up_0 f_spec_NodeOf n n (S_spec_l10Up_0 v0_0 v0_1 v0_2)) a0 := by kernel_rfl
theorem a_spec_l10Up (n : Nat) (a0 : (List Int)) : absF tab sigs O_spec_l10Up A_spec_l10Up Try.f123 [((.slice 3 (.int .i64)), (.own 0))] n [.val (.slice 3 (.int .i64)) a0] = spec_l10Up (fun r0 => some [⟨(.slice 3 (.int .i64)), r0⟩]) (fun v0_0 v0_1 v0_2 => L_spec_l10Up_0 n n (S_spec_l10Up_0 v0_0 v0_1 v0_2)) a0 := aP_spec_l10Up N.spec_NodeOf n a0
theorem said_spec_l10Up (a0 : (List Int)) (g : G.spec_l10Up a0 = true) : Said Try.prog sigs_123 123 [.val (.slice 3 (.int .i64)) a0] [⟨(.slice 3 (.int .i64)), N.spec_l10Up a0⟩] := said_len (T := tab) (A := A_spec_l10Up) tabOk ok_spec_l10Up tabOk.follows Try.func123 (by kernel_rfl) (by kernel_rfl) (fun hl => let ⟨n, hn⟩ := spec_l10Up_ok (ρ := Ret) (fun r0 => some [⟨(.slice 3 (.int .i64)), r0⟩]) a0 hl.1 g; ⟨n, (a_spec_l10Up n a0).trans (hn n (Nat.le_refl n) (fun  m v0_0 v0_1 v0_2 => L_spec_l10Up_0 n  m (S_spec_l10Up_0 v0_0 v0_1 v0_2)) (fun  m v0_0 v0_1 v0_2 => b_spec_l10Up_0 n  m v0_0 v0_1 v0_2))⟩)
/-! spec.TopOf -/
abbrev G.spec_TopOf (l : List Int) : Bool := decide (l.length ≤ 1048576)
abbrev N.spec_TopOf (l : List Int) : Int := topOf l
def spec_TopOf_L0 {ρ : Type} (k : Int → Option ρ) (L0 : (List Int) → Option ρ) (v0_0 : (List Int)) : Option ρ := (cond (decide ((List.length v0_0 : Int) > (1 : Int))) (cond (G.spec_l10Up v0_0) (L0 (N.spec_l10Up v0_0)) none) (cond (inRange (0 : Int) (List.length v0_0)) (k (List.getD v0_0 0 (0 : Int))) none))
def spec_TopOf {ρ : Type} (k : Int → Option ρ) (L0 : (List Int) → Option ρ) (a0 : (List Int)) : Option ρ := (cond ((List.length a0 : Int) == (0 : Int)) (k (N.spec_Hash [(229 : Int)])) (L0 a0))
theorem spec_TopOf_ok {ρ : Type} (k : Int → Option ρ) (a0 : (List Int)) (l_a0 : lnL (fun _ => True) a0) (g : G.spec_TopOf a0 = true) : ∃ n0, ∀ n, n0 ≤ n → ∀ (L0 : Nat → (List Int) → Option ρ) (h0 : ∀ ( m : Nat) (v0_0 : (List Int)), L0 (m + 1) v0_0 = spec_TopOf_L0 k (L0 m) v0_0), spec_TopOf k (L0 n) a0 = k (N.spec_TopOf a0) := by
  unfold G.spec_TopOf at g
  have hlen : a0.length ≤ 1048576 := of_decide_eq_true g
  refine ⟨a0.length + 1, fun n hn L0 h0 => ?_⟩
  unfold spec_TopOf
  show _ = k (topOf a0)
  unfold topOf
  by_cases h : a0.length = 0
  · simp [h]
  · have e1 : ((a0.length : Int) == 0) = false := by simpa using h
    rw [e1, decide_eq_false h]
    refine raw_meas (L := fun m s => L0 m s) (R := fun s c => spec_TopOf_L0 k c s) (fun m s => h0 m s) (fun s => 0 < s.length ∧ s.length ≤ 1048576) (fun s => s.length) (fun s => k (topN s.length s)) (fun s c hI hc => ?_) n a0 ⟨by omega, hlen⟩ (by omega)
    unfold spec_TopOf_L0
    by_cases h1 : 1 < s.length
    · have e2 : decide ((s.length : Int) > 1) = true := by simp; omega
      have hu := up_len s
      have e3 : decide (s.length ≤ 1048576) = true := by simpa using hI.2
      have := hc (up s) ⟨by omega, by omega⟩ (by omega)
      simp only [e2, e3, cond_true, this]
      congr 1
      obtain ⟨q, hq⟩ : ∃ q, s.length = q + 1 := ⟨s.length - 1, by omega⟩
      rw [hq]
      show _ = cond (decide (1 < s.length)) (topN q (up s)) _
      rw [decide_eq_true h1]
      exact topN_more _ _ _ (by omega) (by omega)
    · have e2 : decide ((s.length : Int) > 1) = false := by simp; omega
      have e3 : inRange 0 s.length = true := by unfold inRange; simp; omega
      have e4 : s.length = 1 := by omega
      rw [e4] at e3
      simp [e2, e3, e4, topN]
def OP_spec_TopOf (f_spec_Hash : (List Int) → Int) (f_spec_l10Up : (List Int) → (List Int)) (g_spec_l10Up : (List Int) → Bool) : Orac := (orcX 123 [.val (.slice 3 (.int .i64))] (fun d => g_spec_l10Up d.1) (fun d => [⟨(.slice 3 (.int .i64)), f_spec_l10Up d.1⟩]) (orcX 79 [.val (.slice 3 (.int .i64))] (fun d => true) (fun d => [⟨(.int .i64), f_spec_Hash d.1⟩]) nilO))
def O_spec_TopOf : Orac := OP_spec_TopOf N.spec_Hash N.spec_l10Up G.spec_l10Up
def spec_TopOf_P_L0 {ρ : Type} (f_spec_Hash : (List Int) → Int) (f_spec_l10Up : (List Int) → (List Int)) (g_spec_l10Up : (List Int) → Bool) (k : Int → Option ρ) (L0 : (List Int) → Option ρ) (v0_0 : (List Int)) : Option ρ := (cond (decide ((List.length v0_0 : Int) > (1 : Int))) (cond (g_spec_l10Up v0_0) (L0 (f_spec_l10Up v0_0)) none) (cond (inRange (0 : Int) (List.length v0_0)) (k (List.getD v0_0 0 (0 : Int))) none))
def spec_TopOf_P {ρ : Type} (f_spec_Hash : (List Int) → Int) (f_spec_l10Up : (List Int) → (List Int)) (g_spec_l10Up : (List Int) → Bool) (k : Int → Option ρ) (L0 : (List Int) → Option ρ) (a0 : (List Int)) : Option ρ := (cond ((List.length a0 : Int) == (0 : Int)) (k (f_spec_Hash [(229 : Int)])) (L0 a0))
theorem ok_spec_TopOf : OracOk Try.prog sigs O_spec_TopOf := (orcX_ok rfl rfl (fun d g => said_spec_l10Up d.1 g) (orcX_ok rfl rfl (fun d g => said_spec_Hash d.1) nilO_ok))
def A_spec_TopOf : Ann := fun b => cond (Nat.beq b 0) ⟨[(3, false)], []⟩ (⟨[], []⟩)
def S_spec_TopOf_0 (v0_0 : (List Int)) : St := [(kT 3, some (.tv (.v (.slice 3 (.int .i64)) v0_0 .no)))]
noncomputable def L_P_spec_TopOf_0 (f_spec_Hash : (List Int) → Int) (f_spec_l10Up : (List Int) → (List Int)) (g_spec_l10Up : (List Int) → Bool) (n m : Nat) : St → Option Ret := loopOf tab sigs (OP_spec_TopOf f_spec_Hash f_spec_l10Up g_spec_l10Up) A_spec_TopOf Try.f102 [((.int .i64), .no)] n (fun _ => 0) 0 m
noncomputable def L_spec_TopOf_0 (n m : Nat) : St → Option Ret := L_P_spec_TopOf_0 N.spec_Hash N.spec_l10Up G.spec_l10Up n m
theorem bP_spec_TopOf_0 (f_spec_Hash : (List Int) → Int) (f_spec_l10Up : (List Int) → (List Int)) (g_spec_l10Up : (List Int) → Bool) (n m : Nat) (v0_0 : (List Int)) : L_P_spec_TopOf_0 f_spec_Hash f_spec_l10Up g_spec_l10Up n (m + 1) (S_spec_TopOf_0 v0_0) = spec_TopOf_P_L0 f_spec_Hash f_spec_l10Up g_spec_l10Up (fun r0 => some [⟨(.int .i64), r0⟩]) (fun v0_0 => L_P_spec_TopOf_0 f_spec_Hash f_spec_l10Up g_spec_l10Up n m (S_spec_TopOf_0 v0_0)) v0_0 := by kernel_rfl
theorem b_spec_TopOf_0 (n m : Nat) (v0_0 : (List Int)) : L_spec_TopOf_0 n (m + 1) (S_spec_TopOf_0 v0_0) = spec_TopOf_L0 (fun r0 => some [⟨(.int .i64), r0⟩]) (fun v0_0 => L_spec_TopOf_0 n m (S_spec_TopOf_0 v0_0)) v0_0 := bP_spec_TopOf_0 N.spec_Hash N.spec_l10Up G.spec_l10Up n m v0_0
theorem aP_spec_TopOf (f_spec_Hash : (List Int) → Int) (f_spec_l10Up : (List Int) → (List Int)) (g_spec_l10Up : (List Int) → Bool) (n : Nat) (a0 : (List Int)) : absF tab sigs (OP_spec_TopOf f_spec_Hash f_spec_l10Up g_spec_l10Up) A_spec_TopOf Try.f102 [((.int .i64), .no)] n [.val (.slice 3 (.int .i64)) a0] = spec_TopOf_P f_spec_Hash f_spec_l10Up g_spec_l10Up (fun r0 => some [⟨(.int .i64), r0⟩]) (fun v0_0 => L_P_spec_TopOf_0 f_spec_Hash f_spec_l10Up g_spec_l10Up n n (S_spec_TopOf_0 v0_0)) a0 := by kernel_rfl
theorem a_spec_TopOf (n : Nat) (a0 : (List Int)) : absF tab sigs O_spec_TopOf A_spec_TopOf Try.f102 [((.int .i64), .no)] n [.val (.slice 3 (.int .i64)) a0] = spec_TopOf (fun r0 => some [⟨(.int .i64), r0⟩]) (fun v0_0 => L_spec_TopOf_0 n n (S_spec_TopOf_0 v0_0)) a0 := aP_spec_TopOf N.spec_Hash N.spec_l10Up G.spec_l10Up n a0
theorem said_spec_TopOf (a0 : (List Int)) (g : G.spec_TopOf a0 = true) : Said Try.prog sigs_102 102 [.val (.slice 3 (.int .i64)) a0] [⟨(.int .i64), N.spec_TopOf a0⟩] := said_len (T := tab) (A := A_spec_TopOf) tabOk ok_spec_TopOf tabOk.follows Try.func102 (by kernel_rfl) (by kernel_rfl) (fun hl => let ⟨n, hn⟩ := spec_TopOf_ok (ρ := Ret) (fun r0 => some [⟨(.int .i64), r0⟩]) a0 hl.1 g; ⟨n, (a_spec_TopOf n a0).trans (hn n (Nat.le_refl n) (fun  m v0_0 => L_spec_TopOf_0 n  m (S_spec_TopOf_0 v0_0)) (fun  m v0_0 => b_spec_TopOf_0 n  m v0_0))⟩)
/-! spec.l10Root -/
abbrev N.spec_l10Root (n top : Int) : Int := rootFrom n top
def spec_l10Root {ρ : Type} (k : Int → Option ρ) (a0 : Int) (a1 : Int) : Option ρ := (k (N.spec_Hash [(231 : Int), a0, a1]))
theorem spec_l10Root_ok {ρ : Type} (k : Int → Option ρ) (a0 : Int) (a1 : Int) : spec_l10Root k  a0 a1 = k (N.spec_l10Root a0 a1) := by
  rfl
def OP_spec_l10Root (f_spec_Hash : (List Int) → Int) : Orac := (orcX 79 [.val (.slice 3 (.int .i64))] (fun d => true) (fun d => [⟨(.int .i64), f_spec_Hash d.1⟩]) nilO)
def O_spec_l10Root : Orac := OP_spec_l10Root N.spec_Hash
def spec_l10Root_P {ρ : Type} (f_spec_Hash : (List Int) → Int) (k : Int → Option ρ) (a0 : Int) (a1 : Int) : Option ρ := (k (f_spec_Hash [(231 : Int), a0, a1]))
theorem ok_spec_l10Root : OracOk Try.prog sigs O_spec_l10Root := (orcX_ok rfl rfl (fun d g => said_spec_Hash d.1) nilO_ok)
def A_spec_l10Root : Ann := fun b => ⟨[], []⟩
theorem aP_spec_l10Root (f_spec_Hash : (List Int) → Int) (n : Nat) (a0 : Int) (a1 : Int) : absF tab sigs (OP_spec_l10Root f_spec_Hash) A_spec_l10Root Try.f101 [((.int .i64), .no)] n [.val (.int .i64) a0, .val (.int .i64) a1] = spec_l10Root_P f_spec_Hash (fun r0 => some [⟨(.int .i64), r0⟩])  a0 a1 := by kernel_rfl
theorem a_spec_l10Root (n : Nat) (a0 : Int) (a1 : Int) : absF tab sigs O_spec_l10Root A_spec_l10Root Try.f101 [((.int .i64), .no)] n [.val (.int .i64) a0, .val (.int .i64) a1] = spec_l10Root (fun r0 => some [⟨(.int .i64), r0⟩])  a0 a1 := aP_spec_l10Root N.spec_Hash n a0 a1
theorem said_spec_l10Root (a0 : Int) (a1 : Int) : Said Try.prog sigs_101 101 [.val (.int .i64) a0, .val (.int .i64) a1] [⟨(.int .i64), N.spec_l10Root a0 a1⟩] := said_len (T := tab) (A := A_spec_l10Root) tabOk ok_spec_l10Root tabOk.follows Try.func101 (by kernel_rfl) (by kernel_rfl) (fun hl => ⟨0, (a_spec_l10Root 0 a0 a1).trans (spec_l10Root_ok (ρ := Ret) (fun r0 => some [⟨(.int .i64), r0⟩]) a0 a1)⟩)
/-! spec.RootOf -/
abbrev G.spec_RootOf (l : List TEntry) : Bool := decide (wEs l ≤ 1048576)
abbrev N.spec_RootOf (l : List TEntry) : Int := rootOf l
def spec_RootOf {ρ : Type} (k : Int → Option ρ) (a0 : (List TEntry)) : Option ρ := (cond (G.spec_LeavesOf a0) (cond (G.spec_TopOf (N.spec_LeavesOf a0)) (k (N.spec_l10Root (List.length a0 : Int) (N.spec_TopOf (N.spec_LeavesOf a0)))) none) none)
theorem spec_RootOf_ok {ρ : Type} (k : Int → Option ρ) (a0 : (List TEntry)) (l_a0 : lnL (fun y => (True ∧ (True ∧ (True ∧ lnL (fun _ => True) y.2.2.2)))) a0) (g : G.spec_RootOf a0 = true) : spec_RootOf k  a0 = k (N.spec_RootOf a0) := by
  unfold G.spec_RootOf at g
  have hw : wEs a0 ≤ 1048576 := of_decide_eq_true g
  have hl : decide ((a0.map leafOf).length ≤ 1048576) = true := by unfold wEs at hw; simp; omega
  show cond (decide (wEs a0 ≤ 1048576)) (cond (decide ((a0.map leafOf).length ≤ 1048576)) _ none) none = _
  rw [g, hl]
  rfl
def OP_spec_RootOf (f_spec_LeavesOf : (List TEntry) → (List Int)) (g_spec_LeavesOf : (List TEntry) → Bool) (f_spec_TopOf : (List Int) → Int) (g_spec_TopOf : (List Int) → Bool) (f_spec_l10Root : Int → Int → Int) : Orac := (orcX 101 [.val (.int .i64), .val (.int .i64)] (fun d => true) (fun d => [⟨(.int .i64), f_spec_l10Root d.1 d.2.1⟩]) (orcX 102 [.val (.slice 3 (.int .i64))] (fun d => g_spec_TopOf d.1) (fun d => [⟨(.int .i64), f_spec_TopOf d.1⟩]) (orcX 103 [.val (.slice 89 TyEntry)] (fun d => g_spec_LeavesOf d.1) (fun d => [⟨(.slice 3 (.int .i64)), f_spec_LeavesOf d.1⟩]) nilO)))
def O_spec_RootOf : Orac := OP_spec_RootOf N.spec_LeavesOf G.spec_LeavesOf N.spec_TopOf G.spec_TopOf N.spec_l10Root
def spec_RootOf_P {ρ : Type} (f_spec_LeavesOf : (List TEntry) → (List Int)) (g_spec_LeavesOf : (List TEntry) → Bool) (f_spec_TopOf : (List Int) → Int) (g_spec_TopOf : (List Int) → Bool) (f_spec_l10Root : Int → Int → Int) (k : Int → Option ρ) (a0 : (List TEntry)) : Option ρ := (cond (g_spec_LeavesOf a0) (cond (g_spec_TopOf (f_spec_LeavesOf a0)) (k (f_spec_l10Root (List.length a0 : Int) (f_spec_TopOf (f_spec_LeavesOf a0)))) none) none)
theorem ok_spec_RootOf : OracOk Try.prog sigs O_spec_RootOf := (orcX_ok rfl rfl (fun d g => said_spec_l10Root d.1 d.2.1) (orcX_ok rfl rfl (fun d g => said_spec_TopOf d.1 g) (orcX_ok rfl rfl (fun d g => said_spec_LeavesOf d.1 g) nilO_ok)))
def A_spec_RootOf : Ann := fun b => ⟨[], []⟩
theorem aP_spec_RootOf (f_spec_LeavesOf : (List TEntry) → (List Int)) (g_spec_LeavesOf : (List TEntry) → Bool) (f_spec_TopOf : (List Int) → Int) (g_spec_TopOf : (List Int) → Bool) (f_spec_l10Root : Int → Int → Int) (n : Nat) (a0 : (List TEntry)) : absF tab sigs (OP_spec_RootOf f_spec_LeavesOf g_spec_LeavesOf f_spec_TopOf g_spec_TopOf f_spec_l10Root) A_spec_RootOf Try.f67 [((.int .i64), .no)] n [.val (.slice 89 TyEntry) a0] = spec_RootOf_P f_spec_LeavesOf g_spec_LeavesOf f_spec_TopOf g_spec_TopOf f_spec_l10Root (fun r0 => some [⟨(.int .i64), r0⟩])  a0 := by kernel_rfl
theorem a_spec_RootOf (n : Nat) (a0 : (List TEntry)) : absF tab sigs O_spec_RootOf A_spec_RootOf Try.f67 [((.int .i64), .no)] n [.val (.slice 89 TyEntry) a0] = spec_RootOf (fun r0 => some [⟨(.int .i64), r0⟩])  a0 := aP_spec_RootOf N.spec_LeavesOf G.spec_LeavesOf N.spec_TopOf G.spec_TopOf N.spec_l10Root n a0
theorem said_spec_RootOf (a0 : (List TEntry)) (g : G.spec_RootOf a0 = true) : Said Try.prog sigs_67 67 [.val (.slice 89 TyEntry) a0] [⟨(.int .i64), N.spec_RootOf a0⟩] := said_len (T := tab) (A := A_spec_RootOf) tabOk ok_spec_RootOf tabOk.follows Try.func67 (by kernel_rfl) (by kernel_rfl) (fun hl => ⟨0, (a_spec_RootOf 0 a0).trans (spec_RootOf_ok (ρ := Ret) (fun r0 => some [⟨(.int .i64), r0⟩]) a0 hl.1 g)⟩)
/-! spec.l6Copy -/
abbrev G.spec_l6Copy (a : TKeys) : Bool := decide (wK a ≤ 1048576)
abbrev N.spec_l6Copy (a : TKeys) : TKeys := a
def spec_l6Copy {ρ : Type} (k : TKeys → Option ρ) (a0 : TKeys) : Option ρ := (cond (fit (List.length ([] : (List Int))) (List.length a0.1)) (k ((List.append ([] : (List Int)) a0.1), a0.2)) none)
theorem spec_l6Copy_ok {ρ : Type} (k : TKeys → Option ρ) (a0 : TKeys) (l_a0 : (lnL (fun _ => True) a0.1 ∧ True)) (g : G.spec_l6Copy a0 = true) : spec_l6Copy k  a0 = k (N.spec_l6Copy a0) := by
  unfold G.spec_l6Copy at g
  have h : wK a0 ≤ 1048576 := of_decide_eq_true g
  have h1 : fit (List.length ([] : List Int)) (List.length a0.1) = true := fit_of (by unfold wK at h; simp; omega)
  unfold spec_l6Copy
  rw [h1]
  rfl
def O_spec_l6Copy : Orac := nilO
theorem ok_spec_l6Copy : OracOk Try.prog sigs O_spec_l6Copy := nilO_ok
def A_spec_l6Copy : Ann := fun b => ⟨[], []⟩
theorem a_spec_l6Copy (n : Nat) (a0 : TKeys) : absF tab sigs O_spec_l6Copy A_spec_l6Copy Try.f54 [((.pair (.slice 3 (.int .i64)) (.int .i64)), (.pair (.own 0) .no))] n [.val (.pair (.slice 3 (.int .i64)) (.int .i64)) a0] = spec_l6Copy (fun r0 => some [⟨(.pair (.slice 3 (.int .i64)) (.int .i64)), r0⟩])  a0 := by kernel_rfl
theorem said_spec_l6Copy (a0 : TKeys) (g : G.spec_l6Copy a0 = true) : Said Try.prog sigs_54 54 [.val (.pair (.slice 3 (.int .i64)) (.int .i64)) a0] [⟨(.pair (.slice 3 (.int .i64)) (.int .i64)), N.spec_l6Copy a0⟩] := said_len (T := tab) (A := A_spec_l6Copy) tabOk ok_spec_l6Copy tabOk.follows Try.func54 (by kernel_rfl) (by kernel_rfl) (fun hl => ⟨0, (a_spec_l6Copy 0 a0).trans (spec_l6Copy_ok (ρ := Ret) (fun r0 => some [⟨(.pair (.slice 3 (.int .i64)) (.int .i64)), r0⟩]) a0 hl.1 g)⟩)
/-! spec.IsKeys -/
abbrev N.spec_IsKeys (k : TKeys) : Bool := isKeys k
def spec_IsKeys_L0 {ρ : Type} (k : Bool → Option ρ) (L0 : Int → TKeys → Option ρ) (v0_0 : Int) (v0_1 : TKeys) : Option ρ := (cond (decide (v0_0 < (List.length v0_1.1 : Int))) (cond (inRange v0_0 (List.length v0_1.1)) (cond (!(N.spec_l1In (List.getD v0_1.1 (Int.toNat v0_0) (0 : Int)) (1 : Int) (99 : Int))) (k false) (cond (decide (v0_0 > (0 : Int))) (cond (inRange (IntKind.wrap .i64 (v0_0 - (1 : Int))) (List.length v0_1.1)) (cond (inRange v0_0 (List.length v0_1.1)) (cond (decide ((List.getD v0_1.1 (Int.toNat (IntKind.wrap .i64 (v0_0 - (1 : Int)))) (0 : Int)) ≥ (List.getD v0_1.1 (Int.toNat v0_0) (0 : Int)))) (k false) (L0 (IntKind.wrap .i64 (v0_0 + (1 : Int))) v0_1)) none) none) (L0 (IntKind.wrap .i64 (v0_0 + (1 : Int))) v0_1))) none) (cond (N.spec_l1In (List.length v0_1.1 : Int) (1 : Int) (4 : Int)) (k (N.spec_l1In v0_1.2 (1 : Int) (List.length v0_1.1 : Int))) (k false)))
def spec_IsKeys {ρ : Type} (k : Bool → Option ρ) (L0 : Int → TKeys → Option ρ) (a0 : TKeys) : Option ρ := (L0 (0 : Int) a0)
theorem spec_IsKeys_ok {ρ : Type} (k : Bool → Option ρ) (a0 : TKeys) (l_a0 : (lnL (fun _ => True) a0.1 ∧ True)) : ∃ n0, ∀ n, n0 ≤ n → ∀ (L0 : Nat → Int → TKeys → Option ρ) (h0 : ∀ ( m : Nat) (v0_0 : Int) (v0_1 : TKeys), L0 (m + 1) v0_0 v0_1 = spec_IsKeys_L0 k (L0 m) v0_0 v0_1), spec_IsKeys k (L0 n) a0 = k (N.spec_IsKeys a0) := by
  refine ⟨a0.1.length + 1, fun n hn L0 h0 => ?_⟩
  have hb : a0.1.length ≤ 9223372036854775807 := l_a0.1.1
  have hrun := raw_run0 (σ := Unit) (s := ()) (L := fun m i _ => L0 m i a0) (R := fun i _ c => spec_IsKeys_L0 k (fun i _ => c i ()) i a0) (fun m i s => h0 m i a0) a0.1.length (fun _ _ => True) (fun j _ => cond (keysFrom a0.1 (a0.1.length - j) j) (k (inR a0.1.length 1 4 && inR a0.2 1 a0.1.length)) (k false)) (fun j s c hj _ hc => ?_) (fun s c _ => ?_) hn trivial
  · refine hrun.trans ?_
    show _ = k (isKeys a0)
    rw [Nat.sub_zero, isKeys_eq]
    cases keysFrom a0.1 a0.1.length 0 <;> simp
  · obtain ⟨m, hm⟩ : ∃ m, a0.1.length - j = m + 1 := ⟨a0.1.length - j - 1, by omega⟩
    have hm2 : a0.1.length - (j + 1) = m := by omega
    have hc' := hc () trivial
    rw [hm2] at hc'
    rw [hm]
    unfold keysFrom
    by_cases h0j : j = 0
    · subst h0j
      simp only [spec_IsKeys_L0, lt_nat, inRange_nat, decide_eq_true hj, cond_true, Int.toNat_natCast, N.spec_l1In, wrap_succ (j := 0) (by unfold big; omega), hc', isKey]
      cases inR (a0.1.getD 0 0) 1 99 <;> simp
    · have e1 : decide ((j : Int) > 0) = true := by simp; omega
      have e2 : IntKind.wrap .i64 ((j : Int) - 1) = ((j - 1 : Nat) : Int) := by rw [wrap_id (by omega) (by omega)]; omega
      have e3 : j - 1 < a0.1.length := by omega
      have e4 : decide (a0.1.getD (j - 1) 0 ≥ a0.1.getD j 0) = !decide (a0.1.getD (j - 1) 0 < a0.1.getD j 0) := by rw [← decide_not]; simp
      simp only [spec_IsKeys_L0, lt_nat, inRange_nat, decide_eq_true hj, cond_true, Int.toNat_natCast, N.spec_l1In, e1, e2, e4, decide_eq_true e3, wrap_succ (j := j) (by unfold big; omega), hc', decide_eq_false h0j, isKey]
      cases inR (a0.1.getD j 0) 1 99 <;> cases decide (a0.1.getD (j - 1) 0 < a0.1.getD j 0) <;> simp
  · rw [Nat.sub_self]
    simp only [spec_IsKeys_L0, keysFrom, lt_nat, Nat.lt_irrefl, decide_false, cond_false, cond_true, N.spec_l1In]
    cases inR (a0.1.length : Int) 1 4 <;> rfl
def OP_spec_IsKeys (f_spec_l1In : Int → Int → Int → Bool) : Orac := (orcX 65 [.val (.int .i64), .val (.int .i64), .val (.int .i64)] (fun d => true) (fun d => [⟨.bool, f_spec_l1In d.1 d.2.1 d.2.2.1⟩]) nilO)
def O_spec_IsKeys : Orac := OP_spec_IsKeys N.spec_l1In
def spec_IsKeys_P_L0 {ρ : Type} (f_spec_l1In : Int → Int → Int → Bool) (k : Bool → Option ρ) (L0 : Int → TKeys → Option ρ) (v0_0 : Int) (v0_1 : TKeys) : Option ρ := (cond (decide (v0_0 < (List.length v0_1.1 : Int))) (cond (inRange v0_0 (List.length v0_1.1)) (cond (!(f_spec_l1In (List.getD v0_1.1 (Int.toNat v0_0) (0 : Int)) (1 : Int) (99 : Int))) (k false) (cond (decide (v0_0 > (0 : Int))) (cond (inRange (IntKind.wrap .i64 (v0_0 - (1 : Int))) (List.length v0_1.1)) (cond (inRange v0_0 (List.length v0_1.1)) (cond (decide ((List.getD v0_1.1 (Int.toNat (IntKind.wrap .i64 (v0_0 - (1 : Int)))) (0 : Int)) ≥ (List.getD v0_1.1 (Int.toNat v0_0) (0 : Int)))) (k false) (L0 (IntKind.wrap .i64 (v0_0 + (1 : Int))) v0_1)) none) none) (L0 (IntKind.wrap .i64 (v0_0 + (1 : Int))) v0_1))) none) (cond (f_spec_l1In (List.length v0_1.1 : Int) (1 : Int) (4 : Int)) (k (f_spec_l1In v0_1.2 (1 : Int) (List.length v0_1.1 : Int))) (k false)))
def spec_IsKeys_P {ρ : Type} (f_spec_l1In : Int → Int → Int → Bool) (k : Bool → Option ρ) (L0 : Int → TKeys → Option ρ) (a0 : TKeys) : Option ρ := (L0 (0 : Int) a0)
theorem ok_spec_IsKeys : OracOk Try.prog sigs O_spec_IsKeys := (orcX_ok rfl rfl (fun d g => said_spec_l1In d.1 d.2.1 d.2.2.1) nilO_ok)
def A_spec_IsKeys : Ann := fun b => cond (Nat.beq b 0) ⟨[(1, false), (3, false)], [(1, false)]⟩ (⟨[], []⟩)
def S_spec_IsKeys_0 (v0_0 : Int) (v0_1 : TKeys) : St := [(kT 1, some (.tv (.box 1 []))), (kT 3, some (.tv (.v (.int .i64) v0_0 .no))), (kB 1, some (.box (.pair (.slice 3 (.int .i64)) (.int .i64)) v0_1 .no))]
noncomputable def L_P_spec_IsKeys_0 (f_spec_l1In : Int → Int → Int → Bool) (n m : Nat) : St → Option Ret := loopOf tab sigs (OP_spec_IsKeys f_spec_l1In) A_spec_IsKeys Try.f77 [(.bool, .no)] n (fun _ => 0) 0 m
noncomputable def L_spec_IsKeys_0 (n m : Nat) : St → Option Ret := L_P_spec_IsKeys_0 N.spec_l1In n m
theorem bP_spec_IsKeys_0 (f_spec_l1In : Int → Int → Int → Bool) (n m : Nat) (v0_0 : Int) (v0_1 : TKeys) : L_P_spec_IsKeys_0 f_spec_l1In n (m + 1) (S_spec_IsKeys_0 v0_0 v0_1) = spec_IsKeys_P_L0 f_spec_l1In (fun r0 => some [⟨.bool, r0⟩]) (fun v0_0 v0_1 => L_P_spec_IsKeys_0 f_spec_l1In n m (S_spec_IsKeys_0 v0_0 v0_1)) v0_0 v0_1 := by kernel_rfl
theorem b_spec_IsKeys_0 (n m : Nat) (v0_0 : Int) (v0_1 : TKeys) : L_spec_IsKeys_0 n (m + 1) (S_spec_IsKeys_0 v0_0 v0_1) = spec_IsKeys_L0 (fun r0 => some [⟨.bool, r0⟩]) (fun v0_0 v0_1 => L_spec_IsKeys_0 n m (S_spec_IsKeys_0 v0_0 v0_1)) v0_0 v0_1 := bP_spec_IsKeys_0 N.spec_l1In n m v0_0 v0_1
theorem aP_spec_IsKeys (f_spec_l1In : Int → Int → Int → Bool) (n : Nat) (a0 : TKeys) : absF tab sigs (OP_spec_IsKeys f_spec_l1In) A_spec_IsKeys Try.f77 [(.bool, .no)] n [.val (.pair (.slice 3 (.int .i64)) (.int .i64)) a0] = spec_IsKeys_P f_spec_l1In (fun r0 => some [⟨.bool, r0⟩]) (fun v0_0 v0_1 => L_P_spec_IsKeys_0 f_spec_l1In n n (S_spec_IsKeys_0 v0_0 v0_1)) a0 := by kernel_rfl
theorem a_spec_IsKeys (n : Nat) (a0 : TKeys) : absF tab sigs O_spec_IsKeys A_spec_IsKeys Try.f77 [(.bool, .no)] n [.val (.pair (.slice 3 (.int .i64)) (.int .i64)) a0] = spec_IsKeys (fun r0 => some [⟨.bool, r0⟩]) (fun v0_0 v0_1 => L_spec_IsKeys_0 n n (S_spec_IsKeys_0 v0_0 v0_1)) a0 := aP_spec_IsKeys N.spec_l1In n a0
theorem said_spec_IsKeys (a0 : TKeys) : Said Try.prog sigs_77 77 [.val (.pair (.slice 3 (.int .i64)) (.int .i64)) a0] [⟨.bool, N.spec_IsKeys a0⟩] := said_len (T := tab) (A := A_spec_IsKeys) tabOk ok_spec_IsKeys tabOk.follows Try.func77 (by kernel_rfl) (by kernel_rfl) (fun hl => let ⟨n, hn⟩ := spec_IsKeys_ok (ρ := Ret) (fun r0 => some [⟨.bool, r0⟩]) a0 hl.1; ⟨n, (a_spec_IsKeys n a0).trans (hn n (Nat.le_refl n) (fun  m v0_0 v0_1 => L_spec_IsKeys_0 n  m (S_spec_IsKeys_0 v0_0 v0_1)) (fun  m v0_0 v0_1 => b_spec_IsKeys_0 n  m v0_0 v0_1))⟩)
/-! spec.NoKeys -/
abbrev N.spec_NoKeys (k : TKeys) : Bool := noKeys k
def spec_NoKeys {ρ : Type} (k : Bool → Option ρ) (a0 : TKeys) : Option ρ := (cond (a0.2 == (0 : Int)) (k ((List.length a0.1 : Int) == (0 : Int))) (k false))
theorem spec_NoKeys_ok {ρ : Type} (k : Bool → Option ρ) (a0 : TKeys) (l_a0 : (lnL (fun _ => True) a0.1 ∧ True)) : spec_NoKeys k  a0 = k (N.spec_NoKeys a0) := by
  simp only [spec_NoKeys, N.spec_NoKeys, noKeys]
  cases a0.2 == 0 <;> rfl
def O_spec_NoKeys : Orac := nilO
theorem ok_spec_NoKeys : OracOk Try.prog sigs O_spec_NoKeys := nilO_ok
def A_spec_NoKeys : Ann := fun b => ⟨[], []⟩
theorem a_spec_NoKeys (n : Nat) (a0 : TKeys) : absF tab sigs O_spec_NoKeys A_spec_NoKeys Try.f78 [(.bool, .no)] n [.val (.pair (.slice 3 (.int .i64)) (.int .i64)) a0] = spec_NoKeys (fun r0 => some [⟨.bool, r0⟩])  a0 := by kernel_rfl
theorem said_spec_NoKeys (a0 : TKeys) : Said Try.prog sigs_78 78 [.val (.pair (.slice 3 (.int .i64)) (.int .i64)) a0] [⟨.bool, N.spec_NoKeys a0⟩] := said_len (T := tab) (A := A_spec_NoKeys) tabOk ok_spec_NoKeys tabOk.follows Try.func78 (by kernel_rfl) (by kernel_rfl) (fun hl => ⟨0, (a_spec_NoKeys 0 a0).trans (spec_NoKeys_ok (ρ := Ret) (fun r0 => some [⟨.bool, r0⟩]) a0 hl.1)⟩)
/-! spec.IsHead -/
abbrev N.spec_IsHead (h : THead) : Bool := isHead h
def spec_IsHead {ρ : Type} (k : Bool → Option ρ) (a0 : THead) : Option ρ := (cond (!(N.spec_l1In a0.1 (0 : Int) (2147483646 : Int))) (k false) (cond (!(N.spec_l1In a0.2.2.2.2.2.2.1 (0 : Int) (2147483646 : Int))) (k false) (cond (!(N.spec_l1In a0.2.2.2.2.2.2.2.1 (0 : Int) (2147483646 : Int))) (k false) (cond (!(N.spec_l1In a0.2.1 (0 : Int) (200 : Int))) (k false) (cond (!(N.spec_l1In a0.2.2.1 (1 : Int) (3 : Int))) (k false) (cond (!(N.spec_l1In a0.2.2.2.1 (0 : Int) (100000 : Int))) (k false) (cond (!(N.spec_l1In a0.2.2.2.2.1 a0.2.2.2.1 (100000 : Int))) (k false) (cond (decide ((IntKind.wrap .i64 (a0.2.2.2.2.1 - a0.2.2.2.1)) > (200 : Int))) (k false) (cond (!(N.spec_l1In a0.2.2.2.2.2.1 (0 : Int) (12 : Int))) (k false) (cond (!(N.spec_IsKeys a0.2.2.2.2.2.2.2.2.1)) (k false) (cond (N.spec_NoKeys a0.2.2.2.2.2.2.2.2.2.1) (cond (a0.2.2.2.2.2.2.2.2.2.2.1 != (0 : Int)) (k false) (cond (N.spec_IsKeys a0.2.2.2.2.2.2.2.2.2.2.2.1) (k true) (cond (N.spec_NoKeys a0.2.2.2.2.2.2.2.2.2.2.2.1) (k (!a0.2.2.2.2.2.2.2.2.2.2.2.2)) (k false)))) (cond (!(N.spec_IsKeys a0.2.2.2.2.2.2.2.2.2.1)) (k false) (cond (!(N.spec_l1In a0.2.2.2.2.2.2.2.2.2.2.1 (1 : Int) (500 : Int))) (k false) (cond (N.spec_IsKeys a0.2.2.2.2.2.2.2.2.2.2.2.1) (k true) (cond (N.spec_NoKeys a0.2.2.2.2.2.2.2.2.2.2.2.1) (k (!a0.2.2.2.2.2.2.2.2.2.2.2.2)) (k false))))))))))))))))
theorem spec_IsHead_ok {ρ : Type} (k : Bool → Option ρ) (a0 : THead) (l_a0 : (lenT TyHead a0)) : spec_IsHead k  a0 = k (N.spec_IsHead a0) := by
  have e1 : ∀ x : Bool, (cond (decide (IntKind.wrap .i64 (a0.2.2.2.2.1 - a0.2.2.2.1) > 200)) (k false) (k x)) = k (decide (IntKind.wrap .i64 (a0.2.2.2.2.1 - a0.2.2.2.1) ≤ 200) && x) := by
    intro x
    by_cases h : IntKind.wrap .i64 (a0.2.2.2.2.1 - a0.2.2.2.1) ≤ 200
    · rw [decide_eq_true h, decide_eq_false (by omega)]; rfl
    · rw [decide_eq_false h, decide_eq_true (by omega)]; rfl
  have e2 : decide (IntKind.wrap .i64 (a0.2.2.2.2.1 - a0.2.2.2.1) > 200) = !decide (IntKind.wrap .i64 (a0.2.2.2.2.1 - a0.2.2.2.1) ≤ 200) := by rw [← decide_not]; simp only [decide_eq_decide]; omega
  have e3 : (inR a0.2.2.2.1 0 100000 && (inR a0.2.2.2.2.1 a0.2.2.2.1 100000 && decide (IntKind.wrap .i64 (a0.2.2.2.2.1 - a0.2.2.2.1) ≤ 200))) = isSpan a0 := by
    unfold inR isSpan
    by_cases h1 : 0 ≤ a0.2.2.2.1 <;> by_cases h2 : a0.2.2.2.1 ≤ a0.2.2.2.2.1 <;> by_cases h3 : a0.2.2.2.2.1 ≤ 100000 <;> simp [h1, h2, h3]
    omega
  simp only [spec_IsHead, N.spec_l1In, N.spec_IsKeys, N.spec_NoKeys, N.spec_IsHead, isHead, ← e3, e2, isDigest, isMaybe, isWait, bne]
  cases inR a0.1 0 2147483646
  · rfl
  cases inR a0.2.2.2.2.2.2.1 0 2147483646
  · rfl
  cases inR a0.2.2.2.2.2.2.2.1 0 2147483646
  · rfl
  cases inR a0.2.1 0 200
  · rfl
  cases inR a0.2.2.1 1 3
  · rfl
  cases inR a0.2.2.2.1 0 100000
  · rfl
  cases inR a0.2.2.2.2.1 a0.2.2.2.1 100000
  · rfl
  cases decide (IntKind.wrap .i64 (a0.2.2.2.2.1 - a0.2.2.2.1) ≤ 200)
  · rfl
  cases inR a0.2.2.2.2.2.1 0 12
  · rfl
  cases isKeys a0.2.2.2.2.2.2.2.2.1
  · rfl
  cases noKeys a0.2.2.2.2.2.2.2.2.2.1 <;> cases isKeys a0.2.2.2.2.2.2.2.2.2.1 <;> cases a0.2.2.2.2.2.2.2.2.2.2.1 == 0 <;> cases inR a0.2.2.2.2.2.2.2.2.2.2.1 1 500 <;> cases h1 : isKeys a0.2.2.2.2.2.2.2.2.2.2.2.1 <;> cases h2 : noKeys a0.2.2.2.2.2.2.2.2.2.2.2.1 <;> cases a0.2.2.2.2.2.2.2.2.2.2.2.2 <;> first | rfl | exact (keys_not_both h1 h2).elim
def OP_spec_IsHead (f_spec_l1In : Int → Int → Int → Bool) (f_spec_IsKeys : TKeys → Bool) (f_spec_NoKeys : TKeys → Bool) : Orac := (orcX 78 [.val (.pair (.slice 3 (.int .i64)) (.int .i64))] (fun d => true) (fun d => [⟨.bool, f_spec_NoKeys d.1⟩]) (orcX 77 [.val (.pair (.slice 3 (.int .i64)) (.int .i64))] (fun d => true) (fun d => [⟨.bool, f_spec_IsKeys d.1⟩]) (orcX 65 [.val (.int .i64), .val (.int .i64), .val (.int .i64)] (fun d => true) (fun d => [⟨.bool, f_spec_l1In d.1 d.2.1 d.2.2.1⟩]) nilO)))
def O_spec_IsHead : Orac := OP_spec_IsHead N.spec_l1In N.spec_IsKeys N.spec_NoKeys
def spec_IsHead_P {ρ : Type} (f_spec_l1In : Int → Int → Int → Bool) (f_spec_IsKeys : TKeys → Bool) (f_spec_NoKeys : TKeys → Bool) (k : Bool → Option ρ) (a0 : THead) : Option ρ := (cond (!(f_spec_l1In a0.1 (0 : Int) (2147483646 : Int))) (k false) (cond (!(f_spec_l1In a0.2.2.2.2.2.2.1 (0 : Int) (2147483646 : Int))) (k false) (cond (!(f_spec_l1In a0.2.2.2.2.2.2.2.1 (0 : Int) (2147483646 : Int))) (k false) (cond (!(f_spec_l1In a0.2.1 (0 : Int) (200 : Int))) (k false) (cond (!(f_spec_l1In a0.2.2.1 (1 : Int) (3 : Int))) (k false) (cond (!(f_spec_l1In a0.2.2.2.1 (0 : Int) (100000 : Int))) (k false) (cond (!(f_spec_l1In a0.2.2.2.2.1 a0.2.2.2.1 (100000 : Int))) (k false) (cond (decide ((IntKind.wrap .i64 (a0.2.2.2.2.1 - a0.2.2.2.1)) > (200 : Int))) (k false) (cond (!(f_spec_l1In a0.2.2.2.2.2.1 (0 : Int) (12 : Int))) (k false) (cond (!(f_spec_IsKeys a0.2.2.2.2.2.2.2.2.1)) (k false) (cond (f_spec_NoKeys a0.2.2.2.2.2.2.2.2.2.1) (cond (a0.2.2.2.2.2.2.2.2.2.2.1 != (0 : Int)) (k false) (cond (f_spec_IsKeys a0.2.2.2.2.2.2.2.2.2.2.2.1) (k true) (cond (f_spec_NoKeys a0.2.2.2.2.2.2.2.2.2.2.2.1) (k (!a0.2.2.2.2.2.2.2.2.2.2.2.2)) (k false)))) (cond (!(f_spec_IsKeys a0.2.2.2.2.2.2.2.2.2.1)) (k false) (cond (!(f_spec_l1In a0.2.2.2.2.2.2.2.2.2.2.1 (1 : Int) (500 : Int))) (k false) (cond (f_spec_IsKeys a0.2.2.2.2.2.2.2.2.2.2.2.1) (k true) (cond (f_spec_NoKeys a0.2.2.2.2.2.2.2.2.2.2.2.1) (k (!a0.2.2.2.2.2.2.2.2.2.2.2.2)) (k false))))))))))))))))
theorem ok_spec_IsHead : OracOk Try.prog sigs O_spec_IsHead := (orcX_ok rfl rfl (fun d g => said_spec_NoKeys d.1) (orcX_ok rfl rfl (fun d g => said_spec_IsKeys d.1) (orcX_ok rfl rfl (fun d g => said_spec_l1In d.1 d.2.1 d.2.2.1) nilO_ok)))
def A_spec_IsHead : Ann := fun b => ⟨[], []⟩
theorem aP_spec_IsHead (f_spec_l1In : Int → Int → Int → Bool) (f_spec_IsKeys : TKeys → Bool) (f_spec_NoKeys : TKeys → Bool) (n : Nat) (a0 : THead) : absF tab sigs (OP_spec_IsHead f_spec_l1In f_spec_IsKeys f_spec_NoKeys) A_spec_IsHead Try.f40 [(.bool, .no)] n [.val TyHead a0] = spec_IsHead_P f_spec_l1In f_spec_IsKeys f_spec_NoKeys (fun r0 => some [⟨.bool, r0⟩])  a0 := by kernel_rfl
theorem a_spec_IsHead (n : Nat) (a0 : THead) : absF tab sigs O_spec_IsHead A_spec_IsHead Try.f40 [(.bool, .no)] n [.val TyHead a0] = spec_IsHead (fun r0 => some [⟨.bool, r0⟩])  a0 := aP_spec_IsHead N.spec_l1In N.spec_IsKeys N.spec_NoKeys n a0
theorem said_spec_IsHead (a0 : THead) : Said Try.prog sigs_40 40 [.val TyHead a0] [⟨.bool, N.spec_IsHead a0⟩] := said_len (T := tab) (A := A_spec_IsHead) tabOk ok_spec_IsHead tabOk.follows Try.func40 (by kernel_rfl) (by kernel_rfl) (fun hl => ⟨0, (a_spec_IsHead 0 a0).trans (spec_IsHead_ok (ρ := Ret) (fun r0 => some [⟨.bool, r0⟩]) a0 hl.1)⟩)
/-! spec.FirstHead -/
abbrev G.spec_FirstHead (k : TKeys) (salt : Int) (l : List TEntry) (a b : Int) : Bool := decide (wK k ≤ 1048576) && decide (wEs l ≤ 1048576)
abbrev N.spec_FirstHead (k : TKeys) (salt : Int) (l : List TEntry) (a b : Int) : THead × Bool := firstHead k salt l a b
def spec_FirstHead {ρ : Type} (k : THead → Bool → Option ρ) (a0 : TKeys) (a1 : Int) (a2 : (List TEntry)) (a3 : Int) (a4 : Int) : Option ρ := (cond (G.spec_AreEntries a2) (cond (!(N.spec_AreEntries a2)) (k ((0 : Int), ((0 : Int), ((0 : Int), ((0 : Int), ((0 : Int), ((0 : Int), ((0 : Int), ((0 : Int), (([], (0 : Int)), (([], (0 : Int)), ((0 : Int), (([], (0 : Int)), false)))))))))))) false) (cond (!(N.spec_l1In a3 (0 : Int) (100000 : Int))) (k ((0 : Int), ((0 : Int), ((0 : Int), ((0 : Int), ((0 : Int), ((0 : Int), ((0 : Int), ((0 : Int), (([], (0 : Int)), (([], (0 : Int)), ((0 : Int), (([], (0 : Int)), false)))))))))))) false) (cond (!(N.spec_l1In a4 (0 : Int) (200 : Int))) (k ((0 : Int), ((0 : Int), ((0 : Int), ((0 : Int), ((0 : Int), ((0 : Int), ((0 : Int), ((0 : Int), (([], (0 : Int)), (([], (0 : Int)), ((0 : Int), (([], (0 : Int)), false)))))))))))) false) (cond (G.spec_ZoneOf a0 a1) (cond (G.spec_RootOf a2) (cond (G.spec_l6Copy a0) (cond (!(N.spec_IsHead ((N.spec_ZoneOf a0 a1), ((0 : Int), ((1 : Int), (a3, ((IntKind.wrap .i64 (a3 + a4)), ((List.length a2 : Int), ((N.spec_RootOf a2), (a1, ((N.spec_l6Copy a0), ((([] : (List Int)), (0 : Int)), ((0 : Int), ((([] : (List Int)), (0 : Int)), false)))))))))))))) (k ((0 : Int), ((0 : Int), ((0 : Int), ((0 : Int), ((0 : Int), ((0 : Int), ((0 : Int), ((0 : Int), (([], (0 : Int)), (([], (0 : Int)), ((0 : Int), (([], (0 : Int)), false)))))))))))) false) (k ((N.spec_ZoneOf a0 a1), ((0 : Int), ((1 : Int), (a3, ((IntKind.wrap .i64 (a3 + a4)), ((List.length a2 : Int), ((N.spec_RootOf a2), (a1, ((N.spec_l6Copy a0), (([], (0 : Int)), ((0 : Int), (([], (0 : Int)), false)))))))))))) true)) none) none) none)))) none)
theorem spec_FirstHead_ok {ρ : Type} (k : THead → Bool → Option ρ) (a0 : TKeys) (a1 : Int) (a2 : (List TEntry)) (a3 : Int) (a4 : Int) (l_a0 : (lnL (fun _ => True) a0.1 ∧ True)) (l_a2 : lnL (fun y => (True ∧ (True ∧ (True ∧ lnL (fun _ => True) y.2.2.2)))) a2) (g : G.spec_FirstHead a0 a1 a2 a3 a4 = true) : spec_FirstHead k  a0 a1 a2 a3 a4 = k (N.spec_FirstHead a0 a1 a2 a3 a4).1 (N.spec_FirstHead a0 a1 a2 a3 a4).2 := by
  unfold G.spec_FirstHead at g
  obtain ⟨g1, g2⟩ := (Bool.and_eq_true _ _).mp g
  simp only [spec_FirstHead, G.spec_AreEntries, N.spec_AreEntries, N.spec_l1In, G.spec_ZoneOf, N.spec_ZoneOf, G.spec_RootOf, N.spec_RootOf, G.spec_l6Copy, N.spec_l6Copy, N.spec_IsHead, g1, g2, cond_true]
  show cond (!(areEntries a2)) (k zeroHead false) (cond (!(inR a3 0 100000)) (k zeroHead false) (cond (!(inR a4 0 200)) (k zeroHead false) (cond (!(isHead (headOf a0 a1 a2 a3 (IntKind.wrap .i64 (a3 + a4))))) (k zeroHead false) (k (headOf a0 a1 a2 a3 (IntKind.wrap .i64 (a3 + a4))) true)))) = k (firstHead a0 a1 a2 a3 a4).1 (firstHead a0 a1 a2 a3 a4).2
  unfold firstHead
  cases areEntries a2 <;> cases inR a3 0 100000 <;> cases inR a4 0 200 <;> cases isHead (headOf a0 a1 a2 a3 (IntKind.wrap .i64 (a3 + a4))) <;> rfl
def OP_spec_FirstHead (f_spec_AreEntries : (List TEntry) → Bool) (g_spec_AreEntries : (List TEntry) → Bool) (f_spec_l1In : Int → Int → Int → Bool) (f_spec_ZoneOf : TKeys → Int → Int) (g_spec_ZoneOf : TKeys → Int → Bool) (f_spec_RootOf : (List TEntry) → Int) (g_spec_RootOf : (List TEntry) → Bool) (f_spec_l6Copy : TKeys → TKeys) (g_spec_l6Copy : TKeys → Bool) (f_spec_IsHead : THead → Bool) : Orac := (orcX 40 [.val TyHead] (fun d => true) (fun d => [⟨.bool, f_spec_IsHead d.1⟩]) (orcX 54 [.val (.pair (.slice 3 (.int .i64)) (.int .i64))] (fun d => g_spec_l6Copy d.1) (fun d => [⟨(.pair (.slice 3 (.int .i64)) (.int .i64)), f_spec_l6Copy d.1⟩]) (orcX 67 [.val (.slice 89 TyEntry)] (fun d => g_spec_RootOf d.1) (fun d => [⟨(.int .i64), f_spec_RootOf d.1⟩]) (orcX 66 [.val (.pair (.slice 3 (.int .i64)) (.int .i64)), .val (.int .i64)] (fun d => g_spec_ZoneOf d.1 d.2.1) (fun d => [⟨(.int .i64), f_spec_ZoneOf d.1 d.2.1⟩]) (orcX 65 [.val (.int .i64), .val (.int .i64), .val (.int .i64)] (fun d => true) (fun d => [⟨.bool, f_spec_l1In d.1 d.2.1 d.2.2.1⟩]) (orcX 64 [.val (.slice 89 TyEntry)] (fun d => g_spec_AreEntries d.1) (fun d => [⟨.bool, f_spec_AreEntries d.1⟩]) nilO))))))
def O_spec_FirstHead : Orac := OP_spec_FirstHead N.spec_AreEntries G.spec_AreEntries N.spec_l1In N.spec_ZoneOf G.spec_ZoneOf N.spec_RootOf G.spec_RootOf N.spec_l6Copy G.spec_l6Copy N.spec_IsHead
def spec_FirstHead_P {ρ : Type} (f_spec_AreEntries : (List TEntry) → Bool) (g_spec_AreEntries : (List TEntry) → Bool) (f_spec_l1In : Int → Int → Int → Bool) (f_spec_ZoneOf : TKeys → Int → Int) (g_spec_ZoneOf : TKeys → Int → Bool) (f_spec_RootOf : (List TEntry) → Int) (g_spec_RootOf : (List TEntry) → Bool) (f_spec_l6Copy : TKeys → TKeys) (g_spec_l6Copy : TKeys → Bool) (f_spec_IsHead : THead → Bool) (k : THead → Bool → Option ρ) (a0 : TKeys) (a1 : Int) (a2 : (List TEntry)) (a3 : Int) (a4 : Int) : Option ρ := (cond (g_spec_AreEntries a2) (cond (!(f_spec_AreEntries a2)) (k ((0 : Int), ((0 : Int), ((0 : Int), ((0 : Int), ((0 : Int), ((0 : Int), ((0 : Int), ((0 : Int), (([], (0 : Int)), (([], (0 : Int)), ((0 : Int), (([], (0 : Int)), false)))))))))))) false) (cond (!(f_spec_l1In a3 (0 : Int) (100000 : Int))) (k ((0 : Int), ((0 : Int), ((0 : Int), ((0 : Int), ((0 : Int), ((0 : Int), ((0 : Int), ((0 : Int), (([], (0 : Int)), (([], (0 : Int)), ((0 : Int), (([], (0 : Int)), false)))))))))))) false) (cond (!(f_spec_l1In a4 (0 : Int) (200 : Int))) (k ((0 : Int), ((0 : Int), ((0 : Int), ((0 : Int), ((0 : Int), ((0 : Int), ((0 : Int), ((0 : Int), (([], (0 : Int)), (([], (0 : Int)), ((0 : Int), (([], (0 : Int)), false)))))))))))) false) (cond (g_spec_ZoneOf a0 a1) (cond (g_spec_RootOf a2) (cond (g_spec_l6Copy a0) (cond (!(f_spec_IsHead ((f_spec_ZoneOf a0 a1), ((0 : Int), ((1 : Int), (a3, ((IntKind.wrap .i64 (a3 + a4)), ((List.length a2 : Int), ((f_spec_RootOf a2), (a1, ((f_spec_l6Copy a0), ((([] : (List Int)), (0 : Int)), ((0 : Int), ((([] : (List Int)), (0 : Int)), false)))))))))))))) (k ((0 : Int), ((0 : Int), ((0 : Int), ((0 : Int), ((0 : Int), ((0 : Int), ((0 : Int), ((0 : Int), (([], (0 : Int)), (([], (0 : Int)), ((0 : Int), (([], (0 : Int)), false)))))))))))) false) (k ((f_spec_ZoneOf a0 a1), ((0 : Int), ((1 : Int), (a3, ((IntKind.wrap .i64 (a3 + a4)), ((List.length a2 : Int), ((f_spec_RootOf a2), (a1, ((f_spec_l6Copy a0), (([], (0 : Int)), ((0 : Int), (([], (0 : Int)), false)))))))))))) true)) none) none) none)))) none)
theorem ok_spec_FirstHead : OracOk Try.prog sigs O_spec_FirstHead := (orcX_ok rfl rfl (fun d g => said_spec_IsHead d.1) (orcX_ok rfl rfl (fun d g => said_spec_l6Copy d.1 g) (orcX_ok rfl rfl (fun d g => said_spec_RootOf d.1 g) (orcX_ok rfl rfl (fun d g => said_spec_ZoneOf d.1 d.2.1 g) (orcX_ok rfl rfl (fun d g => said_spec_l1In d.1 d.2.1 d.2.2.1) (orcX_ok rfl rfl (fun d g => said_spec_AreEntries d.1 g) nilO_ok))))))
def A_spec_FirstHead : Ann := fun b => ⟨[], []⟩
theorem aP_spec_FirstHead (f_spec_AreEntries : (List TEntry) → Bool) (g_spec_AreEntries : (List TEntry) → Bool) (f_spec_l1In : Int → Int → Int → Bool) (f_spec_ZoneOf : TKeys → Int → Int) (g_spec_ZoneOf : TKeys → Int → Bool) (f_spec_RootOf : (List TEntry) → Int) (g_spec_RootOf : (List TEntry) → Bool) (f_spec_l6Copy : TKeys → TKeys) (g_spec_l6Copy : TKeys → Bool) (f_spec_IsHead : THead → Bool) (n : Nat) (a0 : TKeys) (a1 : Int) (a2 : (List TEntry)) (a3 : Int) (a4 : Int) : absF tab sigs (OP_spec_FirstHead f_spec_AreEntries g_spec_AreEntries f_spec_l1In f_spec_ZoneOf g_spec_ZoneOf f_spec_RootOf g_spec_RootOf f_spec_l6Copy g_spec_l6Copy f_spec_IsHead) A_spec_FirstHead Try.f32 [(TyHead, (.pair .no (.pair .no (.pair .no (.pair .no (.pair .no (.pair .no (.pair .no (.pair .no (.pair (.pair (.own 0) .no) (.pair (.pair (.own 1) .no) (.pair .no (.pair (.pair (.own 2) .no) .no))))))))))))), (.bool, .no)] n [.val (.pair (.slice 3 (.int .i64)) (.int .i64)) a0, .val (.int .i64) a1, .val (.slice 89 TyEntry) a2, .val (.int .i64) a3, .val (.int .i64) a4] = spec_FirstHead_P f_spec_AreEntries g_spec_AreEntries f_spec_l1In f_spec_ZoneOf g_spec_ZoneOf f_spec_RootOf g_spec_RootOf f_spec_l6Copy g_spec_l6Copy f_spec_IsHead (fun r0 r1 => some [⟨TyHead, r0⟩, ⟨.bool, r1⟩])  a0 a1 a2 a3 a4 := by kernel_rfl
theorem a_spec_FirstHead (n : Nat) (a0 : TKeys) (a1 : Int) (a2 : (List TEntry)) (a3 : Int) (a4 : Int) : absF tab sigs O_spec_FirstHead A_spec_FirstHead Try.f32 [(TyHead, (.pair .no (.pair .no (.pair .no (.pair .no (.pair .no (.pair .no (.pair .no (.pair .no (.pair (.pair (.own 0) .no) (.pair (.pair (.own 1) .no) (.pair .no (.pair (.pair (.own 2) .no) .no))))))))))))), (.bool, .no)] n [.val (.pair (.slice 3 (.int .i64)) (.int .i64)) a0, .val (.int .i64) a1, .val (.slice 89 TyEntry) a2, .val (.int .i64) a3, .val (.int .i64) a4] = spec_FirstHead (fun r0 r1 => some [⟨TyHead, r0⟩, ⟨.bool, r1⟩])  a0 a1 a2 a3 a4 := aP_spec_FirstHead N.spec_AreEntries G.spec_AreEntries N.spec_l1In N.spec_ZoneOf G.spec_ZoneOf N.spec_RootOf G.spec_RootOf N.spec_l6Copy G.spec_l6Copy N.spec_IsHead n a0 a1 a2 a3 a4
theorem said_spec_FirstHead (a0 : TKeys) (a1 : Int) (a2 : (List TEntry)) (a3 : Int) (a4 : Int) (g : G.spec_FirstHead a0 a1 a2 a3 a4 = true) : Said Try.prog sigs_32 32 [.val (.pair (.slice 3 (.int .i64)) (.int .i64)) a0, .val (.int .i64) a1, .val (.slice 89 TyEntry) a2, .val (.int .i64) a3, .val (.int .i64) a4] [⟨TyHead, (N.spec_FirstHead a0 a1 a2 a3 a4).1⟩, ⟨.bool, (N.spec_FirstHead a0 a1 a2 a3 a4).2⟩] := said_len (T := tab) (A := A_spec_FirstHead) tabOk ok_spec_FirstHead tabOk.follows Try.func32 (by kernel_rfl) (by kernel_rfl) (fun hl => ⟨0, (a_spec_FirstHead 0 a0 a1 a2 a3 a4).trans (spec_FirstHead_ok (ρ := Ret) (fun r0 r1 => some [⟨TyHead, r0⟩, ⟨.bool, r1⟩]) a0 a1 a2 a3 a4 hl.1 hl.2.2.1 g)⟩)
/-! impl.KeysInts -/
abbrev G.impl_KeysInts (k : TKeys) : Bool := decide (wK k ≤ 1048576)
abbrev N.impl_KeysInts (k : TKeys) : List Int := keysInts k
def impl_KeysInts {ρ : Type} (k : (List Int) → Option ρ) (a0 : TKeys) : Option ρ := (cond (fit (List.length [a0.2, (List.length a0.1 : Int)]) (List.length a0.1)) (k (List.append [a0.2, (List.length a0.1 : Int)] a0.1)) none)
theorem impl_KeysInts_ok {ρ : Type} (k : (List Int) → Option ρ) (a0 : TKeys) (l_a0 : (lnL (fun _ => True) a0.1 ∧ True)) (g : G.impl_KeysInts a0 = true) : impl_KeysInts k  a0 = k (N.impl_KeysInts a0) := by
  unfold G.impl_KeysInts at g
  have h : wK a0 ≤ 1048576 := of_decide_eq_true g
  have h1 : fit (List.length [a0.2, (List.length a0.1 : Int)]) (List.length a0.1) = true := fit_of (by
    unfold wK at h
    simp
    omega)
  show cond _ _ none = _
  rw [h1]
  rfl
def O_impl_KeysInts : Orac := nilO
theorem ok_impl_KeysInts : OracOk Try.prog sigs O_impl_KeysInts := nilO_ok
def A_impl_KeysInts : Ann := fun b => ⟨[], []⟩
theorem a_impl_KeysInts (n : Nat) (a0 : TKeys) : absF tab sigs O_impl_KeysInts A_impl_KeysInts Try.f106 [((.slice 3 (.int .i64)), (.own 0))] n [.val (.pair (.slice 3 (.int .i64)) (.int .i64)) a0] = impl_KeysInts (fun r0 => some [⟨(.slice 3 (.int .i64)), r0⟩])  a0 := by kernel_rfl
theorem said_impl_KeysInts (a0 : TKeys) (g : G.impl_KeysInts a0 = true) : Said Try.prog sigs_106 106 [.val (.pair (.slice 3 (.int .i64)) (.int .i64)) a0] [⟨(.slice 3 (.int .i64)), N.impl_KeysInts a0⟩] := said_len (T := tab) (A := A_impl_KeysInts) tabOk ok_impl_KeysInts tabOk.follows Try.func106 (by kernel_rfl) (by kernel_rfl) (fun hl => ⟨0, (a_impl_KeysInts 0 a0).trans (impl_KeysInts_ok (ρ := Ret) (fun r0 => some [⟨(.slice 3 (.int .i64)), r0⟩]) a0 hl.1 g)⟩)
/-! impl.InRange -/
abbrev N.impl_InRange (n lo hi : Int) : Bool := inR n lo hi
def impl_InRange {ρ : Type} (k : Bool → Option ρ) (a0 : Int) (a1 : Int) (a2 : Int) : Option ρ := (cond (decide (a1 ≤ a0)) (k (decide (a0 ≤ a2))) (k false))
theorem impl_InRange_ok {ρ : Type} (k : Bool → Option ρ) (a0 : Int) (a1 : Int) (a2 : Int) : impl_InRange k  a0 a1 a2 = k (N.impl_InRange a0 a1 a2) := by
  simp only [impl_InRange, inR]
  cases decide (a1 ≤ a0) <;> rfl
def O_impl_InRange : Orac := nilO
theorem ok_impl_InRange : OracOk Try.prog sigs O_impl_InRange := nilO_ok
def A_impl_InRange : Ann := fun b => ⟨[], []⟩
theorem a_impl_InRange (n : Nat) (a0 : Int) (a1 : Int) (a2 : Int) : absF tab sigs O_impl_InRange A_impl_InRange Try.f86 [(.bool, .no)] n [.val (.int .i64) a0, .val (.int .i64) a1, .val (.int .i64) a2] = impl_InRange (fun r0 => some [⟨.bool, r0⟩])  a0 a1 a2 := by kernel_rfl
theorem said_impl_InRange (a0 : Int) (a1 : Int) (a2 : Int) : Said Try.prog sigs_86 86 [.val (.int .i64) a0, .val (.int .i64) a1, .val (.int .i64) a2] [⟨.bool, N.impl_InRange a0 a1 a2⟩] := said_len (T := tab) (A := A_impl_InRange) tabOk ok_impl_InRange tabOk.follows Try.func86 (by kernel_rfl) (by kernel_rfl) (fun hl => ⟨0, (a_impl_InRange 0 a0 a1 a2).trans (impl_InRange_ok (ρ := Ret) (fun r0 => some [⟨.bool, r0⟩]) a0 a1 a2)⟩)
/-! impl.Mod -/
abbrev N.impl_Mod (n m : Int) : Int := modM n m
def impl_Mod {ρ : Type} (k : Int → Option ρ) (a0 : Int) (a1 : Int) : Option ρ := (cond (!(N.impl_InRange a1 (1 : Int) (1000000000000 : Int))) (k (0 : Int)) (cond (!(decide (a1 = 0))) (cond (!(decide (a1 = 0))) (k (Int.tmod (IntKind.wrap .i64 ((Int.tmod a0 a1) + a1)) a1)) none) none))
theorem impl_Mod_ok {ρ : Type} (k : Int → Option ρ) (a0 : Int) (a1 : Int) : impl_Mod k  a0 a1 = k (N.impl_Mod a0 a1) := by
  simp only [impl_Mod, N.impl_InRange, modM]
  cases h : inR a1 1 1000000000000
  · rfl
  · have h1 : 1 ≤ a1 := by
      unfold inR at h
      simp only [Bool.and_eq_true, decide_eq_true_eq] at h
      exact h.1
    have h2 : decide (a1 = 0) = false := by simp; omega
    simp [h2]
def OP_impl_Mod (f_impl_InRange : Int → Int → Int → Bool) : Orac := (orcX 86 [.val (.int .i64), .val (.int .i64), .val (.int .i64)] (fun d => true) (fun d => [⟨.bool, f_impl_InRange d.1 d.2.1 d.2.2.1⟩]) nilO)
def O_impl_Mod : Orac := OP_impl_Mod N.impl_InRange
def impl_Mod_P {ρ : Type} (f_impl_InRange : Int → Int → Int → Bool) (k : Int → Option ρ) (a0 : Int) (a1 : Int) : Option ρ := (cond (!(f_impl_InRange a1 (1 : Int) (1000000000000 : Int))) (k (0 : Int)) (cond (!(decide (a1 = 0))) (cond (!(decide (a1 = 0))) (k (Int.tmod (IntKind.wrap .i64 ((Int.tmod a0 a1) + a1)) a1)) none) none))
theorem ok_impl_Mod : OracOk Try.prog sigs O_impl_Mod := (orcX_ok rfl rfl (fun d g => said_impl_InRange d.1 d.2.1 d.2.2.1) nilO_ok)
def A_impl_Mod : Ann := fun b => ⟨[], []⟩
theorem aP_impl_Mod (f_impl_InRange : Int → Int → Int → Bool) (n : Nat) (a0 : Int) (a1 : Int) : absF tab sigs (OP_impl_Mod f_impl_InRange) A_impl_Mod Try.f125 [((.int .i64), .no)] n [.val (.int .i64) a0, .val (.int .i64) a1] = impl_Mod_P f_impl_InRange (fun r0 => some [⟨(.int .i64), r0⟩])  a0 a1 := by kernel_rfl
theorem a_impl_Mod (n : Nat) (a0 : Int) (a1 : Int) : absF tab sigs O_impl_Mod A_impl_Mod Try.f125 [((.int .i64), .no)] n [.val (.int .i64) a0, .val (.int .i64) a1] = impl_Mod (fun r0 => some [⟨(.int .i64), r0⟩])  a0 a1 := aP_impl_Mod N.impl_InRange n a0 a1
theorem said_impl_Mod (a0 : Int) (a1 : Int) : Said Try.prog sigs_125 125 [.val (.int .i64) a0, .val (.int .i64) a1] [⟨(.int .i64), N.impl_Mod a0 a1⟩] := said_len (T := tab) (A := A_impl_Mod) tabOk ok_impl_Mod tabOk.follows Try.func125 (by kernel_rfl) (by kernel_rfl) (fun hl => ⟨0, (a_impl_Mod 0 a0 a1).trans (impl_Mod_ok (ρ := Ret) (fun r0 => some [⟨(.int .i64), r0⟩]) a0 a1)⟩)
/-! impl.Hash -/
abbrev N.impl_Hash (l : List Int) : Int := hash l
def impl_Hash_L0 {ρ : Type} (k : Int → Option ρ) (L0 : Int → (List Int) → Int → Int → Option ρ) (v0_0 : Int) (v0_1 : (List Int)) (v0_2 : Int) (v0_3 : Int) : Option ρ := (cond (decide (v0_3 < v0_2)) (cond (inRange v0_3 (List.length v0_1)) (L0 (Int.tmod (IntKind.wrap .i64 ((IntKind.wrap .i64 ((IntKind.wrap .i64 (v0_0 * (1000003 : Int))) + (N.impl_Mod (List.getD v0_1 (Int.toNat v0_3) (0 : Int)) (2147483647 : Int)))) + (13 : Int))) (2147483647 : Int)) v0_1 v0_2 (IntKind.wrap .i64 (v0_3 + (1 : Int)))) none) (k v0_0))
def impl_Hash {ρ : Type} (k : Int → Option ρ) (L0 : Int → (List Int) → Int → Int → Option ρ) (a0 : (List Int)) : Option ρ := (L0 (11 : Int) a0 (List.length a0 : Int) (0 : Int))
theorem impl_Hash_ok {ρ : Type} (k : Int → Option ρ) (a0 : (List Int)) (l_a0 : lnL (fun _ => True) a0) : ∃ n0, ∀ n, n0 ≤ n → ∀ (L0 : Nat → Int → (List Int) → Int → Int → Option ρ) (h0 : ∀ ( m : Nat) (v0_0 : Int) (v0_1 : (List Int)) (v0_2 : Int) (v0_3 : Int), L0 (m + 1) v0_0 v0_1 v0_2 v0_3 = impl_Hash_L0 k (L0 m) v0_0 v0_1 v0_2 v0_3), impl_Hash k (L0 n) a0 = k (N.impl_Hash a0) := by
  refine ⟨a0.length + 1, fun n hn L0 h0 => ?_⟩
  refine raw_foldl (a := a0) 0 hashStep (k := k) (L := fun m i s => L0 m s a0 (a0.length : Int) i) (R := fun i s c => impl_Hash_L0 k (fun s _ _ i => c i s) s a0 (a0.length : Int) i) (fun m i s => h0 m s a0 (a0.length : Int) i) (fun _ _ => True) (fun j s c hj _ => ?_) (fun _ _ _ _ => trivial) (fun s c => ?_) hn trivial
  · have : j < big := by have := l_a0.1; omega
    simp [impl_Hash_L0, lt_nat, inRange_nat, hj, wrap_succ this, hashStep]
  · simp [impl_Hash_L0]
def OP_impl_Hash (f_impl_Mod : Int → Int → Int) : Orac := (orcX 125 [.val (.int .i64), .val (.int .i64)] (fun d => true) (fun d => [⟨(.int .i64), f_impl_Mod d.1 d.2.1⟩]) nilO)
def O_impl_Hash : Orac := OP_impl_Hash N.impl_Mod
def impl_Hash_P_L0 {ρ : Type} (f_impl_Mod : Int → Int → Int) (k : Int → Option ρ) (L0 : Int → (List Int) → Int → Int → Option ρ) (v0_0 : Int) (v0_1 : (List Int)) (v0_2 : Int) (v0_3 : Int) : Option ρ := (cond (decide (v0_3 < v0_2)) (cond (inRange v0_3 (List.length v0_1)) (L0 (Int.tmod (IntKind.wrap .i64 ((IntKind.wrap .i64 ((IntKind.wrap .i64 (v0_0 * (1000003 : Int))) + (f_impl_Mod (List.getD v0_1 (Int.toNat v0_3) (0 : Int)) (2147483647 : Int)))) + (13 : Int))) (2147483647 : Int)) v0_1 v0_2 (IntKind.wrap .i64 (v0_3 + (1 : Int)))) none) (k v0_0))
def impl_Hash_P {ρ : Type} (f_impl_Mod : Int → Int → Int) (k : Int → Option ρ) (L0 : Int → (List Int) → Int → Int → Option ρ) (a0 : (List Int)) : Option ρ := (L0 (11 : Int) a0 (List.length a0 : Int) (0 : Int))
theorem ok_impl_Hash : OracOk Try.prog sigs O_impl_Hash := (orcX_ok rfl rfl (fun d g => said_impl_Mod d.1 d.2.1) nilO_ok)
def A_impl_Hash : Ann := fun b => cond (Nat.beq b 0) ⟨[(3, false), (6, false), (7, false), (8, false)], []⟩ (⟨[], []⟩)
def S_impl_Hash_0 (v0_0 : Int) (v0_1 : (List Int)) (v0_2 : Int) (v0_3 : Int) : St := [(kT 3, some (.tv (.v (.int .i64) v0_0 .no))), (kT 6, some (.tv (.v (.slice 3 (.int .i64)) v0_1 .no))), (kT 7, some (.tv (.v (.int .i64) v0_2 .no))), (kT 8, some (.tv (.v (.int .i64) v0_3 .no)))]
noncomputable def L_P_impl_Hash_0 (f_impl_Mod : Int → Int → Int) (n m : Nat) : St → Option Ret := loopOf tab sigs (OP_impl_Hash f_impl_Mod) A_impl_Hash Try.f105 [((.int .i64), .no)] n (fun _ => 0) 0 m
noncomputable def L_impl_Hash_0 (n m : Nat) : St → Option Ret := L_P_impl_Hash_0 N.impl_Mod n m
theorem bP_impl_Hash_0 (f_impl_Mod : Int → Int → Int) (n m : Nat) (v0_0 : Int) (v0_1 : (List Int)) (v0_2 : Int) (v0_3 : Int) : L_P_impl_Hash_0 f_impl_Mod n (m + 1) (S_impl_Hash_0 v0_0 v0_1 v0_2 v0_3) = impl_Hash_P_L0 f_impl_Mod (fun r0 => some [⟨(.int .i64), r0⟩]) (fun v0_0 v0_1 v0_2 v0_3 => L_P_impl_Hash_0 f_impl_Mod n m (S_impl_Hash_0 v0_0 v0_1 v0_2 v0_3)) v0_0 v0_1 v0_2 v0_3 := by kernel_rfl
theorem b_impl_Hash_0 (n m : Nat) (v0_0 : Int) (v0_1 : (List Int)) (v0_2 : Int) (v0_3 : Int) : L_impl_Hash_0 n (m + 1) (S_impl_Hash_0 v0_0 v0_1 v0_2 v0_3) = impl_Hash_L0 (fun r0 => some [⟨(.int .i64), r0⟩]) (fun v0_0 v0_1 v0_2 v0_3 => L_impl_Hash_0 n m (S_impl_Hash_0 v0_0 v0_1 v0_2 v0_3)) v0_0 v0_1 v0_2 v0_3 := bP_impl_Hash_0 N.impl_Mod n m v0_0 v0_1 v0_2 v0_3
theorem aP_impl_Hash (f_impl_Mod : Int → Int → Int) (n : Nat) (a0 : (List Int)) : absF tab sigs (OP_impl_Hash f_impl_Mod) A_impl_Hash Try.f105 [((.int .i64), .no)] n [.val (.slice 3 (.int .i64)) a0] = impl_Hash_P f_impl_Mod (fun r0 => some [⟨(.int .i64), r0⟩]) (fun v0_0 v0_1 v0_2 v0_3 => L_P_impl_Hash_0 f_impl_Mod n n (S_impl_Hash_0 v0_0 v0_1 v0_2 v0_3)) a0 := by kernel_rfl
theorem a_impl_Hash (n : Nat) (a0 : (List Int)) : absF tab sigs O_impl_Hash A_impl_Hash Try.f105 [((.int .i64), .no)] n [.val (.slice 3 (.int .i64)) a0] = impl_Hash (fun r0 => some [⟨(.int .i64), r0⟩]) (fun v0_0 v0_1 v0_2 v0_3 => L_impl_Hash_0 n n (S_impl_Hash_0 v0_0 v0_1 v0_2 v0_3)) a0 := aP_impl_Hash N.impl_Mod n a0
theorem said_impl_Hash (a0 : (List Int)) : Said Try.prog sigs_105 105 [.val (.slice 3 (.int .i64)) a0] [⟨(.int .i64), N.impl_Hash a0⟩] := said_len (T := tab) (A := A_impl_Hash) tabOk ok_impl_Hash tabOk.follows Try.func105 (by kernel_rfl) (by kernel_rfl) (fun hl => let ⟨n, hn⟩ := impl_Hash_ok (ρ := Ret) (fun r0 => some [⟨(.int .i64), r0⟩]) a0 hl.1; ⟨n, (a_impl_Hash n a0).trans (hn n (Nat.le_refl n) (fun  m v0_0 v0_1 v0_2 v0_3 => L_impl_Hash_0 n  m (S_impl_Hash_0 v0_0 v0_1 v0_2 v0_3)) (fun  m v0_0 v0_1 v0_2 v0_3 => b_impl_Hash_0 n  m v0_0 v0_1 v0_2 v0_3))⟩)
/-! impl.ZoneOf -/
abbrev G.impl_ZoneOf (k : TKeys) (salt : Int) : Bool := decide (wK k ≤ 1048576)
abbrev N.impl_ZoneOf (k : TKeys) (salt : Int) : Int := zoneOf k salt
def impl_ZoneOf {ρ : Type} (k : Int → Option ρ) (a0 : TKeys) (a1 : Int) : Option ρ := (cond (G.impl_KeysInts a0) (cond (fit (List.length [(239 : Int), a1]) (List.length (N.impl_KeysInts a0))) (k (N.impl_Hash (List.append [(239 : Int), a1] (N.impl_KeysInts a0)))) none) none)
theorem impl_ZoneOf_ok {ρ : Type} (k : Int → Option ρ) (a0 : TKeys) (a1 : Int) (l_a0 : (lnL (fun _ => True) a0.1 ∧ True)) (g : G.impl_ZoneOf a0 a1 = true) : impl_ZoneOf k  a0 a1 = k (N.impl_ZoneOf a0 a1) := by
  unfold G.impl_ZoneOf at g
  have h : wK a0 ≤ 1048576 := of_decide_eq_true g
  have h1 : fit (List.length [(239 : Int), a1]) (List.length (keysInts a0)) = true := fit_of (by
    rw [keysInts_len]
    simp
    omega)
  show cond (decide (wK a0 ≤ 1048576)) (cond _ _ none) none = _
  rw [g, h1]
  rfl
def OP_impl_ZoneOf (f_impl_KeysInts : TKeys → (List Int)) (g_impl_KeysInts : TKeys → Bool) (f_impl_Hash : (List Int) → Int) : Orac := (orcX 105 [.val (.slice 3 (.int .i64))] (fun d => true) (fun d => [⟨(.int .i64), f_impl_Hash d.1⟩]) (orcX 106 [.val (.pair (.slice 3 (.int .i64)) (.int .i64))] (fun d => g_impl_KeysInts d.1) (fun d => [⟨(.slice 3 (.int .i64)), f_impl_KeysInts d.1⟩]) nilO))
def O_impl_ZoneOf : Orac := OP_impl_ZoneOf N.impl_KeysInts G.impl_KeysInts N.impl_Hash
def impl_ZoneOf_P {ρ : Type} (f_impl_KeysInts : TKeys → (List Int)) (g_impl_KeysInts : TKeys → Bool) (f_impl_Hash : (List Int) → Int) (k : Int → Option ρ) (a0 : TKeys) (a1 : Int) : Option ρ := (cond (g_impl_KeysInts a0) (cond (fit (List.length [(239 : Int), a1]) (List.length (f_impl_KeysInts a0))) (k (f_impl_Hash (List.append [(239 : Int), a1] (f_impl_KeysInts a0)))) none) none)
theorem ok_impl_ZoneOf : OracOk Try.prog sigs O_impl_ZoneOf := (orcX_ok rfl rfl (fun d g => said_impl_Hash d.1) (orcX_ok rfl rfl (fun d g => said_impl_KeysInts d.1 g) nilO_ok))
def A_impl_ZoneOf : Ann := fun b => ⟨[], []⟩
theorem aP_impl_ZoneOf (f_impl_KeysInts : TKeys → (List Int)) (g_impl_KeysInts : TKeys → Bool) (f_impl_Hash : (List Int) → Int) (n : Nat) (a0 : TKeys) (a1 : Int) : absF tab sigs (OP_impl_ZoneOf f_impl_KeysInts g_impl_KeysInts f_impl_Hash) A_impl_ZoneOf Try.f70 [((.int .i64), .no)] n [.val (.pair (.slice 3 (.int .i64)) (.int .i64)) a0, .val (.int .i64) a1] = impl_ZoneOf_P f_impl_KeysInts g_impl_KeysInts f_impl_Hash (fun r0 => some [⟨(.int .i64), r0⟩])  a0 a1 := by kernel_rfl
theorem a_impl_ZoneOf (n : Nat) (a0 : TKeys) (a1 : Int) : absF tab sigs O_impl_ZoneOf A_impl_ZoneOf Try.f70 [((.int .i64), .no)] n [.val (.pair (.slice 3 (.int .i64)) (.int .i64)) a0, .val (.int .i64) a1] = impl_ZoneOf (fun r0 => some [⟨(.int .i64), r0⟩])  a0 a1 := aP_impl_ZoneOf N.impl_KeysInts G.impl_KeysInts N.impl_Hash n a0 a1
theorem said_impl_ZoneOf (a0 : TKeys) (a1 : Int) (g : G.impl_ZoneOf a0 a1 = true) : Said Try.prog sigs_70 70 [.val (.pair (.slice 3 (.int .i64)) (.int .i64)) a0, .val (.int .i64) a1] [⟨(.int .i64), N.impl_ZoneOf a0 a1⟩] := said_len (T := tab) (A := A_impl_ZoneOf) tabOk ok_impl_ZoneOf tabOk.follows Try.func70 (by kernel_rfl) (by kernel_rfl) (fun hl => ⟨0, (a_impl_ZoneOf 0 a0 a1).trans (impl_ZoneOf_ok (ρ := Ret) (fun r0 => some [⟨(.int .i64), r0⟩]) a0 a1 hl.1 g)⟩)
/-! impl.until -/
abbrev N.impl_until (a b : Int) : Int := tillM a b
def impl_until {ρ : Type} (k : Int → Option ρ) (a0 : Int) (a1 : Int) : Option ρ := (cond (!(N.impl_InRange a0 (0 : Int) (100000 : Int))) (k (100001 : Int)) (cond (!(N.impl_InRange a1 (0 : Int) (200 : Int))) (k (100001 : Int)) (k (IntKind.wrap .i64 (a0 + a1)))))
theorem impl_until_ok {ρ : Type} (k : Int → Option ρ) (a0 : Int) (a1 : Int) : impl_until k  a0 a1 = k (N.impl_until a0 a1) := by
  simp only [impl_until, N.impl_InRange, tillM, k_cond]
def OP_impl_until (f_impl_InRange : Int → Int → Int → Bool) : Orac := (orcX 86 [.val (.int .i64), .val (.int .i64), .val (.int .i64)] (fun d => true) (fun d => [⟨.bool, f_impl_InRange d.1 d.2.1 d.2.2.1⟩]) nilO)
def O_impl_until : Orac := OP_impl_until N.impl_InRange
def impl_until_P {ρ : Type} (f_impl_InRange : Int → Int → Int → Bool) (k : Int → Option ρ) (a0 : Int) (a1 : Int) : Option ρ := (cond (!(f_impl_InRange a0 (0 : Int) (100000 : Int))) (k (100001 : Int)) (cond (!(f_impl_InRange a1 (0 : Int) (200 : Int))) (k (100001 : Int)) (k (IntKind.wrap .i64 (a0 + a1)))))
theorem ok_impl_until : OracOk Try.prog sigs O_impl_until := (orcX_ok rfl rfl (fun d g => said_impl_InRange d.1 d.2.1 d.2.2.1) nilO_ok)
def A_impl_until : Ann := fun b => ⟨[], []⟩
theorem aP_impl_until (f_impl_InRange : Int → Int → Int → Bool) (n : Nat) (a0 : Int) (a1 : Int) : absF tab sigs (OP_impl_until f_impl_InRange) A_impl_until Try.f71 [((.int .i64), .no)] n [.val (.int .i64) a0, .val (.int .i64) a1] = impl_until_P f_impl_InRange (fun r0 => some [⟨(.int .i64), r0⟩])  a0 a1 := by kernel_rfl
theorem a_impl_until (n : Nat) (a0 : Int) (a1 : Int) : absF tab sigs O_impl_until A_impl_until Try.f71 [((.int .i64), .no)] n [.val (.int .i64) a0, .val (.int .i64) a1] = impl_until (fun r0 => some [⟨(.int .i64), r0⟩])  a0 a1 := aP_impl_until N.impl_InRange n a0 a1
theorem said_impl_until (a0 : Int) (a1 : Int) : Said Try.prog sigs_71 71 [.val (.int .i64) a0, .val (.int .i64) a1] [⟨(.int .i64), N.impl_until a0 a1⟩] := said_len (T := tab) (A := A_impl_until) tabOk ok_impl_until tabOk.follows Try.func71 (by kernel_rfl) (by kernel_rfl) (fun hl => ⟨0, (a_impl_until 0 a0 a1).trans (impl_until_ok (ρ := Ret) (fun r0 => some [⟨(.int .i64), r0⟩]) a0 a1)⟩)
/-! impl.BytesToInts -/
abbrev G.impl_BytesToInts (b : List Int) : Bool := decide (b.length ≤ 1048577)
abbrev N.impl_BytesToInts (b : List Int) : List Int := bytesInts b
def impl_BytesToInts_L0 {ρ : Type} (k : (List Int) → Option ρ) (L0 : (List Int) → Int → Int → (List Int) → Option ρ) (v0_0 : (List Int)) (v0_1 : Int) (v0_2 : Int) (v0_3 : (List Int)) : Option ρ := (cond (decide (v0_2 < v0_1)) (cond (inRange v0_2 (List.length v0_0)) (cond (fit (List.length v0_3) (List.length [(IntKind.wrap .i64 (List.getD v0_0 (Int.toNat v0_2) (0 : Int)))])) (L0 v0_0 v0_1 (IntKind.wrap .i64 (v0_2 + (1 : Int))) (List.append v0_3 [(IntKind.wrap .i64 (List.getD v0_0 (Int.toNat v0_2) (0 : Int)))])) none) none) (k v0_3))
def impl_BytesToInts {ρ : Type} (k : (List Int) → Option ρ) (L0 : (List Int) → Int → Int → (List Int) → Option ρ) (a0 : (List Int)) : Option ρ := (L0 a0 (List.length a0 : Int) (0 : Int) [(List.length a0 : Int)])
theorem impl_BytesToInts_ok {ρ : Type} (k : (List Int) → Option ρ) (a0 : (List Int)) (l_a0 : lnL (fun _ => True) a0) (g : G.impl_BytesToInts a0 = true) : ∃ n0, ∀ n, n0 ≤ n → ∀ (L0 : Nat → (List Int) → Int → Int → (List Int) → Option ρ) (h0 : ∀ ( m : Nat) (v0_0 : (List Int)) (v0_1 : Int) (v0_2 : Int) (v0_3 : (List Int)), L0 (m + 1) v0_0 v0_1 v0_2 v0_3 = impl_BytesToInts_L0 k (L0 m) v0_0 v0_1 v0_2 v0_3), impl_BytesToInts k (L0 n) a0 = k (N.impl_BytesToInts a0) := by
  unfold G.impl_BytesToInts at g
  have hlen : a0.length ≤ 1048577 := of_decide_eq_true g
  refine ⟨a0.length + 1, fun n hn L0 h0 => ?_⟩
  refine (raw_foldl (a := a0) 0 (fun o x => o ++ [IntKind.wrap .i64 x]) (k := k) (s := [(a0.length : Int)]) (L := fun m i s => L0 m a0 (a0.length : Int) i s) (R := fun i s c => impl_BytesToInts_L0 k (fun _ _ i s => c i s) a0 (a0.length : Int) i s) (fun m i s => h0 m a0 (a0.length : Int) i s) (fun j o => o.length ≤ j + 1) (fun j s c hj hI => ?_) (fun j s hj hI => by simp; exact hI) (fun s c => ?_) hn (by simp)).trans (by rw [foldl_app]; rfl)
  · have : j < big := by unfold big; omega
    have e3 : fit s.length 1 = true := fit_of (by omega)
    simp only [impl_BytesToInts_L0, lt_nat, inRange_nat, decide_eq_true hj, cond_true, Int.toNat_natCast, List.length_singleton, e3, wrap_succ this, List.append_eq]
  · simp [impl_BytesToInts_L0]
def O_impl_BytesToInts : Orac := nilO
theorem ok_impl_BytesToInts : OracOk Try.prog sigs O_impl_BytesToInts := nilO_ok
def A_impl_BytesToInts : Ann := fun b => cond (Nat.beq b 0) ⟨[(3, true), (9, false), (10, false), (11, false)], []⟩ (⟨[], []⟩)
def S_impl_BytesToInts_0 (v0_0 : (List Int)) (v0_1 : Int) (v0_2 : Int) (v0_3 : (List Int)) : St := [(kT 3, some (.tv (.v (.slice 3 (.int .i64)) [] (.own 24)))), (kT 9, some (.tv (.v (.slice 5 (.int .u8)) v0_0 .no))), (kT 10, some (.tv (.v (.int .i64) v0_1 .no))), (kT 11, some (.tv (.v (.int .i64) v0_2 .no))), (kR 24, some (.row 3 (.int .i64) v0_3))]
noncomputable def L_impl_BytesToInts_0 (n m : Nat) : St → Option Ret := loopOf tab sigs O_impl_BytesToInts A_impl_BytesToInts Try.f155 [((.slice 3 (.int .i64)), (.own 0))] n (fun _ => 0) 0 m
theorem b_impl_BytesToInts_0 (n m : Nat) (v0_0 : (List Int)) (v0_1 : Int) (v0_2 : Int) (v0_3 : (List Int)) : L_impl_BytesToInts_0 n (m + 1) (S_impl_BytesToInts_0 v0_0 v0_1 v0_2 v0_3) = impl_BytesToInts_L0 (fun r0 => some [⟨(.slice 3 (.int .i64)), r0⟩]) (fun v0_0 v0_1 v0_2 v0_3 => L_impl_BytesToInts_0 n m (S_impl_BytesToInts_0 v0_0 v0_1 v0_2 v0_3)) v0_0 v0_1 v0_2 v0_3 := by kernel_rfl
theorem a_impl_BytesToInts (n : Nat) (a0 : (List Int)) : absF tab sigs O_impl_BytesToInts A_impl_BytesToInts Try.f155 [((.slice 3 (.int .i64)), (.own 0))] n [.val (.slice 5 (.int .u8)) a0] = impl_BytesToInts (fun r0 => some [⟨(.slice 3 (.int .i64)), r0⟩]) (fun v0_0 v0_1 v0_2 v0_3 => L_impl_BytesToInts_0 n n (S_impl_BytesToInts_0 v0_0 v0_1 v0_2 v0_3)) a0 := by kernel_rfl
theorem said_impl_BytesToInts (a0 : (List Int)) (g : G.impl_BytesToInts a0 = true) : Said Try.prog sigs_155 155 [.val (.slice 5 (.int .u8)) a0] [⟨(.slice 3 (.int .i64)), N.impl_BytesToInts a0⟩] := said_len (T := tab) (A := A_impl_BytesToInts) tabOk ok_impl_BytesToInts tabOk.follows Try.func155 (by kernel_rfl) (by kernel_rfl) (fun hl => let ⟨n, hn⟩ := impl_BytesToInts_ok (ρ := Ret) (fun r0 => some [⟨(.slice 3 (.int .i64)), r0⟩]) a0 hl.1 g; ⟨n, (a_impl_BytesToInts n a0).trans (hn n (Nat.le_refl n) (fun  m v0_0 v0_1 v0_2 v0_3 => L_impl_BytesToInts_0 n  m (S_impl_BytesToInts_0 v0_0 v0_1 v0_2 v0_3)) (fun  m v0_0 v0_1 v0_2 v0_3 => b_impl_BytesToInts_0 n  m v0_0 v0_1 v0_2 v0_3))⟩)
end Go.Proofs.Ythcenfbfgjcikaa.Ref
