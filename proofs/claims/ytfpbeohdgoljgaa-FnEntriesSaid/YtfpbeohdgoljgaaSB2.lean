/- Functions of the program: what each computes, and that it does so.
   Conditions: as each theorem states. -/
import Derived.Test.YtfpbeohdgoljgaaSB1
set_option linter.unusedVariables false
set_option linter.unusedSimpArgs false
set_option maxRecDepth 100000
namespace Go.Proofs.Ytfpbeohdgoljgaa.Ref
open Go.RowKit Go.Proofs.YtfpbeohdgoljgaaW.PrintWords Go.Proofs.YtfpbeohdgoljgaaW.PrintLast
/-! spec.EntryInts -/
abbrev G.spec_EntryInts (e : TEntry) : Bool := decide (wE e ≤ 1048576)
abbrev N.spec_EntryInts (e : TEntry) : List Int := entryInts e
def spec_EntryInts_L0 {ρ : Type} (k : (List Int) → Option ρ) (L0 : Int → TEntry → (List Int) → Option ρ) (v0_0 : Int) (v0_1 : TEntry) (v0_2 : (List Int)) : Option ρ := (cond (decide (v0_0 < (List.length v0_1.2.2.2 : Int))) (cond (inRange v0_0 (List.length v0_1.2.2.2)) (cond (G.spec_LabelInts (List.getD v0_1.2.2.2 (Int.toNat v0_0) ByteArray.empty)) (cond (fit (List.length v0_2) (List.length (N.spec_LabelInts (List.getD v0_1.2.2.2 (Int.toNat v0_0) ByteArray.empty)))) (L0 (IntKind.wrap .i64 (v0_0 + (1 : Int))) v0_1 (List.append v0_2 (N.spec_LabelInts (List.getD v0_1.2.2.2 (Int.toNat v0_0) ByteArray.empty)))) none) none) none) (k v0_2))
def spec_EntryInts {ρ : Type} (k : (List Int) → Option ρ) (L0 : Int → TEntry → (List Int) → Option ρ) (a0 : TEntry) : Option ρ := (cond (G.spec_LabelInts a0.1) (cond (fit (List.length (N.spec_LabelInts a0.1)) (List.length [a0.2.1, a0.2.2.1, (List.length a0.2.2.2 : Int)])) (L0 (0 : Int) a0 (List.append (N.spec_LabelInts a0.1) [a0.2.1, a0.2.2.1, (List.length a0.2.2.2 : Int)])) none) none)
theorem spec_EntryInts_ok {ρ : Type} (k : (List Int) → Option ρ) (a0 : TEntry) (l_a0 : (True ∧ (True ∧ (True ∧ lnL (fun _ => True) a0.2.2.2)))) (g : G.spec_EntryInts a0 = true) : ∃ n0, ∀ n, n0 ≤ n → ∀ (L0 : Nat → Int → TEntry → (List Int) → Option ρ) (h0 : ∀ ( m : Nat) (v0_0 : Int) (v0_1 : TEntry) (v0_2 : (List Int)), L0 (m + 1) v0_0 v0_1 v0_2 = spec_EntryInts_L0 k (L0 m) v0_0 v0_1 v0_2), spec_EntryInts k (L0 n) a0 = k (N.spec_EntryInts a0) := by
  unfold G.spec_EntryInts at g
  have hw : wE a0 ≤ 1048576 := of_decide_eq_true g
  have hw2 : a0.1.size + (a0.2.2.2.length + wsum ByteArray.size a0.2.2.2) ≤ 1048576 := hw
  have g1 : decide (a0.1.size ≤ 1048576) = true := by simp; omega
  have f1 : fit (labelInts a0.1).length 3 = true := fit_of (by rw [labelInts_len]; omega)
  refine ⟨a0.2.2.2.length + 1, fun n hn L0 h0 => ?_⟩
  show cond (decide (a0.1.size ≤ 1048576)) (cond (fit (labelInts a0.1).length 3) (L0 n 0 a0 (labelInts a0.1 ++ [a0.2.1, a0.2.2.1, (a0.2.2.2.length : Int)])) none) none = k (entryInts a0)
  rw [g1, f1]
  have key := raw_run0 (σ := List Int) (L := fun m i s => L0 m i a0 s) (R := fun i s c => spec_EntryInts_L0 k (fun i _ s => c i s) i a0 s) (fun m i s => h0 m i a0 s) a0.2.2.2.length (fun j s => s.length + wP (a0.2.2.2.drop j) ≤ 4194304) (fun j s => k (s ++ (a0.2.2.2.drop j).flatMap labelInts)) (fun j s c hj hI hc => ?_) (fun s c _ => ?_) hn (s := labelInts a0.1 ++ [a0.2.1, a0.2.2.1, (a0.2.2.2.length : Int)]) (by rw [List.drop_zero, List.length_append, labelInts_len]; unfold wP; simp; omega)
  · rw [List.drop_zero] at key
    exact key
  · have hd := drop_cons ByteArray.empty hj
    have hp : wP (a0.2.2.2.drop j) = 1 + (a0.2.2.2.getD j ByteArray.empty).size + wP (a0.2.2.2.drop (j + 1)) := by
      rw [hd]
      unfold wP
      rw [List.length_cons]
      show _ + (_ + _) = _
      omega
    have hm := wsum_mem (wt := ByteArray.size) (getD_mem (d := ByteArray.empty) hj)
    have g2 : decide ((a0.2.2.2.getD j ByteArray.empty).size ≤ 1048576) = true := by simp only [decide_eq_true_eq]; omega
    have e3 : fit s.length (labelInts (a0.2.2.2.getD j ByteArray.empty)).length = true := fit_of (by rw [labelInts_len]; omega)
    have := hc (s ++ labelInts (a0.2.2.2.getD j ByteArray.empty)) (by rw [List.length_append, labelInts_len]; omega)
    simp only [spec_EntryInts_L0, lt_nat, inRange_nat, decide_eq_true hj, cond_true, Int.toNat_natCast, G.spec_LabelInts, N.spec_LabelInts, g2, e3, wrap_succ (j := j) (by unfold big; omega), List.append_eq, this]
    rw [hd]
    simp
  · simp [spec_EntryInts_L0]
def OP_spec_EntryInts (f_spec_LabelInts : ByteArray → (List Int)) (g_spec_LabelInts : ByteArray → Bool) : Orac := (orcX 52 [.val .str] (fun d => g_spec_LabelInts d.1) (fun d => [⟨(.slice 3 (.int .i64)), f_spec_LabelInts d.1⟩]) nilO)
def O_spec_EntryInts : Orac := OP_spec_EntryInts N.spec_LabelInts G.spec_LabelInts
def spec_EntryInts_P_L0 {ρ : Type} (f_spec_LabelInts : ByteArray → (List Int)) (g_spec_LabelInts : ByteArray → Bool) (k : (List Int) → Option ρ) (L0 : Int → TEntry → (List Int) → Option ρ) (v0_0 : Int) (v0_1 : TEntry) (v0_2 : (List Int)) : Option ρ := (cond (decide (v0_0 < (List.length v0_1.2.2.2 : Int))) (cond (inRange v0_0 (List.length v0_1.2.2.2)) (cond (g_spec_LabelInts (List.getD v0_1.2.2.2 (Int.toNat v0_0) ByteArray.empty)) (cond (fit (List.length v0_2) (List.length (f_spec_LabelInts (List.getD v0_1.2.2.2 (Int.toNat v0_0) ByteArray.empty)))) (L0 (IntKind.wrap .i64 (v0_0 + (1 : Int))) v0_1 (List.append v0_2 (f_spec_LabelInts (List.getD v0_1.2.2.2 (Int.toNat v0_0) ByteArray.empty)))) none) none) none) (k v0_2))
def spec_EntryInts_P {ρ : Type} (f_spec_LabelInts : ByteArray → (List Int)) (g_spec_LabelInts : ByteArray → Bool) (k : (List Int) → Option ρ) (L0 : Int → TEntry → (List Int) → Option ρ) (a0 : TEntry) : Option ρ := (cond (g_spec_LabelInts a0.1) (cond (fit (List.length (f_spec_LabelInts a0.1)) (List.length [a0.2.1, a0.2.2.1, (List.length a0.2.2.2 : Int)])) (L0 (0 : Int) a0 (List.append (f_spec_LabelInts a0.1) [a0.2.1, a0.2.2.1, (List.length a0.2.2.2 : Int)])) none) none)
theorem ok_spec_EntryInts : OracOk Try.prog sigs O_spec_EntryInts := (orcX_ok rfl rfl (fun d g => said_spec_LabelInts d.1 g) nilO_ok)
def A_spec_EntryInts : Ann := fun b => cond (Nat.beq b 0) ⟨[(1, false), (3, true), (4, false)], [(1, false)]⟩ (⟨[], []⟩)
def S_spec_EntryInts_0 (v0_0 : Int) (v0_1 : TEntry) (v0_2 : (List Int)) : St := [(kT 1, some (.tv (.box 1 []))), (kT 3, some (.tv (.v (.slice 3 (.int .i64)) [] (.own 24)))), (kT 4, some (.tv (.v (.int .i64) v0_0 .no))), (kB 1, some (.box TyEntry v0_1 .no)), (kR 24, some (.row 3 (.int .i64) v0_2))]
noncomputable def L_P_spec_EntryInts_0 (f_spec_LabelInts : ByteArray → (List Int)) (g_spec_LabelInts : ByteArray → Bool) (n m : Nat) : St → Option Ret := loopOf tab sigs (OP_spec_EntryInts f_spec_LabelInts g_spec_LabelInts) A_spec_EntryInts Try.f39 [((.slice 3 (.int .i64)), (.own 0))] n (fun _ => 0) 0 m
noncomputable def L_spec_EntryInts_0 (n m : Nat) : St → Option Ret := L_P_spec_EntryInts_0 N.spec_LabelInts G.spec_LabelInts n m
theorem bP_spec_EntryInts_0 (f_spec_LabelInts : ByteArray → (List Int)) (g_spec_LabelInts : ByteArray → Bool) (n m : Nat) (v0_0 : Int) (v0_1 : TEntry) (v0_2 : (List Int)) : L_P_spec_EntryInts_0 f_spec_LabelInts g_spec_LabelInts n (m + 1) (S_spec_EntryInts_0 v0_0 v0_1 v0_2) = spec_EntryInts_P_L0 f_spec_LabelInts g_spec_LabelInts (fun r0 => some [⟨(.slice 3 (.int .i64)), r0⟩]) (fun v0_0 v0_1 v0_2 => L_P_spec_EntryInts_0 f_spec_LabelInts g_spec_LabelInts n m (S_spec_EntryInts_0 v0_0 v0_1 v0_2)) v0_0 v0_1 v0_2 := by kernel_rfl
theorem b_spec_EntryInts_0 (n m : Nat) (v0_0 : Int) (v0_1 : TEntry) (v0_2 : (List Int)) : L_spec_EntryInts_0 n (m + 1) (S_spec_EntryInts_0 v0_0 v0_1 v0_2) = spec_EntryInts_L0 (fun r0 => some [⟨(.slice 3 (.int .i64)), r0⟩]) (fun v0_0 v0_1 v0_2 => L_spec_EntryInts_0 n m (S_spec_EntryInts_0 v0_0 v0_1 v0_2)) v0_0 v0_1 v0_2 := bP_spec_EntryInts_0 N.spec_LabelInts G.spec_LabelInts n m v0_0 v0_1 v0_2
theorem aP_spec_EntryInts (f_spec_LabelInts : ByteArray → (List Int)) (g_spec_LabelInts : ByteArray → Bool) (n : Nat) (a0 : TEntry) : absF tab sigs (OP_spec_EntryInts f_spec_LabelInts g_spec_LabelInts) A_spec_EntryInts Try.f39 [((.slice 3 (.int .i64)), (.own 0))] n [.val TyEntry a0] = spec_EntryInts_P f_spec_LabelInts g_spec_LabelInts (fun r0 => some [⟨(.slice 3 (.int .i64)), r0⟩]) (fun v0_0 v0_1 v0_2 => L_P_spec_EntryInts_0 f_spec_LabelInts g_spec_LabelInts n n (S_spec_EntryInts_0 v0_0 v0_1 v0_2)) a0 := by kernel_rfl
theorem a_spec_EntryInts (n : Nat) (a0 : TEntry) : absF tab sigs O_spec_EntryInts A_spec_EntryInts Try.f39 [((.slice 3 (.int .i64)), (.own 0))] n [.val TyEntry a0] = spec_EntryInts (fun r0 => some [⟨(.slice 3 (.int .i64)), r0⟩]) (fun v0_0 v0_1 v0_2 => L_spec_EntryInts_0 n n (S_spec_EntryInts_0 v0_0 v0_1 v0_2)) a0 := aP_spec_EntryInts N.spec_LabelInts G.spec_LabelInts n a0
theorem said_spec_EntryInts (a0 : TEntry) (g : G.spec_EntryInts a0 = true) : Said Try.prog sigs_39 39 [.val TyEntry a0] [⟨(.slice 3 (.int .i64)), N.spec_EntryInts a0⟩] := said_len (T := tab) (A := A_spec_EntryInts) tabOk ok_spec_EntryInts tabOk.follows Try.func39 (by kernel_rfl) (by kernel_rfl) (fun hl => let ⟨n, hn⟩ := spec_EntryInts_ok (ρ := Ret) (fun r0 => some [⟨(.slice 3 (.int .i64)), r0⟩]) a0 hl.1 g; ⟨n, (a_spec_EntryInts n a0).trans (hn n (Nat.le_refl n) (fun  m v0_0 v0_1 v0_2 => L_spec_EntryInts_0 n  m (S_spec_EntryInts_0 v0_0 v0_1 v0_2)) (fun  m v0_0 v0_1 v0_2 => b_spec_EntryInts_0 n  m v0_0 v0_1 v0_2))⟩)
/-! spec.Mod -/
abbrev N.spec_Mod (n m : Int) : Int := modM n m
def spec_Mod {ρ : Type} (k : Int → Option ρ) (a0 : Int) (a1 : Int) : Option ρ := (cond (!(N.spec_l1In a1 (1 : Int) (1000000000000 : Int))) (k (0 : Int)) (cond (!(decide (a1 = 0))) (cond (!(decide (a1 = 0))) (k (Int.tmod (IntKind.wrap .i64 ((Int.tmod a0 a1) + a1)) a1)) none) none))
theorem spec_Mod_ok {ρ : Type} (k : Int → Option ρ) (a0 : Int) (a1 : Int) : spec_Mod k  a0 a1 = k (N.spec_Mod a0 a1) := by
  simp only [spec_Mod, N.spec_l1In, modM]
  cases h : inR a1 1 1000000000000
  · rfl
  · have h1 : 1 ≤ a1 := by
      unfold inR at h
      simp only [Bool.and_eq_true, decide_eq_true_eq] at h
      exact h.1
    have h2 : decide (a1 = 0) = false := by simp; omega
    simp [h2]
def OP_spec_Mod (f_spec_l1In : Int → Int → Int → Bool) : Orac := (orcX 32 [.val (.int .i64), .val (.int .i64), .val (.int .i64)] (fun d => true) (fun d => [⟨.bool, f_spec_l1In d.1 d.2.1 d.2.2.1⟩]) nilO)
def O_spec_Mod : Orac := OP_spec_Mod N.spec_l1In
def spec_Mod_P {ρ : Type} (f_spec_l1In : Int → Int → Int → Bool) (k : Int → Option ρ) (a0 : Int) (a1 : Int) : Option ρ := (cond (!(f_spec_l1In a1 (1 : Int) (1000000000000 : Int))) (k (0 : Int)) (cond (!(decide (a1 = 0))) (cond (!(decide (a1 = 0))) (k (Int.tmod (IntKind.wrap .i64 ((Int.tmod a0 a1) + a1)) a1)) none) none))
theorem ok_spec_Mod : OracOk Try.prog sigs O_spec_Mod := (orcX_ok rfl rfl (fun d g => said_spec_l1In d.1 d.2.1 d.2.2.1) nilO_ok)
def A_spec_Mod : Ann := fun b => ⟨[], []⟩
theorem aP_spec_Mod (f_spec_l1In : Int → Int → Int → Bool) (n : Nat) (a0 : Int) (a1 : Int) : absF tab sigs (OP_spec_Mod f_spec_l1In) A_spec_Mod Try.f51 [((.int .i64), .no)] n [.val (.int .i64) a0, .val (.int .i64) a1] = spec_Mod_P f_spec_l1In (fun r0 => some [⟨(.int .i64), r0⟩])  a0 a1 := by kernel_rfl
theorem a_spec_Mod (n : Nat) (a0 : Int) (a1 : Int) : absF tab sigs O_spec_Mod A_spec_Mod Try.f51 [((.int .i64), .no)] n [.val (.int .i64) a0, .val (.int .i64) a1] = spec_Mod (fun r0 => some [⟨(.int .i64), r0⟩])  a0 a1 := aP_spec_Mod N.spec_l1In n a0 a1
theorem said_spec_Mod (a0 : Int) (a1 : Int) : Said Try.prog sigs_51 51 [.val (.int .i64) a0, .val (.int .i64) a1] [⟨(.int .i64), N.spec_Mod a0 a1⟩] := said_len (T := tab) (A := A_spec_Mod) tabOk ok_spec_Mod tabOk.follows Try.func51 (by kernel_rfl) (by kernel_rfl) (fun hl => ⟨0, (a_spec_Mod 0 a0 a1).trans (spec_Mod_ok (ρ := Ret) (fun r0 => some [⟨(.int .i64), r0⟩]) a0 a1)⟩)
/-! spec.Hash -/
abbrev N.spec_Hash (l : List Int) : Int := hash l
def spec_Hash_L0 {ρ : Type} (k : Int → Option ρ) (L0 : (List Int) → Int → Int → Option ρ) (v0_0 : (List Int)) (v0_1 : Int) (v0_2 : Int) : Option ρ := (cond (decide (v0_2 < (List.length v0_0 : Int))) (cond (inRange v0_2 (List.length v0_0)) (L0 v0_0 (Int.tmod (IntKind.wrap .i64 ((IntKind.wrap .i64 ((IntKind.wrap .i64 (v0_1 * (1000003 : Int))) + (N.spec_Mod (List.getD v0_0 (Int.toNat v0_2) (0 : Int)) (2147483647 : Int)))) + (13 : Int))) (2147483647 : Int)) (IntKind.wrap .i64 (v0_2 + (1 : Int)))) none) (k v0_1))
def spec_Hash {ρ : Type} (k : Int → Option ρ) (L0 : (List Int) → Int → Int → Option ρ) (a0 : (List Int)) : Option ρ := (L0 a0 (11 : Int) (0 : Int))
theorem spec_Hash_ok {ρ : Type} (k : Int → Option ρ) (a0 : (List Int)) (l_a0 : lnL (fun _ => True) a0) : ∃ n0, ∀ n, n0 ≤ n → ∀ (L0 : Nat → (List Int) → Int → Int → Option ρ) (h0 : ∀ ( m : Nat) (v0_0 : (List Int)) (v0_1 : Int) (v0_2 : Int), L0 (m + 1) v0_0 v0_1 v0_2 = spec_Hash_L0 k (L0 m) v0_0 v0_1 v0_2), spec_Hash k (L0 n) a0 = k (N.spec_Hash a0) := by
  refine ⟨a0.length + 1, fun n hn L0 h0 => ?_⟩
  refine raw_foldl (a := a0) 0 hashStep (k := k) (L := fun m i s => L0 m a0 s i) (R := fun i s c => spec_Hash_L0 k (fun _ s i => c i s) a0 s i) (fun m i s => h0 m a0 s i) (fun _ _ => True) (fun j s c hj _ => ?_) (fun _ _ _ _ => trivial) (fun s c => ?_) hn trivial
  · have : j < big := by have := l_a0.1; omega
    simp [spec_Hash_L0, lt_nat, inRange_nat, hj, wrap_succ this, hashStep]
  · simp [spec_Hash_L0]
def OP_spec_Hash (f_spec_Mod : Int → Int → Int) : Orac := (orcX 51 [.val (.int .i64), .val (.int .i64)] (fun d => true) (fun d => [⟨(.int .i64), f_spec_Mod d.1 d.2.1⟩]) nilO)
def O_spec_Hash : Orac := OP_spec_Hash N.spec_Mod
def spec_Hash_P_L0 {ρ : Type} (f_spec_Mod : Int → Int → Int) (k : Int → Option ρ) (L0 : (List Int) → Int → Int → Option ρ) (v0_0 : (List Int)) (v0_1 : Int) (v0_2 : Int) : Option ρ := (cond (decide (v0_2 < (List.length v0_0 : Int))) (cond (inRange v0_2 (List.length v0_0)) (L0 v0_0 (Int.tmod (IntKind.wrap .i64 ((IntKind.wrap .i64 ((IntKind.wrap .i64 (v0_1 * (1000003 : Int))) + (f_spec_Mod (List.getD v0_0 (Int.toNat v0_2) (0 : Int)) (2147483647 : Int)))) + (13 : Int))) (2147483647 : Int)) (IntKind.wrap .i64 (v0_2 + (1 : Int)))) none) (k v0_1))
def spec_Hash_P {ρ : Type} (f_spec_Mod : Int → Int → Int) (k : Int → Option ρ) (L0 : (List Int) → Int → Int → Option ρ) (a0 : (List Int)) : Option ρ := (L0 a0 (11 : Int) (0 : Int))
theorem ok_spec_Hash : OracOk Try.prog sigs O_spec_Hash := (orcX_ok rfl rfl (fun d g => said_spec_Mod d.1 d.2.1) nilO_ok)
def A_spec_Hash : Ann := fun b => cond (Nat.beq b 0) ⟨[(0, false), (3, false), (4, false)], []⟩ (⟨[], []⟩)
def S_spec_Hash_0 (v0_0 : (List Int)) (v0_1 : Int) (v0_2 : Int) : St := [(kT 0, some (.tv (.v (.slice 3 (.int .i64)) v0_0 .no))), (kT 3, some (.tv (.v (.int .i64) v0_1 .no))), (kT 4, some (.tv (.v (.int .i64) v0_2 .no)))]
noncomputable def L_P_spec_Hash_0 (f_spec_Mod : Int → Int → Int) (n m : Nat) : St → Option Ret := loopOf tab sigs (OP_spec_Hash f_spec_Mod) A_spec_Hash Try.f38 [((.int .i64), .no)] n (fun _ => 0) 0 m
noncomputable def L_spec_Hash_0 (n m : Nat) : St → Option Ret := L_P_spec_Hash_0 N.spec_Mod n m
theorem bP_spec_Hash_0 (f_spec_Mod : Int → Int → Int) (n m : Nat) (v0_0 : (List Int)) (v0_1 : Int) (v0_2 : Int) : L_P_spec_Hash_0 f_spec_Mod n (m + 1) (S_spec_Hash_0 v0_0 v0_1 v0_2) = spec_Hash_P_L0 f_spec_Mod (fun r0 => some [⟨(.int .i64), r0⟩]) (fun v0_0 v0_1 v0_2 => L_P_spec_Hash_0 f_spec_Mod n m (S_spec_Hash_0 v0_0 v0_1 v0_2)) v0_0 v0_1 v0_2 := by kernel_rfl
theorem b_spec_Hash_0 (n m : Nat) (v0_0 : (List Int)) (v0_1 : Int) (v0_2 : Int) : L_spec_Hash_0 n (m + 1) (S_spec_Hash_0 v0_0 v0_1 v0_2) = spec_Hash_L0 (fun r0 => some [⟨(.int .i64), r0⟩]) (fun v0_0 v0_1 v0_2 => L_spec_Hash_0 n m (S_spec_Hash_0 v0_0 v0_1 v0_2)) v0_0 v0_1 v0_2 := bP_spec_Hash_0 N.spec_Mod n m v0_0 v0_1 v0_2
theorem aP_spec_Hash (f_spec_Mod : Int → Int → Int) (n : Nat) (a0 : (List Int)) : absF tab sigs (OP_spec_Hash f_spec_Mod) A_spec_Hash Try.f38 [((.int .i64), .no)] n [.val (.slice 3 (.int .i64)) a0] = spec_Hash_P f_spec_Mod (fun r0 => some [⟨(.int .i64), r0⟩]) (fun v0_0 v0_1 v0_2 => L_P_spec_Hash_0 f_spec_Mod n n (S_spec_Hash_0 v0_0 v0_1 v0_2)) a0 := by kernel_rfl
theorem a_spec_Hash (n : Nat) (a0 : (List Int)) : absF tab sigs O_spec_Hash A_spec_Hash Try.f38 [((.int .i64), .no)] n [.val (.slice 3 (.int .i64)) a0] = spec_Hash (fun r0 => some [⟨(.int .i64), r0⟩]) (fun v0_0 v0_1 v0_2 => L_spec_Hash_0 n n (S_spec_Hash_0 v0_0 v0_1 v0_2)) a0 := aP_spec_Hash N.spec_Mod n a0
theorem said_spec_Hash (a0 : (List Int)) : Said Try.prog sigs_38 38 [.val (.slice 3 (.int .i64)) a0] [⟨(.int .i64), N.spec_Hash a0⟩] := said_len (T := tab) (A := A_spec_Hash) tabOk ok_spec_Hash tabOk.follows Try.func38 (by kernel_rfl) (by kernel_rfl) (fun hl => let ⟨n, hn⟩ := spec_Hash_ok (ρ := Ret) (fun r0 => some [⟨(.int .i64), r0⟩]) a0 hl.1; ⟨n, (a_spec_Hash n a0).trans (hn n (Nat.le_refl n) (fun  m v0_0 v0_1 v0_2 => L_spec_Hash_0 n  m (S_spec_Hash_0 v0_0 v0_1 v0_2)) (fun  m v0_0 v0_1 v0_2 => b_spec_Hash_0 n  m v0_0 v0_1 v0_2))⟩)
/-! spec.LeafOf -/
abbrev G.spec_LeafOf (e : TEntry) : Bool := decide (wE e ≤ 1048576)
abbrev N.spec_LeafOf (e : TEntry) : Int := leafOf e
def spec_LeafOf {ρ : Type} (k : Int → Option ρ) (a0 : TEntry) : Option ρ := (cond (G.spec_EntryInts a0) (cond (fit (List.length [(227 : Int)]) (List.length (N.spec_EntryInts a0))) (k (N.spec_Hash (List.append [(227 : Int)] (N.spec_EntryInts a0)))) none) none)
theorem spec_LeafOf_ok {ρ : Type} (k : Int → Option ρ) (a0 : TEntry) (l_a0 : (True ∧ (True ∧ (True ∧ lnL (fun _ => True) a0.2.2.2)))) (g : G.spec_LeafOf a0 = true) : spec_LeafOf k  a0 = k (N.spec_LeafOf a0) := by
  unfold G.spec_LeafOf at g
  have hw : wE a0 ≤ 1048576 := of_decide_eq_true g
  have f1 : fit 1 (entryInts a0).length = true := fit_of (by rw [entryInts_len]; omega)
  show cond (decide (wE a0 ≤ 1048576)) (cond (fit 1 (entryInts a0).length) _ none) none = _
  rw [g, f1]
  rfl
def OP_spec_LeafOf (f_spec_EntryInts : TEntry → (List Int)) (g_spec_EntryInts : TEntry → Bool) (f_spec_Hash : (List Int) → Int) : Orac := (orcX 38 [.val (.slice 3 (.int .i64))] (fun d => true) (fun d => [⟨(.int .i64), f_spec_Hash d.1⟩]) (orcX 39 [.val TyEntry] (fun d => g_spec_EntryInts d.1) (fun d => [⟨(.slice 3 (.int .i64)), f_spec_EntryInts d.1⟩]) nilO))
def O_spec_LeafOf : Orac := OP_spec_LeafOf N.spec_EntryInts G.spec_EntryInts N.spec_Hash
def spec_LeafOf_P {ρ : Type} (f_spec_EntryInts : TEntry → (List Int)) (g_spec_EntryInts : TEntry → Bool) (f_spec_Hash : (List Int) → Int) (k : Int → Option ρ) (a0 : TEntry) : Option ρ := (cond (g_spec_EntryInts a0) (cond (fit (List.length [(227 : Int)]) (List.length (f_spec_EntryInts a0))) (k (f_spec_Hash (List.append [(227 : Int)] (f_spec_EntryInts a0)))) none) none)
theorem ok_spec_LeafOf : OracOk Try.prog sigs O_spec_LeafOf := (orcX_ok rfl rfl (fun d g => said_spec_Hash d.1) (orcX_ok rfl rfl (fun d g => said_spec_EntryInts d.1 g) nilO_ok))
def A_spec_LeafOf : Ann := fun b => ⟨[], []⟩
theorem aP_spec_LeafOf (f_spec_EntryInts : TEntry → (List Int)) (g_spec_EntryInts : TEntry → Bool) (f_spec_Hash : (List Int) → Int) (n : Nat) (a0 : TEntry) : absF tab sigs (OP_spec_LeafOf f_spec_EntryInts g_spec_EntryInts f_spec_Hash) A_spec_LeafOf Try.f15 [((.int .i64), .no)] n [.val TyEntry a0] = spec_LeafOf_P f_spec_EntryInts g_spec_EntryInts f_spec_Hash (fun r0 => some [⟨(.int .i64), r0⟩])  a0 := by kernel_rfl
theorem a_spec_LeafOf (n : Nat) (a0 : TEntry) : absF tab sigs O_spec_LeafOf A_spec_LeafOf Try.f15 [((.int .i64), .no)] n [.val TyEntry a0] = spec_LeafOf (fun r0 => some [⟨(.int .i64), r0⟩])  a0 := aP_spec_LeafOf N.spec_EntryInts G.spec_EntryInts N.spec_Hash n a0
theorem said_spec_LeafOf (a0 : TEntry) (g : G.spec_LeafOf a0 = true) : Said Try.prog sigs_15 15 [.val TyEntry a0] [⟨(.int .i64), N.spec_LeafOf a0⟩] := said_len (T := tab) (A := A_spec_LeafOf) tabOk ok_spec_LeafOf tabOk.follows Try.func15 (by kernel_rfl) (by kernel_rfl) (fun hl => ⟨0, (a_spec_LeafOf 0 a0).trans (spec_LeafOf_ok (ρ := Ret) (fun r0 => some [⟨(.int .i64), r0⟩]) a0 hl.1 g)⟩)
/-! impl.BytesToInts -/
abbrev G.impl_BytesToInts (b : List Int) : Bool := decide (b.length ≤ 1048577)
abbrev N.impl_BytesToInts (b : List Int) : List Int := bytesInts b
def impl_BytesToInts_L0 {ρ : Type} (k : (List Int) → Option ρ) (L0 : (List Int) → Int → Int → (List Int) → Option ρ) (v0_0 : (List Int)) (v0_1 : Int) (v0_2 : Int) (v0_3 : (List Int)) : Option ρ := (cond (decide (v0_2 < v0_1)) (cond (inRange v0_2 (List.length v0_0)) (cond (fit (List.length v0_3) (List.length [(IntKind.wrap .i64 (List.getD v0_0 (Int.toNat v0_2) (0 : Int)))])) (L0 v0_0 v0_1 (IntKind.wrap .i64 (v0_2 + (1 : Int))) (List.append v0_3 [(IntKind.wrap .i64 (List.getD v0_0 (Int.toNat v0_2) (0 : Int)))])) none) none) (k v0_3))
def impl_BytesToInts {ρ : Type} (k : (List Int) → Option ρ) (L0 : (List Int) → Int → Int → (List Int) → Option ρ) (a0 : (List Int)) : Option ρ := (L0 a0 (List.length a0 : Int) (0 : Int) [(List.length a0 : Int)])
theorem impl_BytesToInts_ok {ρ : Type} (k : (List Int) → Option ρ) (a0 : (List Int)) (l_a0 : lnL (fun _ => True) a0) (g : G.impl_BytesToInts a0 = true) : ∃ n0, ∀ n, n0 ≤ n → ∀ (L0 : Nat → (List Int) → Int → Int → (List Int) → Option ρ) (h0 : ∀ ( m : Nat) (v0_0 : (List Int)) (v0_1 : Int) (v0_2 : Int) (v0_3 : (List Int)), L0 (m + 1) v0_0 v0_1 v0_2 v0_3 = impl_BytesToInts_L0 k (L0 m) v0_0 v0_1 v0_2 v0_3), impl_BytesToInts k (L0 n) a0 = k (N.impl_BytesToInts a0) := by
  unfold G.impl_BytesToInts at g
  have hlen : a0.length ≤ 1048577 := of_decide_eq_true g
  refine ⟨a0.length + 1, fun n hn L0 h0 => ?_⟩
  refine (raw_foldl (a := a0) 0 (fun o x => o ++ [IntKind.wrap .i64 x]) (k := k) (s := [(a0.length : Int)]) (L := fun m i s => L0 m a0 (a0.length : Int) i s) (R := fun i s c => impl_BytesToInts_L0 k (fun _ _ i s => c i s) a0 (a0.length : Int) i s) (fun m i s => h0 m a0 (a0.length : Int) i s) (fun j o => o.length ≤ j + 1) (fun j s c hj hI => ?_) (fun j s hj hI => by simp; exact hI) (fun s c => ?_) hn (by simp)).trans (by rw [foldl_app]; rfl)
  · have : j < big := by unfold big; omega
    have e3 : fit s.length 1 = true := fit_of (by omega)
    simp only [impl_BytesToInts_L0, lt_nat, inRange_nat, decide_eq_true hj, cond_true, Int.toNat_natCast, List.length_singleton, e3, wrap_succ this, List.append_eq]
  · simp [impl_BytesToInts_L0]
def O_impl_BytesToInts : Orac := nilO
theorem ok_impl_BytesToInts : OracOk Try.prog sigs O_impl_BytesToInts := nilO_ok
def A_impl_BytesToInts : Ann := fun b => cond (Nat.beq b 0) ⟨[(3, true), (9, false), (10, false), (11, false)], []⟩ (⟨[], []⟩)
def S_impl_BytesToInts_0 (v0_0 : (List Int)) (v0_1 : Int) (v0_2 : Int) (v0_3 : (List Int)) : St := [(kT 3, some (.tv (.v (.slice 3 (.int .i64)) [] (.own 24)))), (kT 9, some (.tv (.v (.slice 5 (.int .u8)) v0_0 .no))), (kT 10, some (.tv (.v (.int .i64) v0_1 .no))), (kT 11, some (.tv (.v (.int .i64) v0_2 .no))), (kR 24, some (.row 3 (.int .i64) v0_3))]
noncomputable def L_impl_BytesToInts_0 (n m : Nat) : St → Option Ret := loopOf tab sigs O_impl_BytesToInts A_impl_BytesToInts Try.f54 [((.slice 3 (.int .i64)), (.own 0))] n (fun _ => 0) 0 m
theorem b_impl_BytesToInts_0 (n m : Nat) (v0_0 : (List Int)) (v0_1 : Int) (v0_2 : Int) (v0_3 : (List Int)) : L_impl_BytesToInts_0 n (m + 1) (S_impl_BytesToInts_0 v0_0 v0_1 v0_2 v0_3) = impl_BytesToInts_L0 (fun r0 => some [⟨(.slice 3 (.int .i64)), r0⟩]) (fun v0_0 v0_1 v0_2 v0_3 => L_impl_BytesToInts_0 n m (S_impl_BytesToInts_0 v0_0 v0_1 v0_2 v0_3)) v0_0 v0_1 v0_2 v0_3 := by kernel_rfl
theorem a_impl_BytesToInts (n : Nat) (a0 : (List Int)) : absF tab sigs O_impl_BytesToInts A_impl_BytesToInts Try.f54 [((.slice 3 (.int .i64)), (.own 0))] n [.val (.slice 5 (.int .u8)) a0] = impl_BytesToInts (fun r0 => some [⟨(.slice 3 (.int .i64)), r0⟩]) (fun v0_0 v0_1 v0_2 v0_3 => L_impl_BytesToInts_0 n n (S_impl_BytesToInts_0 v0_0 v0_1 v0_2 v0_3)) a0 := by kernel_rfl
theorem said_impl_BytesToInts (a0 : (List Int)) (g : G.impl_BytesToInts a0 = true) : Said Try.prog sigs_54 54 [.val (.slice 5 (.int .u8)) a0] [⟨(.slice 3 (.int .i64)), N.impl_BytesToInts a0⟩] := said_len (T := tab) (A := A_impl_BytesToInts) tabOk ok_impl_BytesToInts tabOk.follows Try.func54 (by kernel_rfl) (by kernel_rfl) (fun hl => let ⟨n, hn⟩ := impl_BytesToInts_ok (ρ := Ret) (fun r0 => some [⟨(.slice 3 (.int .i64)), r0⟩]) a0 hl.1 g; ⟨n, (a_impl_BytesToInts n a0).trans (hn n (Nat.le_refl n) (fun  m v0_0 v0_1 v0_2 v0_3 => L_impl_BytesToInts_0 n  m (S_impl_BytesToInts_0 v0_0 v0_1 v0_2 v0_3)) (fun  m v0_0 v0_1 v0_2 v0_3 => b_impl_BytesToInts_0 n  m v0_0 v0_1 v0_2 v0_3))⟩)
/-! impl.LabelInts -/
abbrev G.impl_LabelInts (s : ByteArray) : Bool := decide (s.size ≤ 1048576)
abbrev N.impl_LabelInts (s : ByteArray) : List Int := labelInts s
def impl_LabelInts {ρ : Type} (k : (List Int) → Option ρ) (a0 : ByteArray) : Option ρ := (cond (decide ((ByteArray.size a0 : Int) ≤ 549755813888)) (cond (G.impl_BytesToInts (bytesOf a0)) (k (N.impl_BytesToInts (bytesOf a0))) none) none)
theorem impl_LabelInts_ok {ρ : Type} (k : (List Int) → Option ρ) (a0 : ByteArray) (g : G.impl_LabelInts a0 = true) : impl_LabelInts k  a0 = k (N.impl_LabelInts a0) := by
  unfold G.impl_LabelInts at g
  have h : a0.size ≤ 1048576 := of_decide_eq_true g
  have h1 : decide ((a0.size : Int) ≤ 549755813888) = true := by simp; omega
  have h2 : G.impl_BytesToInts (bytesOf a0) = true := decide_eq_true (by rw [bytesOf_length]; omega)
  show cond _ (cond _ _ none) none = _
  rw [h1, h2]
  rfl
def OP_impl_LabelInts (f_impl_BytesToInts : (List Int) → (List Int)) (g_impl_BytesToInts : (List Int) → Bool) : Orac := (orcX 54 [.val (.slice 5 (.int .u8))] (fun d => g_impl_BytesToInts d.1) (fun d => [⟨(.slice 3 (.int .i64)), f_impl_BytesToInts d.1⟩]) nilO)
def O_impl_LabelInts : Orac := OP_impl_LabelInts N.impl_BytesToInts G.impl_BytesToInts
def impl_LabelInts_P {ρ : Type} (f_impl_BytesToInts : (List Int) → (List Int)) (g_impl_BytesToInts : (List Int) → Bool) (k : (List Int) → Option ρ) (a0 : ByteArray) : Option ρ := (cond (decide ((ByteArray.size a0 : Int) ≤ 549755813888)) (cond (g_impl_BytesToInts (bytesOf a0)) (k (f_impl_BytesToInts (bytesOf a0))) none) none)
theorem ok_impl_LabelInts : OracOk Try.prog sigs O_impl_LabelInts := (orcX_ok rfl rfl (fun d g => said_impl_BytesToInts d.1 g) nilO_ok)
def A_impl_LabelInts : Ann := fun b => ⟨[], []⟩
theorem aP_impl_LabelInts (f_impl_BytesToInts : (List Int) → (List Int)) (g_impl_BytesToInts : (List Int) → Bool) (n : Nat) (a0 : ByteArray) : absF tab sigs (OP_impl_LabelInts f_impl_BytesToInts g_impl_BytesToInts) A_impl_LabelInts Try.f50 [((.slice 3 (.int .i64)), (.own 0))] n [.val .str a0] = impl_LabelInts_P f_impl_BytesToInts g_impl_BytesToInts (fun r0 => some [⟨(.slice 3 (.int .i64)), r0⟩])  a0 := by kernel_rfl
theorem a_impl_LabelInts (n : Nat) (a0 : ByteArray) : absF tab sigs O_impl_LabelInts A_impl_LabelInts Try.f50 [((.slice 3 (.int .i64)), (.own 0))] n [.val .str a0] = impl_LabelInts (fun r0 => some [⟨(.slice 3 (.int .i64)), r0⟩])  a0 := aP_impl_LabelInts N.impl_BytesToInts G.impl_BytesToInts n a0
theorem said_impl_LabelInts (a0 : ByteArray) (g : G.impl_LabelInts a0 = true) : Said Try.prog sigs_50 50 [.val .str a0] [⟨(.slice 3 (.int .i64)), N.impl_LabelInts a0⟩] := said_len (T := tab) (A := A_impl_LabelInts) tabOk ok_impl_LabelInts tabOk.follows Try.func50 (by kernel_rfl) (by kernel_rfl) (fun hl => ⟨0, (a_impl_LabelInts 0 a0).trans (impl_LabelInts_ok (ρ := Ret) (fun r0 => some [⟨(.slice 3 (.int .i64)), r0⟩]) a0 g)⟩)
/-! impl.EntryInts -/
abbrev G.impl_EntryInts (e : TEntry) : Bool := decide (wE e ≤ 1048576)
abbrev N.impl_EntryInts (e : TEntry) : List Int := entryInts e
def impl_EntryInts_L0 {ρ : Type} (k : (List Int) → Option ρ) (L0 : (List ByteArray) → Int → Int → (List Int) → Option ρ) (v0_0 : (List ByteArray)) (v0_1 : Int) (v0_2 : Int) (v0_3 : (List Int)) : Option ρ := (cond (decide (v0_2 < v0_1)) (cond (inRange v0_2 (List.length v0_0)) (cond (G.impl_LabelInts (List.getD v0_0 (Int.toNat v0_2) ByteArray.empty)) (cond (fit (List.length v0_3) (List.length (N.impl_LabelInts (List.getD v0_0 (Int.toNat v0_2) ByteArray.empty)))) (L0 v0_0 v0_1 (IntKind.wrap .i64 (v0_2 + (1 : Int))) (List.append v0_3 (N.impl_LabelInts (List.getD v0_0 (Int.toNat v0_2) ByteArray.empty)))) none) none) none) (k v0_3))
def impl_EntryInts {ρ : Type} (k : (List Int) → Option ρ) (L0 : (List ByteArray) → Int → Int → (List Int) → Option ρ) (a0 : TEntry) : Option ρ := (cond (G.impl_LabelInts a0.1) (cond (fit (List.length (N.impl_LabelInts a0.1)) (List.length [a0.2.1, a0.2.2.1, (List.length a0.2.2.2 : Int)])) (L0 a0.2.2.2 (List.length a0.2.2.2 : Int) (0 : Int) (List.append (N.impl_LabelInts a0.1) [a0.2.1, a0.2.2.1, (List.length a0.2.2.2 : Int)])) none) none)
theorem impl_EntryInts_ok {ρ : Type} (k : (List Int) → Option ρ) (a0 : TEntry) (l_a0 : (True ∧ (True ∧ (True ∧ lnL (fun _ => True) a0.2.2.2)))) (g : G.impl_EntryInts a0 = true) : ∃ n0, ∀ n, n0 ≤ n → ∀ (L0 : Nat → (List ByteArray) → Int → Int → (List Int) → Option ρ) (h0 : ∀ ( m : Nat) (v0_0 : (List ByteArray)) (v0_1 : Int) (v0_2 : Int) (v0_3 : (List Int)), L0 (m + 1) v0_0 v0_1 v0_2 v0_3 = impl_EntryInts_L0 k (L0 m) v0_0 v0_1 v0_2 v0_3), impl_EntryInts k (L0 n) a0 = k (N.impl_EntryInts a0) := by
  unfold G.impl_EntryInts at g
  have hw : wE a0 ≤ 1048576 := of_decide_eq_true g
  have hw2 : a0.1.size + (a0.2.2.2.length + wsum ByteArray.size a0.2.2.2) ≤ 1048576 := hw
  have g1 : decide (a0.1.size ≤ 1048576) = true := by simp; omega
  have f1 : fit (labelInts a0.1).length 3 = true := fit_of (by rw [labelInts_len]; omega)
  refine ⟨a0.2.2.2.length + 1, fun n hn L0 h0 => ?_⟩
  show cond (decide (a0.1.size ≤ 1048576)) (cond (fit (labelInts a0.1).length 3) (L0 n a0.2.2.2 (a0.2.2.2.length : Int) 0 (labelInts a0.1 ++ [a0.2.1, a0.2.2.1, (a0.2.2.2.length : Int)])) none) none = k (entryInts a0)
  rw [g1, f1]
  have key := raw_run0 (σ := List Int) (L := fun m i s => L0 m a0.2.2.2 (a0.2.2.2.length : Int) i s) (R := fun i s c => impl_EntryInts_L0 k (fun _ _ i s => c i s) a0.2.2.2 (a0.2.2.2.length : Int) i s) (fun m i s => h0 m a0.2.2.2 (a0.2.2.2.length : Int) i s) a0.2.2.2.length (fun j s => s.length + wP (a0.2.2.2.drop j) ≤ 4194304) (fun j s => k (s ++ (a0.2.2.2.drop j).flatMap labelInts)) (fun j s c hj hI hc => ?_) (fun s c _ => ?_) hn (s := labelInts a0.1 ++ [a0.2.1, a0.2.2.1, (a0.2.2.2.length : Int)]) (by rw [List.drop_zero, List.length_append, labelInts_len]; unfold wP; simp; omega)
  · rw [List.drop_zero] at key
    exact key
  · have hd := drop_cons ByteArray.empty hj
    have hp : wP (a0.2.2.2.drop j) = 1 + (a0.2.2.2.getD j ByteArray.empty).size + wP (a0.2.2.2.drop (j + 1)) := by
      rw [hd]
      unfold wP
      rw [List.length_cons]
      show _ + (_ + _) = _
      omega
    have hm := wsum_mem (wt := ByteArray.size) (getD_mem (d := ByteArray.empty) hj)
    have g2 : decide ((a0.2.2.2.getD j ByteArray.empty).size ≤ 1048576) = true := by simp only [decide_eq_true_eq]; omega
    have e3 : fit s.length (labelInts (a0.2.2.2.getD j ByteArray.empty)).length = true := fit_of (by rw [labelInts_len]; omega)
    have := hc (s ++ labelInts (a0.2.2.2.getD j ByteArray.empty)) (by rw [List.length_append, labelInts_len]; omega)
    simp only [impl_EntryInts_L0, lt_nat, inRange_nat, decide_eq_true hj, cond_true, Int.toNat_natCast, G.impl_LabelInts, N.impl_LabelInts, g2, e3, wrap_succ (j := j) (by unfold big; omega), List.append_eq, this]
    rw [hd]
    simp
  · simp [impl_EntryInts_L0]
def OP_impl_EntryInts (f_impl_LabelInts : ByteArray → (List Int)) (g_impl_LabelInts : ByteArray → Bool) : Orac := (orcX 50 [.val .str] (fun d => g_impl_LabelInts d.1) (fun d => [⟨(.slice 3 (.int .i64)), f_impl_LabelInts d.1⟩]) nilO)
def O_impl_EntryInts : Orac := OP_impl_EntryInts N.impl_LabelInts G.impl_LabelInts
def impl_EntryInts_P_L0 {ρ : Type} (f_impl_LabelInts : ByteArray → (List Int)) (g_impl_LabelInts : ByteArray → Bool) (k : (List Int) → Option ρ) (L0 : (List ByteArray) → Int → Int → (List Int) → Option ρ) (v0_0 : (List ByteArray)) (v0_1 : Int) (v0_2 : Int) (v0_3 : (List Int)) : Option ρ := (cond (decide (v0_2 < v0_1)) (cond (inRange v0_2 (List.length v0_0)) (cond (g_impl_LabelInts (List.getD v0_0 (Int.toNat v0_2) ByteArray.empty)) (cond (fit (List.length v0_3) (List.length (f_impl_LabelInts (List.getD v0_0 (Int.toNat v0_2) ByteArray.empty)))) (L0 v0_0 v0_1 (IntKind.wrap .i64 (v0_2 + (1 : Int))) (List.append v0_3 (f_impl_LabelInts (List.getD v0_0 (Int.toNat v0_2) ByteArray.empty)))) none) none) none) (k v0_3))
def impl_EntryInts_P {ρ : Type} (f_impl_LabelInts : ByteArray → (List Int)) (g_impl_LabelInts : ByteArray → Bool) (k : (List Int) → Option ρ) (L0 : (List ByteArray) → Int → Int → (List Int) → Option ρ) (a0 : TEntry) : Option ρ := (cond (g_impl_LabelInts a0.1) (cond (fit (List.length (f_impl_LabelInts a0.1)) (List.length [a0.2.1, a0.2.2.1, (List.length a0.2.2.2 : Int)])) (L0 a0.2.2.2 (List.length a0.2.2.2 : Int) (0 : Int) (List.append (f_impl_LabelInts a0.1) [a0.2.1, a0.2.2.1, (List.length a0.2.2.2 : Int)])) none) none)
theorem ok_impl_EntryInts : OracOk Try.prog sigs O_impl_EntryInts := (orcX_ok rfl rfl (fun d g => said_impl_LabelInts d.1 g) nilO_ok)
def A_impl_EntryInts : Ann := fun b => cond (Nat.beq b 0) ⟨[(3, true), (19, false), (20, false), (21, false)], []⟩ (⟨[], []⟩)
def S_impl_EntryInts_0 (v0_0 : (List ByteArray)) (v0_1 : Int) (v0_2 : Int) (v0_3 : (List Int)) : St := [(kT 3, some (.tv (.v (.slice 3 (.int .i64)) [] (.own 24)))), (kT 19, some (.tv (.v (.slice 9 .str) v0_0 .no))), (kT 20, some (.tv (.v (.int .i64) v0_1 .no))), (kT 21, some (.tv (.v (.int .i64) v0_2 .no))), (kR 24, some (.row 3 (.int .i64) v0_3))]
noncomputable def L_P_impl_EntryInts_0 (f_impl_LabelInts : ByteArray → (List Int)) (g_impl_LabelInts : ByteArray → Bool) (n m : Nat) : St → Option Ret := loopOf tab sigs (OP_impl_EntryInts f_impl_LabelInts g_impl_LabelInts) A_impl_EntryInts Try.f37 [((.slice 3 (.int .i64)), (.own 0))] n (fun _ => 0) 0 m
noncomputable def L_impl_EntryInts_0 (n m : Nat) : St → Option Ret := L_P_impl_EntryInts_0 N.impl_LabelInts G.impl_LabelInts n m
theorem bP_impl_EntryInts_0 (f_impl_LabelInts : ByteArray → (List Int)) (g_impl_LabelInts : ByteArray → Bool) (n m : Nat) (v0_0 : (List ByteArray)) (v0_1 : Int) (v0_2 : Int) (v0_3 : (List Int)) : L_P_impl_EntryInts_0 f_impl_LabelInts g_impl_LabelInts n (m + 1) (S_impl_EntryInts_0 v0_0 v0_1 v0_2 v0_3) = impl_EntryInts_P_L0 f_impl_LabelInts g_impl_LabelInts (fun r0 => some [⟨(.slice 3 (.int .i64)), r0⟩]) (fun v0_0 v0_1 v0_2 v0_3 => L_P_impl_EntryInts_0 f_impl_LabelInts g_impl_LabelInts n m (S_impl_EntryInts_0 v0_0 v0_1 v0_2 v0_3)) v0_0 v0_1 v0_2 v0_3 := by kernel_rfl
theorem b_impl_EntryInts_0 (n m : Nat) (v0_0 : (List ByteArray)) (v0_1 : Int) (v0_2 : Int) (v0_3 : (List Int)) : L_impl_EntryInts_0 n (m + 1) (S_impl_EntryInts_0 v0_0 v0_1 v0_2 v0_3) = impl_EntryInts_L0 (fun r0 => some [⟨(.slice 3 (.int .i64)), r0⟩]) (fun v0_0 v0_1 v0_2 v0_3 => L_impl_EntryInts_0 n m (S_impl_EntryInts_0 v0_0 v0_1 v0_2 v0_3)) v0_0 v0_1 v0_2 v0_3 := bP_impl_EntryInts_0 N.impl_LabelInts G.impl_LabelInts n m v0_0 v0_1 v0_2 v0_3
theorem aP_impl_EntryInts (f_impl_LabelInts : ByteArray → (List Int)) (g_impl_LabelInts : ByteArray → Bool) (n : Nat) (a0 : TEntry) : absF tab sigs (OP_impl_EntryInts f_impl_LabelInts g_impl_LabelInts) A_impl_EntryInts Try.f37 [((.slice 3 (.int .i64)), (.own 0))] n [.val TyEntry a0] = impl_EntryInts_P f_impl_LabelInts g_impl_LabelInts (fun r0 => some [⟨(.slice 3 (.int .i64)), r0⟩]) (fun v0_0 v0_1 v0_2 v0_3 => L_P_impl_EntryInts_0 f_impl_LabelInts g_impl_LabelInts n n (S_impl_EntryInts_0 v0_0 v0_1 v0_2 v0_3)) a0 := by kernel_rfl
theorem a_impl_EntryInts (n : Nat) (a0 : TEntry) : absF tab sigs O_impl_EntryInts A_impl_EntryInts Try.f37 [((.slice 3 (.int .i64)), (.own 0))] n [.val TyEntry a0] = impl_EntryInts (fun r0 => some [⟨(.slice 3 (.int .i64)), r0⟩]) (fun v0_0 v0_1 v0_2 v0_3 => L_impl_EntryInts_0 n n (S_impl_EntryInts_0 v0_0 v0_1 v0_2 v0_3)) a0 := aP_impl_EntryInts N.impl_LabelInts G.impl_LabelInts n a0
theorem said_impl_EntryInts (a0 : TEntry) (g : G.impl_EntryInts a0 = true) : Said Try.prog sigs_37 37 [.val TyEntry a0] [⟨(.slice 3 (.int .i64)), N.impl_EntryInts a0⟩] := said_len (T := tab) (A := A_impl_EntryInts) tabOk ok_impl_EntryInts tabOk.follows Try.func37 (by kernel_rfl) (by kernel_rfl) (fun hl => let ⟨n, hn⟩ := impl_EntryInts_ok (ρ := Ret) (fun r0 => some [⟨(.slice 3 (.int .i64)), r0⟩]) a0 hl.1 g; ⟨n, (a_impl_EntryInts n a0).trans (hn n (Nat.le_refl n) (fun  m v0_0 v0_1 v0_2 v0_3 => L_impl_EntryInts_0 n  m (S_impl_EntryInts_0 v0_0 v0_1 v0_2 v0_3)) (fun  m v0_0 v0_1 v0_2 v0_3 => b_impl_EntryInts_0 n  m v0_0 v0_1 v0_2 v0_3))⟩)
/-! impl.Mod -/
abbrev N.impl_Mod (n m : Int) : Int := modM n m
def impl_Mod {ρ : Type} (k : Int → Option ρ) (a0 : Int) (a1 : Int) : Option ρ := (cond (!(N.impl_InRange a1 (1 : Int) (1000000000000 : Int))) (k (0 : Int)) (cond (!(decide (a1 = 0))) (cond (!(decide (a1 = 0))) (k (Int.tmod (IntKind.wrap .i64 ((Int.tmod a0 a1) + a1)) a1)) none) none))
theorem impl_Mod_ok {ρ : Type} (k : Int → Option ρ) (a0 : Int) (a1 : Int) : impl_Mod k  a0 a1 = k (N.impl_Mod a0 a1) := by
  simp only [impl_Mod, N.impl_InRange, modM]
  cases h : inR a1 1 1000000000000
  · rfl
  · have h1 : 1 ≤ a1 := by
      unfold inR at h
      simp only [Bool.and_eq_true, decide_eq_true_eq] at h
      exact h.1
    have h2 : decide (a1 = 0) = false := by simp; omega
    simp [h2]
def OP_impl_Mod (f_impl_InRange : Int → Int → Int → Bool) : Orac := (orcX 29 [.val (.int .i64), .val (.int .i64), .val (.int .i64)] (fun d => true) (fun d => [⟨.bool, f_impl_InRange d.1 d.2.1 d.2.2.1⟩]) nilO)
def O_impl_Mod : Orac := OP_impl_Mod N.impl_InRange
def impl_Mod_P {ρ : Type} (f_impl_InRange : Int → Int → Int → Bool) (k : Int → Option ρ) (a0 : Int) (a1 : Int) : Option ρ := (cond (!(f_impl_InRange a1 (1 : Int) (1000000000000 : Int))) (k (0 : Int)) (cond (!(decide (a1 = 0))) (cond (!(decide (a1 = 0))) (k (Int.tmod (IntKind.wrap .i64 ((Int.tmod a0 a1) + a1)) a1)) none) none))
theorem ok_impl_Mod : OracOk Try.prog sigs O_impl_Mod := (orcX_ok rfl rfl (fun d g => said_impl_InRange d.1 d.2.1 d.2.2.1) nilO_ok)
def A_impl_Mod : Ann := fun b => ⟨[], []⟩
theorem aP_impl_Mod (f_impl_InRange : Int → Int → Int → Bool) (n : Nat) (a0 : Int) (a1 : Int) : absF tab sigs (OP_impl_Mod f_impl_InRange) A_impl_Mod Try.f49 [((.int .i64), .no)] n [.val (.int .i64) a0, .val (.int .i64) a1] = impl_Mod_P f_impl_InRange (fun r0 => some [⟨(.int .i64), r0⟩])  a0 a1 := by kernel_rfl
theorem a_impl_Mod (n : Nat) (a0 : Int) (a1 : Int) : absF tab sigs O_impl_Mod A_impl_Mod Try.f49 [((.int .i64), .no)] n [.val (.int .i64) a0, .val (.int .i64) a1] = impl_Mod (fun r0 => some [⟨(.int .i64), r0⟩])  a0 a1 := aP_impl_Mod N.impl_InRange n a0 a1
theorem said_impl_Mod (a0 : Int) (a1 : Int) : Said Try.prog sigs_49 49 [.val (.int .i64) a0, .val (.int .i64) a1] [⟨(.int .i64), N.impl_Mod a0 a1⟩] := said_len (T := tab) (A := A_impl_Mod) tabOk ok_impl_Mod tabOk.follows Try.func49 (by kernel_rfl) (by kernel_rfl) (fun hl => ⟨0, (a_impl_Mod 0 a0 a1).trans (impl_Mod_ok (ρ := Ret) (fun r0 => some [⟨(.int .i64), r0⟩]) a0 a1)⟩)
/-! impl.Hash -/
abbrev N.impl_Hash (l : List Int) : Int := hash l
def impl_Hash_L0 {ρ : Type} (k : Int → Option ρ) (L0 : Int → (List Int) → Int → Int → Option ρ) (v0_0 : Int) (v0_1 : (List Int)) (v0_2 : Int) (v0_3 : Int) : Option ρ := (cond (decide (v0_3 < v0_2)) (cond (inRange v0_3 (List.length v0_1)) (L0 (Int.tmod (IntKind.wrap .i64 ((IntKind.wrap .i64 ((IntKind.wrap .i64 (v0_0 * (1000003 : Int))) + (N.impl_Mod (List.getD v0_1 (Int.toNat v0_3) (0 : Int)) (2147483647 : Int)))) + (13 : Int))) (2147483647 : Int)) v0_1 v0_2 (IntKind.wrap .i64 (v0_3 + (1 : Int)))) none) (k v0_0))
def impl_Hash {ρ : Type} (k : Int → Option ρ) (L0 : Int → (List Int) → Int → Int → Option ρ) (a0 : (List Int)) : Option ρ := (L0 (11 : Int) a0 (List.length a0 : Int) (0 : Int))
theorem impl_Hash_ok {ρ : Type} (k : Int → Option ρ) (a0 : (List Int)) (l_a0 : lnL (fun _ => True) a0) : ∃ n0, ∀ n, n0 ≤ n → ∀ (L0 : Nat → Int → (List Int) → Int → Int → Option ρ) (h0 : ∀ ( m : Nat) (v0_0 : Int) (v0_1 : (List Int)) (v0_2 : Int) (v0_3 : Int), L0 (m + 1) v0_0 v0_1 v0_2 v0_3 = impl_Hash_L0 k (L0 m) v0_0 v0_1 v0_2 v0_3), impl_Hash k (L0 n) a0 = k (N.impl_Hash a0) := by
  refine ⟨a0.length + 1, fun n hn L0 h0 => ?_⟩
  refine raw_foldl (a := a0) 0 hashStep (k := k) (L := fun m i s => L0 m s a0 (a0.length : Int) i) (R := fun i s c => impl_Hash_L0 k (fun s _ _ i => c i s) s a0 (a0.length : Int) i) (fun m i s => h0 m s a0 (a0.length : Int) i) (fun _ _ => True) (fun j s c hj _ => ?_) (fun _ _ _ _ => trivial) (fun s c => ?_) hn trivial
  · have : j < big := by have := l_a0.1; omega
    simp [impl_Hash_L0, lt_nat, inRange_nat, hj, wrap_succ this, hashStep]
  · simp [impl_Hash_L0]
def OP_impl_Hash (f_impl_Mod : Int → Int → Int) : Orac := (orcX 49 [.val (.int .i64), .val (.int .i64)] (fun d => true) (fun d => [⟨(.int .i64), f_impl_Mod d.1 d.2.1⟩]) nilO)
def O_impl_Hash : Orac := OP_impl_Hash N.impl_Mod
def impl_Hash_P_L0 {ρ : Type} (f_impl_Mod : Int → Int → Int) (k : Int → Option ρ) (L0 : Int → (List Int) → Int → Int → Option ρ) (v0_0 : Int) (v0_1 : (List Int)) (v0_2 : Int) (v0_3 : Int) : Option ρ := (cond (decide (v0_3 < v0_2)) (cond (inRange v0_3 (List.length v0_1)) (L0 (Int.tmod (IntKind.wrap .i64 ((IntKind.wrap .i64 ((IntKind.wrap .i64 (v0_0 * (1000003 : Int))) + (f_impl_Mod (List.getD v0_1 (Int.toNat v0_3) (0 : Int)) (2147483647 : Int)))) + (13 : Int))) (2147483647 : Int)) v0_1 v0_2 (IntKind.wrap .i64 (v0_3 + (1 : Int)))) none) (k v0_0))
def impl_Hash_P {ρ : Type} (f_impl_Mod : Int → Int → Int) (k : Int → Option ρ) (L0 : Int → (List Int) → Int → Int → Option ρ) (a0 : (List Int)) : Option ρ := (L0 (11 : Int) a0 (List.length a0 : Int) (0 : Int))
theorem ok_impl_Hash : OracOk Try.prog sigs O_impl_Hash := (orcX_ok rfl rfl (fun d g => said_impl_Mod d.1 d.2.1) nilO_ok)
def A_impl_Hash : Ann := fun b => cond (Nat.beq b 0) ⟨[(3, false), (6, false), (7, false), (8, false)], []⟩ (⟨[], []⟩)
def S_impl_Hash_0 (v0_0 : Int) (v0_1 : (List Int)) (v0_2 : Int) (v0_3 : Int) : St := [(kT 3, some (.tv (.v (.int .i64) v0_0 .no))), (kT 6, some (.tv (.v (.slice 3 (.int .i64)) v0_1 .no))), (kT 7, some (.tv (.v (.int .i64) v0_2 .no))), (kT 8, some (.tv (.v (.int .i64) v0_3 .no)))]
noncomputable def L_P_impl_Hash_0 (f_impl_Mod : Int → Int → Int) (n m : Nat) : St → Option Ret := loopOf tab sigs (OP_impl_Hash f_impl_Mod) A_impl_Hash Try.f36 [((.int .i64), .no)] n (fun _ => 0) 0 m
noncomputable def L_impl_Hash_0 (n m : Nat) : St → Option Ret := L_P_impl_Hash_0 N.impl_Mod n m
theorem bP_impl_Hash_0 (f_impl_Mod : Int → Int → Int) (n m : Nat) (v0_0 : Int) (v0_1 : (List Int)) (v0_2 : Int) (v0_3 : Int) : L_P_impl_Hash_0 f_impl_Mod n (m + 1) (S_impl_Hash_0 v0_0 v0_1 v0_2 v0_3) = impl_Hash_P_L0 f_impl_Mod (fun r0 => some [⟨(.int .i64), r0⟩]) (fun v0_0 v0_1 v0_2 v0_3 => L_P_impl_Hash_0 f_impl_Mod n m (S_impl_Hash_0 v0_0 v0_1 v0_2 v0_3)) v0_0 v0_1 v0_2 v0_3 := by kernel_rfl
theorem b_impl_Hash_0 (n m : Nat) (v0_0 : Int) (v0_1 : (List Int)) (v0_2 : Int) (v0_3 : Int) : L_impl_Hash_0 n (m + 1) (S_impl_Hash_0 v0_0 v0_1 v0_2 v0_3) = impl_Hash_L0 (fun r0 => some [⟨(.int .i64), r0⟩]) (fun v0_0 v0_1 v0_2 v0_3 => L_impl_Hash_0 n m (S_impl_Hash_0 v0_0 v0_1 v0_2 v0_3)) v0_0 v0_1 v0_2 v0_3 := bP_impl_Hash_0 N.impl_Mod n m v0_0 v0_1 v0_2 v0_3
theorem aP_impl_Hash (f_impl_Mod : Int → Int → Int) (n : Nat) (a0 : (List Int)) : absF tab sigs (OP_impl_Hash f_impl_Mod) A_impl_Hash Try.f36 [((.int .i64), .no)] n [.val (.slice 3 (.int .i64)) a0] = impl_Hash_P f_impl_Mod (fun r0 => some [⟨(.int .i64), r0⟩]) (fun v0_0 v0_1 v0_2 v0_3 => L_P_impl_Hash_0 f_impl_Mod n n (S_impl_Hash_0 v0_0 v0_1 v0_2 v0_3)) a0 := by kernel_rfl
theorem a_impl_Hash (n : Nat) (a0 : (List Int)) : absF tab sigs O_impl_Hash A_impl_Hash Try.f36 [((.int .i64), .no)] n [.val (.slice 3 (.int .i64)) a0] = impl_Hash (fun r0 => some [⟨(.int .i64), r0⟩]) (fun v0_0 v0_1 v0_2 v0_3 => L_impl_Hash_0 n n (S_impl_Hash_0 v0_0 v0_1 v0_2 v0_3)) a0 := aP_impl_Hash N.impl_Mod n a0
theorem said_impl_Hash (a0 : (List Int)) : Said Try.prog sigs_36 36 [.val (.slice 3 (.int .i64)) a0] [⟨(.int .i64), N.impl_Hash a0⟩] := said_len (T := tab) (A := A_impl_Hash) tabOk ok_impl_Hash tabOk.follows Try.func36 (by kernel_rfl) (by kernel_rfl) (fun hl => let ⟨n, hn⟩ := impl_Hash_ok (ρ := Ret) (fun r0 => some [⟨(.int .i64), r0⟩]) a0 hl.1; ⟨n, (a_impl_Hash n a0).trans (hn n (Nat.le_refl n) (fun  m v0_0 v0_1 v0_2 v0_3 => L_impl_Hash_0 n  m (S_impl_Hash_0 v0_0 v0_1 v0_2 v0_3)) (fun  m v0_0 v0_1 v0_2 v0_3 => b_impl_Hash_0 n  m v0_0 v0_1 v0_2 v0_3))⟩)
/-! impl.LeafOf -/
abbrev G.impl_LeafOf (e : TEntry) : Bool := decide (wE e ≤ 1048576)
abbrev N.impl_LeafOf (e : TEntry) : Int := leafOf e
def impl_LeafOf {ρ : Type} (k : Int → Option ρ) (a0 : TEntry) : Option ρ := (cond (G.impl_EntryInts a0) (cond (fit (List.length [(227 : Int)]) (List.length (N.impl_EntryInts a0))) (k (N.impl_Hash (List.append [(227 : Int)] (N.impl_EntryInts a0)))) none) none)
theorem impl_LeafOf_ok {ρ : Type} (k : Int → Option ρ) (a0 : TEntry) (l_a0 : (True ∧ (True ∧ (True ∧ lnL (fun _ => True) a0.2.2.2)))) (g : G.impl_LeafOf a0 = true) : impl_LeafOf k  a0 = k (N.impl_LeafOf a0) := by
  unfold G.impl_LeafOf at g
  have hw : wE a0 ≤ 1048576 := of_decide_eq_true g
  have f1 : fit 1 (entryInts a0).length = true := fit_of (by rw [entryInts_len]; omega)
  show cond (decide (wE a0 ≤ 1048576)) (cond (fit 1 (entryInts a0).length) _ none) none = _
  rw [g, f1]
  rfl
def OP_impl_LeafOf (f_impl_EntryInts : TEntry → (List Int)) (g_impl_EntryInts : TEntry → Bool) (f_impl_Hash : (List Int) → Int) : Orac := (orcX 36 [.val (.slice 3 (.int .i64))] (fun d => true) (fun d => [⟨(.int .i64), f_impl_Hash d.1⟩]) (orcX 37 [.val TyEntry] (fun d => g_impl_EntryInts d.1) (fun d => [⟨(.slice 3 (.int .i64)), f_impl_EntryInts d.1⟩]) nilO))
def O_impl_LeafOf : Orac := OP_impl_LeafOf N.impl_EntryInts G.impl_EntryInts N.impl_Hash
def impl_LeafOf_P {ρ : Type} (f_impl_EntryInts : TEntry → (List Int)) (g_impl_EntryInts : TEntry → Bool) (f_impl_Hash : (List Int) → Int) (k : Int → Option ρ) (a0 : TEntry) : Option ρ := (cond (g_impl_EntryInts a0) (cond (fit (List.length [(227 : Int)]) (List.length (f_impl_EntryInts a0))) (k (f_impl_Hash (List.append [(227 : Int)] (f_impl_EntryInts a0)))) none) none)
theorem ok_impl_LeafOf : OracOk Try.prog sigs O_impl_LeafOf := (orcX_ok rfl rfl (fun d g => said_impl_Hash d.1) (orcX_ok rfl rfl (fun d g => said_impl_EntryInts d.1 g) nilO_ok))
def A_impl_LeafOf : Ann := fun b => ⟨[], []⟩
theorem aP_impl_LeafOf (f_impl_EntryInts : TEntry → (List Int)) (g_impl_EntryInts : TEntry → Bool) (f_impl_Hash : (List Int) → Int) (n : Nat) (a0 : TEntry) : absF tab sigs (OP_impl_LeafOf f_impl_EntryInts g_impl_EntryInts f_impl_Hash) A_impl_LeafOf Try.f14 [((.int .i64), .no)] n [.val TyEntry a0] = impl_LeafOf_P f_impl_EntryInts g_impl_EntryInts f_impl_Hash (fun r0 => some [⟨(.int .i64), r0⟩])  a0 := by kernel_rfl
theorem a_impl_LeafOf (n : Nat) (a0 : TEntry) : absF tab sigs O_impl_LeafOf A_impl_LeafOf Try.f14 [((.int .i64), .no)] n [.val TyEntry a0] = impl_LeafOf (fun r0 => some [⟨(.int .i64), r0⟩])  a0 := aP_impl_LeafOf N.impl_EntryInts G.impl_EntryInts N.impl_Hash n a0
theorem said_impl_LeafOf (a0 : TEntry) (g : G.impl_LeafOf a0 = true) : Said Try.prog sigs_14 14 [.val TyEntry a0] [⟨(.int .i64), N.impl_LeafOf a0⟩] := said_len (T := tab) (A := A_impl_LeafOf) tabOk ok_impl_LeafOf tabOk.follows Try.func14 (by kernel_rfl) (by kernel_rfl) (fun hl => ⟨0, (a_impl_LeafOf 0 a0).trans (impl_LeafOf_ok (ρ := Ret) (fun r0 => some [⟨(.int .i64), r0⟩]) a0 hl.1 g)⟩)
end Go.Proofs.Ytfpbeohdgoljgaa.Ref
