/- Functions of the program: what each computes, and that it does so.
   Conditions: as each theorem states. -/
import Derived.Test.YtcmjbplnjjdcdaaGreatSB2
set_option linter.unusedVariables false
set_option linter.unusedSimpArgs false
set_option maxRecDepth 100000
namespace Go.Proofs.YtcmjbplnjjdcdaaGreat.Ref
open Go.RowKit Go.Proofs.YtcmjbplnjjdcdaaGreatW.PrintWords Go.Proofs.YtcmjbplnjjdcdaaGreatW.PrintLast
abbrev G.impl_LooksLike (a b : ByteArray) : Bool := decide (a.size ≤ 1048576) && decide (b.size ≤ 1048576)
abbrev N.impl_LooksLike (a b : ByteArray) : Bool := looksLike a b
def impl_LooksLike_P {ρ : Type} (f0 : ByteArray → Bool) (g0 : ByteArray → Bool) (f1 : ByteArray → ByteArray) (g1 : ByteArray → Bool) (k : Bool → Option ρ) (a0 : ByteArray) (a1 : ByteArray) : Option ρ := (cond (g0 a0) (cond (f0 a0) (cond (g0 a1) (cond (f0 a1) (cond (g1 a0) (cond (g1 a1) (k ((ByteArray.toList (f1 a0)) == (ByteArray.toList (f1 a1)))) none) none) (k false)) none) (k false)) none)
def impl_LooksLike {ρ : Type} (k : Bool → Option ρ) (a0 : ByteArray) (a1 : ByteArray) : Option ρ := impl_LooksLike_P N.impl_IsLabel G.impl_IsLabel N.impl_PlainOf G.impl_PlainOf k a0 a1
theorem impl_LooksLike_ok {ρ : Type} (k : Bool → Option ρ) (a0 : ByteArray) (a1 : ByteArray) (g : G.impl_LooksLike a0 a1 = true) : impl_LooksLike k  a0 a1 = k (N.impl_LooksLike a0 a1) := by
  unfold G.impl_LooksLike at g
  obtain ⟨g1, g2⟩ := (Bool.and_eq_true _ _).mp g
  simp only [impl_LooksLike, impl_LooksLike_P, G.impl_IsLabel, N.impl_IsLabel, G.impl_PlainOf, N.impl_PlainOf, g1, g2, cond_true]
  unfold N.impl_LooksLike looksLike
  cases ha : isLabel a0 with
  | false => rfl
  | true =>
    cases hb : isLabel a1 with
    | false => rfl
    | true =>
      rw [decide_eq_true (label8 ha), decide_eq_true (label8 hb)]
      rfl
def OP_impl_LooksLike (f0 : ByteArray → Bool) (g0 : ByteArray → Bool) (f1 : ByteArray → ByteArray) (g1 : ByteArray → Bool) : Orac := (orcX 41 [.val .str] (fun d => g1 d.1) (fun d => [⟨.str, f1 d.1⟩]) (orcX 40 [.val .str] (fun d => g0 d.1) (fun d => [⟨.bool, f0 d.1⟩]) nilO))
def O_impl_LooksLike : Orac := OP_impl_LooksLike N.impl_IsLabel G.impl_IsLabel N.impl_PlainOf G.impl_PlainOf
theorem ok_impl_LooksLike : OracOk Tryz.prog sigs O_impl_LooksLike := (orcX_ok rfl rfl (fun d g => said_impl_PlainOf d.1 g) (orcX_ok rfl rfl (fun d g => said_impl_IsLabel d.1 g) nilO_ok))
def A_impl_LooksLike : Ann := fun b => ⟨[], []⟩
theorem aP_impl_LooksLike (f0 : ByteArray → Bool) (g0 : ByteArray → Bool) (f1 : ByteArray → ByteArray) (g1 : ByteArray → Bool) (n : Nat) (a0 : ByteArray) (a1 : ByteArray) : absF tab sigs (OP_impl_LooksLike f0 g0 f1 g1) A_impl_LooksLike Tryz.f15 [(.bool, .no)] n [.val .str a0, .val .str a1] = impl_LooksLike_P f0 g0 f1 g1 (fun r0 => some [⟨.bool, r0⟩])  a0 a1 := by kernel_rfl
theorem said_impl_LooksLike (a0 : ByteArray) (a1 : ByteArray) (g : G.impl_LooksLike a0 a1 = true) : Said Tryz.prog sigs_15 15 [.val .str a0, .val .str a1] [⟨.bool, N.impl_LooksLike a0 a1⟩] := said_len (T := tab) (A := A_impl_LooksLike) tabOk ok_impl_LooksLike tabOk.follows Tryz.func15 (by kernel_rfl) (by kernel_rfl) (fun hl => ⟨0, (aP_impl_LooksLike N.impl_IsLabel G.impl_IsLabel N.impl_PlainOf G.impl_PlainOf 0 a0 a1).trans (impl_LooksLike_ok (ρ := Ret) (fun r0 => some [⟨.bool, r0⟩]) a0 a1 g)⟩)
abbrev G.impl_AlikeIn_s1 (x s : ByteArray) : Bool := decide (x.size ≤ 1048576) && decide (s.size ≤ 1048576)
abbrev N.impl_AlikeIn_s1 (x s : ByteArray) : Bool := !(eqStr x s) && looksLike x s
def impl_AlikeIn_s1 {ρ : Type} (k : Bool → Option ρ) (a0 : ByteArray) (a1 : ByteArray) : Option ρ := (cond (!((ByteArray.toList a0) == (ByteArray.toList a1))) (cond (G.impl_LooksLike a0 a1) (k (N.impl_LooksLike a0 a1)) none) (k false))
theorem impl_AlikeIn_s1_ok {ρ : Type} (k : Bool → Option ρ) (a0 : ByteArray) (a1 : ByteArray) (g : G.impl_AlikeIn_s1 a0 a1 = true) : impl_AlikeIn_s1 k  a0 a1 = k (N.impl_AlikeIn_s1 a0 a1) := by
  unfold G.impl_AlikeIn_s1 at g
  simp only [impl_AlikeIn_s1, G.impl_LooksLike, N.impl_LooksLike, g, cond_true]
  unfold N.impl_AlikeIn_s1 eqStr
  cases (ByteArray.toList a0 == ByteArray.toList a1) <;> rfl
def OP_impl_AlikeIn_s1 (f0 : ByteArray → ByteArray → Bool) (g0 : ByteArray → ByteArray → Bool) : Orac := (orcX 15 [.val .str, .val .str] (fun d => g0 d.1 d.2.1) (fun d => [⟨.bool, f0 d.1 d.2.1⟩]) nilO)
def O_impl_AlikeIn_s1 : Orac := OP_impl_AlikeIn_s1 N.impl_LooksLike G.impl_LooksLike
def impl_AlikeIn_s1_P {ρ : Type} (f0 : ByteArray → ByteArray → Bool) (g0 : ByteArray → ByteArray → Bool) (k : Bool → Option ρ) (a0 : ByteArray) (a1 : ByteArray) : Option ρ := (cond (!((ByteArray.toList a0) == (ByteArray.toList a1))) (cond (g0 a0 a1) (k (f0 a0 a1)) none) (k false))
theorem ok_impl_AlikeIn_s1 : OracOk Tryz.prog sigs O_impl_AlikeIn_s1 := (orcX_ok rfl rfl (fun d g => said_impl_LooksLike d.1 d.2.1 g) nilO_ok)
def A_impl_AlikeIn_s1 : Ann := fun b => ⟨[], []⟩
theorem aP_impl_AlikeIn_s1 (f0 : ByteArray → ByteArray → Bool) (g0 : ByteArray → ByteArray → Bool) (n : Nat) (a0 : ByteArray) (a1 : ByteArray) : absF tab sigs (OP_impl_AlikeIn_s1 f0 g0) A_impl_AlikeIn_s1 Tryz.f39 [(.bool, .no)] n [.val .str a0, .ref .str a1] = impl_AlikeIn_s1_P f0 g0 (fun r0 => some [⟨.bool, r0⟩])  a0 a1 := by kernel_rfl
theorem said_impl_AlikeIn_s1 (a0 : ByteArray) (a1 : ByteArray) (g : G.impl_AlikeIn_s1 a0 a1 = true) : Said Tryz.prog sigs_39 39 [.val .str a0, .ref .str a1] [⟨.bool, N.impl_AlikeIn_s1 a0 a1⟩] := said_len (T := tab) (A := A_impl_AlikeIn_s1) tabOk ok_impl_AlikeIn_s1 tabOk.follows Tryz.func39 (by kernel_rfl) (by kernel_rfl) (fun hl => ⟨0, (aP_impl_AlikeIn_s1 N.impl_LooksLike G.impl_LooksLike 0 a0 a1).trans (impl_AlikeIn_s1_ok (ρ := Ret) (fun r0 => some [⟨.bool, r0⟩]) a0 a1 g)⟩)
abbrev G.impl_labelsWhere__impl_AlikeIn_s1 (l : List TEntry) (s : ByteArray) : Bool := decide (wEs l ≤ 1048576) && decide (s.size ≤ 1048576)
abbrev N.impl_labelsWhere__impl_AlikeIn_s1 (l : List TEntry) (s : ByteArray) : List ByteArray := alikeIn l s
def impl_labelsWhere__impl_AlikeIn_s1_P_L0 {ρ : Type} (f0 : ByteArray → ByteArray → Bool) (g0 : ByteArray → ByteArray → Bool) (k : (List ByteArray) → Option ρ) (L0 : ByteArray → (List TEntry) → Int → Int → (List ByteArray) → Option ρ) (v0_0 : ByteArray) (v0_1 : (List TEntry)) (v0_2 : Int) (v0_3 : Int) (v0_4 : (List ByteArray)) : Option ρ := (cond (decide (v0_3 < v0_2)) (cond (inRange v0_3 (List.length v0_1)) (cond (g0 (List.getD v0_1 (Int.toNat v0_3) (ByteArray.empty, ((0 : Int), ((0 : Int), [])))).1 v0_0) (cond (f0 (List.getD v0_1 (Int.toNat v0_3) (ByteArray.empty, ((0 : Int), ((0 : Int), [])))).1 v0_0) (cond (fit (List.length v0_4) (List.length [(List.getD v0_1 (Int.toNat v0_3) (ByteArray.empty, ((0 : Int), ((0 : Int), [])))).1])) (L0 v0_0 v0_1 v0_2 (IntKind.wrap .i64 (v0_3 + (1 : Int))) (List.append v0_4 [(List.getD v0_1 (Int.toNat v0_3) (ByteArray.empty, ((0 : Int), ((0 : Int), [])))).1])) none) (L0 v0_0 v0_1 v0_2 (IntKind.wrap .i64 (v0_3 + (1 : Int))) v0_4)) none) none) (k v0_4))
def impl_labelsWhere__impl_AlikeIn_s1_P {ρ : Type} (f0 : ByteArray → ByteArray → Bool) (g0 : ByteArray → ByteArray → Bool) (k : (List ByteArray) → Option ρ) (L0 : ByteArray → (List TEntry) → Int → Int → (List ByteArray) → Option ρ) (a0 : (List TEntry)) (c1_0 : ByteArray) : Option ρ := (L0 c1_0 a0 (List.length a0 : Int) (0 : Int) ([] : (List ByteArray)))
def impl_labelsWhere__impl_AlikeIn_s1_L0 {ρ : Type} (k : (List ByteArray) → Option ρ) (L0 : ByteArray → (List TEntry) → Int → Int → (List ByteArray) → Option ρ) (v0_0 : ByteArray) (v0_1 : (List TEntry)) (v0_2 : Int) (v0_3 : Int) (v0_4 : (List ByteArray)) : Option ρ := impl_labelsWhere__impl_AlikeIn_s1_P_L0 N.impl_AlikeIn_s1 G.impl_AlikeIn_s1 k L0 v0_0 v0_1 v0_2 v0_3 v0_4
def impl_labelsWhere__impl_AlikeIn_s1 {ρ : Type} (k : (List ByteArray) → Option ρ) (L0 : ByteArray → (List TEntry) → Int → Int → (List ByteArray) → Option ρ) (a0 : (List TEntry)) (c1_0 : ByteArray) : Option ρ := impl_labelsWhere__impl_AlikeIn_s1_P N.impl_AlikeIn_s1 G.impl_AlikeIn_s1 k L0 a0 c1_0
theorem impl_labelsWhere__impl_AlikeIn_s1_ok {ρ : Type} (k : (List ByteArray) → Option ρ) (a0 : (List TEntry)) (c1_0 : ByteArray) (l_a0 : lnL (fun y => (True ∧ (True ∧ (True ∧ lnL (fun _ => True) y.2.2.2)))) a0) (g : G.impl_labelsWhere__impl_AlikeIn_s1 a0 c1_0 = true) : ∃ n0, ∀ n, n0 ≤ n → ∀ (L0 : Nat → ByteArray → (List TEntry) → Int → Int → (List ByteArray) → Option ρ) (h0 : ∀ ( m : Nat) (v0_0 : ByteArray) (v0_1 : (List TEntry)) (v0_2 : Int) (v0_3 : Int) (v0_4 : (List ByteArray)), L0 (m + 1) v0_0 v0_1 v0_2 v0_3 v0_4 = impl_labelsWhere__impl_AlikeIn_s1_L0 k (L0 m) v0_0 v0_1 v0_2 v0_3 v0_4), impl_labelsWhere__impl_AlikeIn_s1 k (L0 n) a0 c1_0 = k (N.impl_labelsWhere__impl_AlikeIn_s1 a0 c1_0) := by
  unfold G.impl_labelsWhere__impl_AlikeIn_s1 at g
  obtain ⟨g1, g2⟩ := (Bool.and_eq_true _ _).mp g
  have hw : wEs a0 ≤ 1048576 := of_decide_eq_true g1
  have hl := wEs_ge a0
  refine ⟨a0.length + 1, fun n hn L0 h0 => ?_⟩
  refine raw_filter (a := a0) (ByteArray.empty, (0, (0, []))) (alikeOf c1_0) 1048576 (k := k) (L := fun m i o => L0 m c1_0 a0 (a0.length : Int) i o) (R := fun i o c => impl_labelsWhere__impl_AlikeIn_s1_L0 k (fun _ _ _ i o => c i o) c1_0 a0 (a0.length : Int) i o) (fun m i s => h0 m c1_0 a0 (a0.length : Int) i s) (fun j o c hj ho => ?_) (fun o c => ?_) (by omega) hn
  · have h1 : j < big := by unfold big; omega
    have hm := wEs_mem (getD_mem (d := (ByteArray.empty, (0, (0, [])))) hj)
    have g3 : decide ((a0.getD j (ByteArray.empty, (0, (0, [])))).1.size ≤ 1048576) = true := decide_eq_true (by have := wE_lab (a0.getD j (ByteArray.empty, (0, (0, [])))); omega)
    have hf : ∀ x : ByteArray, fit (List.length o) (List.length [x]) = true := fun x => fit_of (by simp; omega)
    simp only [impl_labelsWhere__impl_AlikeIn_s1_L0, impl_labelsWhere__impl_AlikeIn_s1_P_L0, lt_nat, inRange_nat, decide_eq_true hj, cond_true, Int.toNat_natCast, G.impl_AlikeIn_s1, N.impl_AlikeIn_s1, g2, g3, Bool.and_self, hf, wrap_succ h1, alikeOf]
    cases eqStr (a0.getD j (ByteArray.empty, (0, (0, [])))).1 c1_0 <;> cases looksLike (a0.getD j (ByteArray.empty, (0, (0, [])))).1 c1_0 <;> rfl
  · simp [impl_labelsWhere__impl_AlikeIn_s1_L0, impl_labelsWhere__impl_AlikeIn_s1_P_L0]
def OP_impl_labelsWhere__impl_AlikeIn_s1 (f0 : ByteArray → ByteArray → Bool) (g0 : ByteArray → ByteArray → Bool) : Orac := (orcX 39 [.val .str, .ref .str] (fun d => g0 d.1 d.2.1) (fun d => [⟨.bool, f0 d.1 d.2.1⟩]) nilO)
def O_impl_labelsWhere__impl_AlikeIn_s1 : Orac := OP_impl_labelsWhere__impl_AlikeIn_s1 N.impl_AlikeIn_s1 G.impl_AlikeIn_s1
theorem ok_impl_labelsWhere__impl_AlikeIn_s1 : OracOk Tryz.prog sigs O_impl_labelsWhere__impl_AlikeIn_s1 := (orcX_ok rfl rfl (fun d g => said_impl_AlikeIn_s1 d.1 d.2.1 g) nilO_ok)
def A_impl_labelsWhere__impl_AlikeIn_s1 : Ann := fun b => cond (Nat.beq b 0) ⟨[(1, false), (5, true), (9, false), (10, false), (11, false)], []⟩ (⟨[], []⟩)
def S_impl_labelsWhere__impl_AlikeIn_s1_0 (v0_0 : ByteArray) (v0_1 : (List TEntry)) (v0_2 : Int) (v0_3 : Int) (v0_4 : (List ByteArray)) : St := [(kT 1, some (.tv (.clo 39 [(.ref .str v0_0)]))), (kT 5, some (.tv (.v (.slice 9 .str) [] (.own 40)))), (kT 9, some (.tv (.v (.slice 27 TyEntry) v0_1 .no))), (kT 10, some (.tv (.v (.int .i64) v0_2 .no))), (kT 11, some (.tv (.v (.int .i64) v0_3 .no))), (kR 40, some (.row 9 .str v0_4))]
noncomputable def L_P_impl_labelsWhere__impl_AlikeIn_s1_0 (f0 : ByteArray → ByteArray → Bool) (g0 : ByteArray → ByteArray → Bool) (n m : Nat) : St → Option Ret := loopOf tab sigs (OP_impl_labelsWhere__impl_AlikeIn_s1 f0 g0) A_impl_labelsWhere__impl_AlikeIn_s1 Tryz.f38 [((.slice 9 .str), (.own 0))] n (fun _ => 0) 0 m
theorem bP_impl_labelsWhere__impl_AlikeIn_s1_0 (f0 : ByteArray → ByteArray → Bool) (g0 : ByteArray → ByteArray → Bool) (n m : Nat) (v0_0 : ByteArray) (v0_1 : (List TEntry)) (v0_2 : Int) (v0_3 : Int) (v0_4 : (List ByteArray)) : L_P_impl_labelsWhere__impl_AlikeIn_s1_0 f0 g0 n (m + 1) (S_impl_labelsWhere__impl_AlikeIn_s1_0 v0_0 v0_1 v0_2 v0_3 v0_4) = impl_labelsWhere__impl_AlikeIn_s1_P_L0 f0 g0 (fun r0 => some [⟨(.slice 9 .str), r0⟩]) (fun v0_0 v0_1 v0_2 v0_3 v0_4 => L_P_impl_labelsWhere__impl_AlikeIn_s1_0 f0 g0 n m (S_impl_labelsWhere__impl_AlikeIn_s1_0 v0_0 v0_1 v0_2 v0_3 v0_4)) v0_0 v0_1 v0_2 v0_3 v0_4 := by kernel_rfl
theorem aP_impl_labelsWhere__impl_AlikeIn_s1 (f0 : ByteArray → ByteArray → Bool) (g0 : ByteArray → ByteArray → Bool) (n : Nat) (a0 : (List TEntry)) (c1_0 : ByteArray) : absF tab sigs (OP_impl_labelsWhere__impl_AlikeIn_s1 f0 g0) A_impl_labelsWhere__impl_AlikeIn_s1 Tryz.f38 [((.slice 9 .str), (.own 0))] n [.val (.slice 27 TyEntry) a0, .clo 39 [.ref .str c1_0]] = impl_labelsWhere__impl_AlikeIn_s1_P f0 g0 (fun r0 => some [⟨(.slice 9 .str), r0⟩]) (fun v0_0 v0_1 v0_2 v0_3 v0_4 => L_P_impl_labelsWhere__impl_AlikeIn_s1_0 f0 g0 n n (S_impl_labelsWhere__impl_AlikeIn_s1_0 v0_0 v0_1 v0_2 v0_3 v0_4)) a0 c1_0 := by kernel_rfl
theorem said_impl_labelsWhere__impl_AlikeIn_s1 (a0 : (List TEntry)) (c1_0 : ByteArray) (g : G.impl_labelsWhere__impl_AlikeIn_s1 a0 c1_0 = true) : Said Tryz.prog sigs_38 38 [.val (.slice 27 TyEntry) a0, .clo 39 [.ref .str c1_0]] [⟨(.slice 9 .str), N.impl_labelsWhere__impl_AlikeIn_s1 a0 c1_0⟩] := said_len (T := tab) (A := A_impl_labelsWhere__impl_AlikeIn_s1) tabOk ok_impl_labelsWhere__impl_AlikeIn_s1 tabOk.follows Tryz.func38 (by kernel_rfl) (by kernel_rfl) (fun hl => let ⟨n, hn⟩ := impl_labelsWhere__impl_AlikeIn_s1_ok (ρ := Ret) (fun r0 => some [⟨(.slice 9 .str), r0⟩]) a0 c1_0 hl.1 g; ⟨n, (aP_impl_labelsWhere__impl_AlikeIn_s1 N.impl_AlikeIn_s1 G.impl_AlikeIn_s1 n a0 c1_0).trans (hn n (Nat.le_refl n) (fun  m v0_0 v0_1 v0_2 v0_3 v0_4 => L_P_impl_labelsWhere__impl_AlikeIn_s1_0 N.impl_AlikeIn_s1 G.impl_AlikeIn_s1 n  m (S_impl_labelsWhere__impl_AlikeIn_s1_0 v0_0 v0_1 v0_2 v0_3 v0_4)) (fun  m v0_0 v0_1 v0_2 v0_3 v0_4 => bP_impl_labelsWhere__impl_AlikeIn_s1_0 N.impl_AlikeIn_s1 G.impl_AlikeIn_s1 n  m v0_0 v0_1 v0_2 v0_3 v0_4))⟩)
abbrev G.impl_AlikeIn (l : List TEntry) (s : ByteArray) : Bool := decide (wEs l ≤ 1048576) && decide (s.size ≤ 1048576)
abbrev N.impl_AlikeIn (l : List TEntry) (s : ByteArray) : List ByteArray := alikeIn l s
def impl_AlikeIn {ρ : Type} (k : (List ByteArray) → Option ρ) (a0 : (List TEntry)) (a1 : ByteArray) : Option ρ := (cond (G.impl_labelsWhere__impl_AlikeIn_s1 a0 a1) (k (N.impl_labelsWhere__impl_AlikeIn_s1 a0 a1)) none)
theorem impl_AlikeIn_ok {ρ : Type} (k : (List ByteArray) → Option ρ) (a0 : (List TEntry)) (a1 : ByteArray) (l_a0 : lnL (fun y => (True ∧ (True ∧ (True ∧ lnL (fun _ => True) y.2.2.2)))) a0) (g : G.impl_AlikeIn a0 a1 = true) : impl_AlikeIn k  a0 a1 = k (N.impl_AlikeIn a0 a1) := by
  unfold G.impl_AlikeIn at g
  simp only [impl_AlikeIn, G.impl_labelsWhere__impl_AlikeIn_s1, N.impl_labelsWhere__impl_AlikeIn_s1, g, cond_true]
def OP_impl_AlikeIn (f0 : (List TEntry) → ByteArray → (List ByteArray)) (g0 : (List TEntry) → ByteArray → Bool) : Orac := (orcX 38 [.val (.slice 27 TyEntry), .clo 39 [.str]] (fun d => g0 d.1 d.2.1.1) (fun d => [⟨(.slice 9 .str), f0 d.1 d.2.1.1⟩]) nilO)
def O_impl_AlikeIn : Orac := OP_impl_AlikeIn N.impl_labelsWhere__impl_AlikeIn_s1 G.impl_labelsWhere__impl_AlikeIn_s1
def impl_AlikeIn_P {ρ : Type} (f0 : (List TEntry) → ByteArray → (List ByteArray)) (g0 : (List TEntry) → ByteArray → Bool) (k : (List ByteArray) → Option ρ) (a0 : (List TEntry)) (a1 : ByteArray) : Option ρ := (cond (g0 a0 a1) (k (f0 a0 a1)) none)
theorem ok_impl_AlikeIn : OracOk Tryz.prog sigs O_impl_AlikeIn := (orcX_ok rfl rfl (fun d g => said_impl_labelsWhere__impl_AlikeIn_s1 d.1 d.2.1.1 g) nilO_ok)
def A_impl_AlikeIn : Ann := fun b => ⟨[], []⟩
theorem aP_impl_AlikeIn (f0 : (List TEntry) → ByteArray → (List ByteArray)) (g0 : (List TEntry) → ByteArray → Bool) (n : Nat) (a0 : (List TEntry)) (a1 : ByteArray) : absF tab sigs (OP_impl_AlikeIn f0 g0) A_impl_AlikeIn Tryz.f14 [((.slice 9 .str), (.own 0))] n [.val (.slice 27 TyEntry) a0, .val .str a1] = impl_AlikeIn_P f0 g0 (fun r0 => some [⟨(.slice 9 .str), r0⟩])  a0 a1 := by kernel_rfl
theorem said_impl_AlikeIn (a0 : (List TEntry)) (a1 : ByteArray) (g : G.impl_AlikeIn a0 a1 = true) : Said Tryz.prog sigs_14 14 [.val (.slice 27 TyEntry) a0, .val .str a1] [⟨(.slice 9 .str), N.impl_AlikeIn a0 a1⟩] := said_len (T := tab) (A := A_impl_AlikeIn) tabOk ok_impl_AlikeIn tabOk.follows Tryz.func14 (by kernel_rfl) (by kernel_rfl) (fun hl => ⟨0, (aP_impl_AlikeIn N.impl_labelsWhere__impl_AlikeIn_s1 G.impl_labelsWhere__impl_AlikeIn_s1 0 a0 a1).trans (impl_AlikeIn_ok (ρ := Ret) (fun r0 => some [⟨(.slice 9 .str), r0⟩]) a0 a1 hl.1 g)⟩)
abbrev N.impl_LabelsOf_s1 (s : ByteArray) : Bool := true
def impl_LabelsOf_s1 {ρ : Type} (k : Bool → Option ρ) (a0 : ByteArray) : Option ρ := (k true)
theorem impl_LabelsOf_s1_ok {ρ : Type} (k : Bool → Option ρ) (a0 : ByteArray) : impl_LabelsOf_s1 k  a0 = k (N.impl_LabelsOf_s1 a0) := by
  rfl
def O_impl_LabelsOf_s1 : Orac := nilO
theorem ok_impl_LabelsOf_s1 : OracOk Tryz.prog sigs O_impl_LabelsOf_s1 := nilO_ok
def A_impl_LabelsOf_s1 : Ann := fun b => ⟨[], []⟩
theorem a_impl_LabelsOf_s1 (n : Nat) (a0 : ByteArray) : absF tab sigs O_impl_LabelsOf_s1 A_impl_LabelsOf_s1 Tryz.f42 [(.bool, .no)] n [.val .str a0] = impl_LabelsOf_s1 (fun r0 => some [⟨.bool, r0⟩])  a0 := by kernel_rfl
theorem said_impl_LabelsOf_s1 (a0 : ByteArray) : Said Tryz.prog sigs_42 42 [.val .str a0] [⟨.bool, N.impl_LabelsOf_s1 a0⟩] := said_len (T := tab) (A := A_impl_LabelsOf_s1) tabOk ok_impl_LabelsOf_s1 tabOk.follows Tryz.func42 (by kernel_rfl) (by kernel_rfl) (fun hl => ⟨0, (a_impl_LabelsOf_s1 0 a0).trans (impl_LabelsOf_s1_ok (ρ := Ret) (fun r0 => some [⟨.bool, r0⟩]) a0)⟩)
abbrev G.impl_labelsWhere__impl_LabelsOf_s1 (l : List TEntry) : Bool := decide (wEs l ≤ 1048576)
abbrev N.impl_labelsWhere__impl_LabelsOf_s1 (l : List TEntry) : List ByteArray := l.map fun e => e.1
def impl_labelsWhere__impl_LabelsOf_s1_P_L0 {ρ : Type} (f0 : ByteArray → Bool) (k : (List ByteArray) → Option ρ) (L0 : (List TEntry) → Int → Int → (List ByteArray) → Option ρ) (v0_0 : (List TEntry)) (v0_1 : Int) (v0_2 : Int) (v0_3 : (List ByteArray)) : Option ρ := (cond (decide (v0_2 < v0_1)) (cond (inRange v0_2 (List.length v0_0)) (cond (f0 (List.getD v0_0 (Int.toNat v0_2) (ByteArray.empty, ((0 : Int), ((0 : Int), [])))).1) (cond (fit (List.length v0_3) (List.length [(List.getD v0_0 (Int.toNat v0_2) (ByteArray.empty, ((0 : Int), ((0 : Int), [])))).1])) (L0 v0_0 v0_1 (IntKind.wrap .i64 (v0_2 + (1 : Int))) (List.append v0_3 [(List.getD v0_0 (Int.toNat v0_2) (ByteArray.empty, ((0 : Int), ((0 : Int), [])))).1])) none) (L0 v0_0 v0_1 (IntKind.wrap .i64 (v0_2 + (1 : Int))) v0_3)) none) (k v0_3))
def impl_labelsWhere__impl_LabelsOf_s1_P {ρ : Type} (f0 : ByteArray → Bool) (k : (List ByteArray) → Option ρ) (L0 : (List TEntry) → Int → Int → (List ByteArray) → Option ρ) (a0 : (List TEntry)) : Option ρ := (L0 a0 (List.length a0 : Int) (0 : Int) ([] : (List ByteArray)))
def impl_labelsWhere__impl_LabelsOf_s1_L0 {ρ : Type} (k : (List ByteArray) → Option ρ) (L0 : (List TEntry) → Int → Int → (List ByteArray) → Option ρ) (v0_0 : (List TEntry)) (v0_1 : Int) (v0_2 : Int) (v0_3 : (List ByteArray)) : Option ρ := impl_labelsWhere__impl_LabelsOf_s1_P_L0 N.impl_LabelsOf_s1 k L0 v0_0 v0_1 v0_2 v0_3
def impl_labelsWhere__impl_LabelsOf_s1 {ρ : Type} (k : (List ByteArray) → Option ρ) (L0 : (List TEntry) → Int → Int → (List ByteArray) → Option ρ) (a0 : (List TEntry)) : Option ρ := impl_labelsWhere__impl_LabelsOf_s1_P N.impl_LabelsOf_s1 k L0 a0
theorem impl_labelsWhere__impl_LabelsOf_s1_ok {ρ : Type} (k : (List ByteArray) → Option ρ) (a0 : (List TEntry)) (l_a0 : lnL (fun y => (True ∧ (True ∧ (True ∧ lnL (fun _ => True) y.2.2.2)))) a0) (g : G.impl_labelsWhere__impl_LabelsOf_s1 a0 = true) : ∃ n0, ∀ n, n0 ≤ n → ∀ (L0 : Nat → (List TEntry) → Int → Int → (List ByteArray) → Option ρ) (h0 : ∀ ( m : Nat) (v0_0 : (List TEntry)) (v0_1 : Int) (v0_2 : Int) (v0_3 : (List ByteArray)), L0 (m + 1) v0_0 v0_1 v0_2 v0_3 = impl_labelsWhere__impl_LabelsOf_s1_L0 k (L0 m) v0_0 v0_1 v0_2 v0_3), impl_labelsWhere__impl_LabelsOf_s1 k (L0 n) a0 = k (N.impl_labelsWhere__impl_LabelsOf_s1 a0) := by
  unfold G.impl_labelsWhere__impl_LabelsOf_s1 at g
  have gl : a0.length ≤ 1048576 := Nat.le_trans (wEs_ge a0) (of_decide_eq_true g)
  refine ⟨a0.length + 1, fun n hn L0 h0 => ?_⟩
  refine raw_map (a := a0) (ByteArray.empty, (0, (0, []))) (fun e => e.1) 1048576 (k := k) (L := fun m i o => L0 m a0 (a0.length : Int) i o) (R := fun i o c => impl_labelsWhere__impl_LabelsOf_s1_L0 k (fun _ _ i o => c i o) a0 (a0.length : Int) i o) (fun m i s => h0 m a0 (a0.length : Int) i s) (fun j o c hj ho => ?_) (fun o c => ?_) gl hn
  · have hf : fit (List.length o) (List.length [(a0.getD j (ByteArray.empty, (0, (0, [])))).1]) = true := fit_of (by simp; omega)
    simp only [impl_labelsWhere__impl_LabelsOf_s1_L0, impl_labelsWhere__impl_LabelsOf_s1_P_L0, lt_nat, inRange_nat, decide_eq_true hj, cond_true, Int.toNat_natCast, hf, wrap_succ (j := j) (by unfold big; omega)]
    rfl
  · simp [impl_labelsWhere__impl_LabelsOf_s1_L0, impl_labelsWhere__impl_LabelsOf_s1_P_L0]
def OP_impl_labelsWhere__impl_LabelsOf_s1 (f0 : ByteArray → Bool) : Orac := (orcX 42 [.val .str] (fun d => true) (fun d => [⟨.bool, f0 d.1⟩]) nilO)
def O_impl_labelsWhere__impl_LabelsOf_s1 : Orac := OP_impl_labelsWhere__impl_LabelsOf_s1 N.impl_LabelsOf_s1
theorem ok_impl_labelsWhere__impl_LabelsOf_s1 : OracOk Tryz.prog sigs O_impl_labelsWhere__impl_LabelsOf_s1 := (orcX_ok rfl rfl (fun d g => said_impl_LabelsOf_s1 d.1) nilO_ok)
def A_impl_labelsWhere__impl_LabelsOf_s1 : Ann := fun b => cond (Nat.beq b 0) ⟨[(1, false), (5, true), (9, false), (10, false), (11, false)], []⟩ (⟨[], []⟩)
def S_impl_labelsWhere__impl_LabelsOf_s1_0 (v0_0 : (List TEntry)) (v0_1 : Int) (v0_2 : Int) (v0_3 : (List ByteArray)) : St := [(kT 1, some (.tv (.clo 42 []))), (kT 5, some (.tv (.v (.slice 9 .str) [] (.own 40)))), (kT 9, some (.tv (.v (.slice 27 TyEntry) v0_0 .no))), (kT 10, some (.tv (.v (.int .i64) v0_1 .no))), (kT 11, some (.tv (.v (.int .i64) v0_2 .no))), (kR 40, some (.row 9 .str v0_3))]
noncomputable def L_P_impl_labelsWhere__impl_LabelsOf_s1_0 (f0 : ByteArray → Bool) (n m : Nat) : St → Option Ret := loopOf tab sigs (OP_impl_labelsWhere__impl_LabelsOf_s1 f0) A_impl_labelsWhere__impl_LabelsOf_s1 Tryz.f38 [((.slice 9 .str), (.own 0))] n (fun _ => 0) 0 m
theorem bP_impl_labelsWhere__impl_LabelsOf_s1_0 (f0 : ByteArray → Bool) (n m : Nat) (v0_0 : (List TEntry)) (v0_1 : Int) (v0_2 : Int) (v0_3 : (List ByteArray)) : L_P_impl_labelsWhere__impl_LabelsOf_s1_0 f0 n (m + 1) (S_impl_labelsWhere__impl_LabelsOf_s1_0 v0_0 v0_1 v0_2 v0_3) = impl_labelsWhere__impl_LabelsOf_s1_P_L0 f0 (fun r0 => some [⟨(.slice 9 .str), r0⟩]) (fun v0_0 v0_1 v0_2 v0_3 => L_P_impl_labelsWhere__impl_LabelsOf_s1_0 f0 n m (S_impl_labelsWhere__impl_LabelsOf_s1_0 v0_0 v0_1 v0_2 v0_3)) v0_0 v0_1 v0_2 v0_3 := by kernel_rfl
theorem aP_impl_labelsWhere__impl_LabelsOf_s1 (f0 : ByteArray → Bool) (n : Nat) (a0 : (List TEntry)) : absF tab sigs (OP_impl_labelsWhere__impl_LabelsOf_s1 f0) A_impl_labelsWhere__impl_LabelsOf_s1 Tryz.f38 [((.slice 9 .str), (.own 0))] n [.val (.slice 27 TyEntry) a0, .clo 42 []] = impl_labelsWhere__impl_LabelsOf_s1_P f0 (fun r0 => some [⟨(.slice 9 .str), r0⟩]) (fun v0_0 v0_1 v0_2 v0_3 => L_P_impl_labelsWhere__impl_LabelsOf_s1_0 f0 n n (S_impl_labelsWhere__impl_LabelsOf_s1_0 v0_0 v0_1 v0_2 v0_3)) a0 := by kernel_rfl
theorem said_impl_labelsWhere__impl_LabelsOf_s1 (a0 : (List TEntry)) (g : G.impl_labelsWhere__impl_LabelsOf_s1 a0 = true) : Said Tryz.prog sigs_38 38 [.val (.slice 27 TyEntry) a0, .clo 42 []] [⟨(.slice 9 .str), N.impl_labelsWhere__impl_LabelsOf_s1 a0⟩] := said_len (T := tab) (A := A_impl_labelsWhere__impl_LabelsOf_s1) tabOk ok_impl_labelsWhere__impl_LabelsOf_s1 tabOk.follows Tryz.func38 (by kernel_rfl) (by kernel_rfl) (fun hl => let ⟨n, hn⟩ := impl_labelsWhere__impl_LabelsOf_s1_ok (ρ := Ret) (fun r0 => some [⟨(.slice 9 .str), r0⟩]) a0 hl.1 g; ⟨n, (aP_impl_labelsWhere__impl_LabelsOf_s1 N.impl_LabelsOf_s1 n a0).trans (hn n (Nat.le_refl n) (fun  m v0_0 v0_1 v0_2 v0_3 => L_P_impl_labelsWhere__impl_LabelsOf_s1_0 N.impl_LabelsOf_s1 n  m (S_impl_labelsWhere__impl_LabelsOf_s1_0 v0_0 v0_1 v0_2 v0_3)) (fun  m v0_0 v0_1 v0_2 v0_3 => bP_impl_labelsWhere__impl_LabelsOf_s1_0 N.impl_LabelsOf_s1 n  m v0_0 v0_1 v0_2 v0_3))⟩)
abbrev G.impl_LabelsOf (l : List TEntry) : Bool := decide (wEs l ≤ 1048576)
abbrev N.impl_LabelsOf (l : List TEntry) : List ByteArray := l.map fun e => e.1
def impl_LabelsOf {ρ : Type} (k : (List ByteArray) → Option ρ) (a0 : (List TEntry)) : Option ρ := (cond (G.impl_labelsWhere__impl_LabelsOf_s1 a0) (k (N.impl_labelsWhere__impl_LabelsOf_s1 a0)) none)
theorem impl_LabelsOf_ok {ρ : Type} (k : (List ByteArray) → Option ρ) (a0 : (List TEntry)) (l_a0 : lnL (fun y => (True ∧ (True ∧ (True ∧ lnL (fun _ => True) y.2.2.2)))) a0) (g : G.impl_LabelsOf a0 = true) : impl_LabelsOf k  a0 = k (N.impl_LabelsOf a0) := by
  unfold G.impl_LabelsOf at g
  show cond (decide (wEs a0 ≤ 1048576)) _ none = _
  rw [g]
  rfl
def OP_impl_LabelsOf (f0 : (List TEntry) → (List ByteArray)) (g0 : (List TEntry) → Bool) : Orac := (orcX 38 [.val (.slice 27 TyEntry), .clo 42 []] (fun d => g0 d.1) (fun d => [⟨(.slice 9 .str), f0 d.1⟩]) nilO)
def O_impl_LabelsOf : Orac := OP_impl_LabelsOf N.impl_labelsWhere__impl_LabelsOf_s1 G.impl_labelsWhere__impl_LabelsOf_s1
def impl_LabelsOf_P {ρ : Type} (f0 : (List TEntry) → (List ByteArray)) (g0 : (List TEntry) → Bool) (k : (List ByteArray) → Option ρ) (a0 : (List TEntry)) : Option ρ := (cond (g0 a0) (k (f0 a0)) none)
theorem ok_impl_LabelsOf : OracOk Tryz.prog sigs O_impl_LabelsOf := (orcX_ok rfl rfl (fun d g => said_impl_labelsWhere__impl_LabelsOf_s1 d.1 g) nilO_ok)
def A_impl_LabelsOf : Ann := fun b => ⟨[], []⟩
theorem aP_impl_LabelsOf (f0 : (List TEntry) → (List ByteArray)) (g0 : (List TEntry) → Bool) (n : Nat) (a0 : (List TEntry)) : absF tab sigs (OP_impl_LabelsOf f0 g0) A_impl_LabelsOf Tryz.f16 [((.slice 9 .str), (.own 0))] n [.val (.slice 27 TyEntry) a0] = impl_LabelsOf_P f0 g0 (fun r0 => some [⟨(.slice 9 .str), r0⟩])  a0 := by kernel_rfl
theorem said_impl_LabelsOf (a0 : (List TEntry)) (g : G.impl_LabelsOf a0 = true) : Said Tryz.prog sigs_16 16 [.val (.slice 27 TyEntry) a0] [⟨(.slice 9 .str), N.impl_LabelsOf a0⟩] := said_len (T := tab) (A := A_impl_LabelsOf) tabOk ok_impl_LabelsOf tabOk.follows Tryz.func16 (by kernel_rfl) (by kernel_rfl) (fun hl => ⟨0, (aP_impl_LabelsOf N.impl_labelsWhere__impl_LabelsOf_s1 G.impl_labelsWhere__impl_LabelsOf_s1 0 a0).trans (impl_LabelsOf_ok (ρ := Ret) (fun r0 => some [⟨(.slice 9 .str), r0⟩]) a0 hl.1 g)⟩)
abbrev G.spec_PlainOf (s : ByteArray) : Bool := decide (s.size ≤ 1048576)
abbrev N.spec_PlainOf (s : ByteArray) : ByteArray := plainOf s
def spec_PlainOf_L0 {ρ : Type} (k : ByteArray → Option ρ) (L0 : ByteArray → Int → (List Int) → Option ρ) (v0_0 : ByteArray) (v0_1 : Int) (v0_2 : (List Int)) : Option ρ := (cond (decide (v0_1 < (ByteArray.size v0_0 : Int))) (cond (inRange v0_1 (ByteArray.size v0_0)) (cond ((bt v0_0 v0_1) == (48 : Int)) (cond (fit (List.length v0_2) (List.length [(111 : Int)])) (L0 v0_0 (IntKind.wrap .i64 (v0_1 + (1 : Int))) (List.append v0_2 [(111 : Int)])) none) (cond ((bt v0_0 v0_1) == (49 : Int)) (cond (fit (List.length v0_2) (List.length [(108 : Int)])) (L0 v0_0 (IntKind.wrap .i64 (v0_1 + (1 : Int))) (List.append v0_2 [(108 : Int)])) none) (cond ((bt v0_0 v0_1) == (53 : Int)) (cond (fit (List.length v0_2) (List.length [(115 : Int)])) (L0 v0_0 (IntKind.wrap .i64 (v0_1 + (1 : Int))) (List.append v0_2 [(115 : Int)])) none) (cond ((bt v0_0 v0_1) == (45 : Int)) (L0 v0_0 (IntKind.wrap .i64 (v0_1 + (1 : Int))) v0_2) (cond (inRange v0_1 (ByteArray.size v0_0)) (cond (fit (List.length v0_2) (List.length [(bt v0_0 v0_1)])) (L0 v0_0 (IntKind.wrap .i64 (v0_1 + (1 : Int))) (List.append v0_2 [(bt v0_0 v0_1)])) none) none))))) none) (k (strOfNums v0_2)))
def spec_PlainOf {ρ : Type} (k : ByteArray → Option ρ) (L0 : ByteArray → Int → (List Int) → Option ρ) (a0 : ByteArray) : Option ρ := (L0 a0 (0 : Int) ([] : (List Int)))
theorem spec_PlainOf_ok {ρ : Type} (k : ByteArray → Option ρ) (a0 : ByteArray) (g : G.spec_PlainOf a0 = true) : ∃ n0, ∀ n, n0 ≤ n → ∀ (L0 : Nat → ByteArray → Int → (List Int) → Option ρ) (h0 : ∀ ( m : Nat) (v0_0 : ByteArray) (v0_1 : Int) (v0_2 : (List Int)), L0 (m + 1) v0_0 v0_1 v0_2 = spec_PlainOf_L0 k (L0 m) v0_0 v0_1 v0_2), spec_PlainOf k (L0 n) a0 = k (N.spec_PlainOf a0) := by
  unfold G.spec_PlainOf at g
  have hl : a0.size ≤ 1048576 := of_decide_eq_true g
  have hb := bytesOf_length a0
  refine ⟨a0.size + 1, fun n hn L0 h0 => ?_⟩
  refine raw_filter (a := bytesOf a0) 0 plainB 1048576 (k := fun o => k (strOfNums o)) (L := fun m i o => L0 m a0 i o) (R := fun i o c => spec_PlainOf_L0 k (fun _ i o => c i o) a0 i o) (fun m i s => h0 m a0 i s) (fun j o c hj ho => ?_) (fun o c => ?_) (by omega) (by omega)
  · have hj2 : j < a0.size := by omega
    have h1 : j < big := by unfold big; omega
    have hf : ∀ x : Int, fit (List.length o) (List.length [x]) = true := fun x => fit_of (by simp; omega)
    have e1 : (bytesOf a0).getD j 0 = bt a0 (j : Int) := bytes_at a0 j
    have e2 : inRange (j : Int) (ByteArray.size a0) = true := by rw [inRange_nat]; exact decide_eq_true hj2
    have e3 : decide ((j : Int) < (ByteArray.size a0 : Int)) = true := decide_eq_true (by omega)
    simp only [spec_PlainOf_L0, e2, e3, cond_true, hf, wrap_succ h1, e1, plainB]
    cases (bt a0 (j : Int) == 48) <;> cases (bt a0 (j : Int) == 49) <;> cases (bt a0 (j : Int) == 53) <;> cases (bt a0 (j : Int) == 45) <;> rfl
  · have e3 : decide (((bytesOf a0).length : Int) < (ByteArray.size a0 : Int)) = false := decide_eq_false (by omega)
    simp only [spec_PlainOf_L0, e3, cond_false]
def O_spec_PlainOf : Orac := nilO
theorem ok_spec_PlainOf : OracOk Tryz.prog sigs O_spec_PlainOf := nilO_ok
def A_spec_PlainOf : Ann := fun b => cond (Nat.beq b 0) ⟨[(0, false), (3, true), (4, false)], []⟩ (⟨[], []⟩)
def S_spec_PlainOf_0 (v0_0 : ByteArray) (v0_1 : Int) (v0_2 : (List Int)) : St := [(kT 0, some (.tv (.v .str v0_0 .no))), (kT 3, some (.tv (.v (.slice 5 (.int .u8)) [] (.own 24)))), (kT 4, some (.tv (.v (.int .i64) v0_1 .no))), (kR 24, some (.row 5 (.int .u8) v0_2))]
noncomputable def L_spec_PlainOf_0 (n m : Nat) : St → Option Ret := loopOf tab sigs O_spec_PlainOf A_spec_PlainOf Tryz.f63 [(.str, .no)] n (fun _ => 0) 0 m
theorem b_spec_PlainOf_0 (n m : Nat) (v0_0 : ByteArray) (v0_1 : Int) (v0_2 : (List Int)) : L_spec_PlainOf_0 n (m + 1) (S_spec_PlainOf_0 v0_0 v0_1 v0_2) = spec_PlainOf_L0 (fun r0 => some [⟨.str, r0⟩]) (fun v0_0 v0_1 v0_2 => L_spec_PlainOf_0 n m (S_spec_PlainOf_0 v0_0 v0_1 v0_2)) v0_0 v0_1 v0_2 := by kernel_rfl
theorem a_spec_PlainOf (n : Nat) (a0 : ByteArray) : absF tab sigs O_spec_PlainOf A_spec_PlainOf Tryz.f63 [(.str, .no)] n [.val .str a0] = spec_PlainOf (fun r0 => some [⟨.str, r0⟩]) (fun v0_0 v0_1 v0_2 => L_spec_PlainOf_0 n n (S_spec_PlainOf_0 v0_0 v0_1 v0_2)) a0 := by kernel_rfl
theorem said_spec_PlainOf (a0 : ByteArray) (g : G.spec_PlainOf a0 = true) : Said Tryz.prog sigs_63 63 [.val .str a0] [⟨.str, N.spec_PlainOf a0⟩] := said_len (T := tab) (A := A_spec_PlainOf) tabOk ok_spec_PlainOf tabOk.follows Tryz.func63 (by kernel_rfl) (by kernel_rfl) (fun hl => let ⟨n, hn⟩ := spec_PlainOf_ok (ρ := Ret) (fun r0 => some [⟨.str, r0⟩]) a0 g; ⟨n, (a_spec_PlainOf n a0).trans (hn n (Nat.le_refl n) (fun  m v0_0 v0_1 v0_2 => L_spec_PlainOf_0 n  m (S_spec_PlainOf_0 v0_0 v0_1 v0_2)) (fun  m v0_0 v0_1 v0_2 => b_spec_PlainOf_0 n  m v0_0 v0_1 v0_2))⟩)
abbrev G.spec_LooksLike (a b : ByteArray) : Bool := decide (a.size ≤ 1048576) && decide (b.size ≤ 1048576)
abbrev N.spec_LooksLike (a b : ByteArray) : Bool := looksLike a b
def spec_LooksLike_P {ρ : Type} (f0 : ByteArray → Bool) (g0 : ByteArray → Bool) (f1 : ByteArray → ByteArray) (g1 : ByteArray → Bool) (k : Bool → Option ρ) (a0 : ByteArray) (a1 : ByteArray) : Option ρ := (cond (g0 a0) (cond (f0 a0) (cond (g0 a1) (cond (f0 a1) (cond (g1 a0) (cond (g1 a1) (k ((ByteArray.toList (f1 a0)) == (ByteArray.toList (f1 a1)))) none) none) (k false)) none) (k false)) none)
def spec_LooksLike {ρ : Type} (k : Bool → Option ρ) (a0 : ByteArray) (a1 : ByteArray) : Option ρ := spec_LooksLike_P N.spec_IsLabel G.spec_IsLabel N.spec_PlainOf G.spec_PlainOf k a0 a1
theorem spec_LooksLike_ok {ρ : Type} (k : Bool → Option ρ) (a0 : ByteArray) (a1 : ByteArray) (g : G.spec_LooksLike a0 a1 = true) : spec_LooksLike k  a0 a1 = k (N.spec_LooksLike a0 a1) := by
  unfold G.spec_LooksLike at g
  obtain ⟨g1, g2⟩ := (Bool.and_eq_true _ _).mp g
  simp only [spec_LooksLike, spec_LooksLike_P, G.spec_IsLabel, N.spec_IsLabel, G.spec_PlainOf, N.spec_PlainOf, g1, g2, cond_true]
  unfold N.spec_LooksLike looksLike
  cases isLabel a0 <;> cases isLabel a1 <;> rfl
def OP_spec_LooksLike (f0 : ByteArray → Bool) (g0 : ByteArray → Bool) (f1 : ByteArray → ByteArray) (g1 : ByteArray → Bool) : Orac := (orcX 63 [.val .str] (fun d => g1 d.1) (fun d => [⟨.str, f1 d.1⟩]) (orcX 62 [.val .str] (fun d => g0 d.1) (fun d => [⟨.bool, f0 d.1⟩]) nilO))
def O_spec_LooksLike : Orac := OP_spec_LooksLike N.spec_IsLabel G.spec_IsLabel N.spec_PlainOf G.spec_PlainOf
theorem ok_spec_LooksLike : OracOk Tryz.prog sigs O_spec_LooksLike := (orcX_ok rfl rfl (fun d g => said_spec_PlainOf d.1 g) (orcX_ok rfl rfl (fun d g => said_spec_IsLabel d.1 g) nilO_ok))
def A_spec_LooksLike : Ann := fun b => ⟨[], []⟩
theorem aP_spec_LooksLike (f0 : ByteArray → Bool) (g0 : ByteArray → Bool) (f1 : ByteArray → ByteArray) (g1 : ByteArray → Bool) (n : Nat) (a0 : ByteArray) (a1 : ByteArray) : absF tab sigs (OP_spec_LooksLike f0 g0 f1 g1) A_spec_LooksLike Tryz.f43 [(.bool, .no)] n [.val .str a0, .val .str a1] = spec_LooksLike_P f0 g0 f1 g1 (fun r0 => some [⟨.bool, r0⟩])  a0 a1 := by kernel_rfl
theorem said_spec_LooksLike (a0 : ByteArray) (a1 : ByteArray) (g : G.spec_LooksLike a0 a1 = true) : Said Tryz.prog sigs_43 43 [.val .str a0, .val .str a1] [⟨.bool, N.spec_LooksLike a0 a1⟩] := said_len (T := tab) (A := A_spec_LooksLike) tabOk ok_spec_LooksLike tabOk.follows Tryz.func43 (by kernel_rfl) (by kernel_rfl) (fun hl => ⟨0, (aP_spec_LooksLike N.spec_IsLabel G.spec_IsLabel N.spec_PlainOf G.spec_PlainOf 0 a0 a1).trans (spec_LooksLike_ok (ρ := Ret) (fun r0 => some [⟨.bool, r0⟩]) a0 a1 g)⟩)
abbrev G.spec_AlikeIn (l : List TEntry) (s : ByteArray) : Bool := decide (wEs l ≤ 1048576) && decide (s.size ≤ 1048576)
abbrev N.spec_AlikeIn (l : List TEntry) (s : ByteArray) : List ByteArray := alikeIn l s
def spec_AlikeIn_P_L0 {ρ : Type} (f0 : ByteArray → ByteArray → Bool) (g0 : ByteArray → ByteArray → Bool) (k : (List ByteArray) → Option ρ) (L0 : (List TEntry) → ByteArray → Int → (List ByteArray) → Option ρ) (v0_0 : (List TEntry)) (v0_1 : ByteArray) (v0_2 : Int) (v0_3 : (List ByteArray)) : Option ρ := (cond (decide (v0_2 < (List.length v0_0 : Int))) (cond (inRange v0_2 (List.length v0_0)) (cond (!((ByteArray.toList (List.getD v0_0 (Int.toNat v0_2) (ByteArray.empty, ((0 : Int), ((0 : Int), [])))).1) == (ByteArray.toList v0_1))) (cond (inRange v0_2 (List.length v0_0)) (cond (g0 (List.getD v0_0 (Int.toNat v0_2) (ByteArray.empty, ((0 : Int), ((0 : Int), [])))).1 v0_1) (cond (f0 (List.getD v0_0 (Int.toNat v0_2) (ByteArray.empty, ((0 : Int), ((0 : Int), [])))).1 v0_1) (cond (inRange v0_2 (List.length v0_0)) (cond (fit (List.length v0_3) (List.length [(List.getD v0_0 (Int.toNat v0_2) (ByteArray.empty, ((0 : Int), ((0 : Int), [])))).1])) (L0 v0_0 v0_1 (IntKind.wrap .i64 (v0_2 + (1 : Int))) (List.append v0_3 [(List.getD v0_0 (Int.toNat v0_2) (ByteArray.empty, ((0 : Int), ((0 : Int), [])))).1])) none) none) (L0 v0_0 v0_1 (IntKind.wrap .i64 (v0_2 + (1 : Int))) v0_3)) none) none) (L0 v0_0 v0_1 (IntKind.wrap .i64 (v0_2 + (1 : Int))) v0_3)) none) (k v0_3))
def spec_AlikeIn_P {ρ : Type} (f0 : ByteArray → ByteArray → Bool) (g0 : ByteArray → ByteArray → Bool) (k : (List ByteArray) → Option ρ) (L0 : (List TEntry) → ByteArray → Int → (List ByteArray) → Option ρ) (a0 : (List TEntry)) (a1 : ByteArray) : Option ρ := (L0 a0 a1 (0 : Int) ([] : (List ByteArray)))
def spec_AlikeIn_L0 {ρ : Type} (k : (List ByteArray) → Option ρ) (L0 : (List TEntry) → ByteArray → Int → (List ByteArray) → Option ρ) (v0_0 : (List TEntry)) (v0_1 : ByteArray) (v0_2 : Int) (v0_3 : (List ByteArray)) : Option ρ := spec_AlikeIn_P_L0 N.spec_LooksLike G.spec_LooksLike k L0 v0_0 v0_1 v0_2 v0_3
def spec_AlikeIn {ρ : Type} (k : (List ByteArray) → Option ρ) (L0 : (List TEntry) → ByteArray → Int → (List ByteArray) → Option ρ) (a0 : (List TEntry)) (a1 : ByteArray) : Option ρ := spec_AlikeIn_P N.spec_LooksLike G.spec_LooksLike k L0 a0 a1
theorem spec_AlikeIn_ok {ρ : Type} (k : (List ByteArray) → Option ρ) (a0 : (List TEntry)) (a1 : ByteArray) (l_a0 : lnL (fun y => (True ∧ (True ∧ (True ∧ lnL (fun _ => True) y.2.2.2)))) a0) (g : G.spec_AlikeIn a0 a1 = true) : ∃ n0, ∀ n, n0 ≤ n → ∀ (L0 : Nat → (List TEntry) → ByteArray → Int → (List ByteArray) → Option ρ) (h0 : ∀ ( m : Nat) (v0_0 : (List TEntry)) (v0_1 : ByteArray) (v0_2 : Int) (v0_3 : (List ByteArray)), L0 (m + 1) v0_0 v0_1 v0_2 v0_3 = spec_AlikeIn_L0 k (L0 m) v0_0 v0_1 v0_2 v0_3), spec_AlikeIn k (L0 n) a0 a1 = k (N.spec_AlikeIn a0 a1) := by
  unfold G.spec_AlikeIn at g
  obtain ⟨g1, g2⟩ := (Bool.and_eq_true _ _).mp g
  have hw : wEs a0 ≤ 1048576 := of_decide_eq_true g1
  have hl := wEs_ge a0
  refine ⟨a0.length + 1, fun n hn L0 h0 => ?_⟩
  refine raw_filter (a := a0) (ByteArray.empty, (0, (0, []))) (alikeOf a1) 1048576 (k := k) (L := fun m i o => L0 m a0 a1 i o) (R := fun i o c => spec_AlikeIn_L0 k (fun _ _ i o => c i o) a0 a1 i o) (fun m i s => h0 m a0 a1 i s) (fun j o c hj ho => ?_) (fun o c => ?_) (by omega) hn
  · have h1 : j < big := by unfold big; omega
    have hm := wEs_mem (getD_mem (d := (ByteArray.empty, (0, (0, [])))) hj)
    have g3 : decide ((a0.getD j (ByteArray.empty, (0, (0, [])))).1.size ≤ 1048576) = true := decide_eq_true (by have := wE_lab (a0.getD j (ByteArray.empty, (0, (0, [])))); omega)
    have hf : ∀ x : ByteArray, fit (List.length o) (List.length [x]) = true := fun x => fit_of (by simp; omega)
    simp only [spec_AlikeIn_L0, spec_AlikeIn_P_L0, lt_nat, inRange_nat, decide_eq_true hj, cond_true, Int.toNat_natCast, G.spec_LooksLike, N.spec_LooksLike, g2, g3, Bool.and_self, hf, wrap_succ h1, alikeOf, eqStr]
    cases (ByteArray.toList (a0.getD j (ByteArray.empty, (0, (0, [])))).1 == ByteArray.toList a1) <;> cases looksLike (a0.getD j (ByteArray.empty, (0, (0, [])))).1 a1 <;> rfl
  · simp [spec_AlikeIn_L0, spec_AlikeIn_P_L0]
def OP_spec_AlikeIn (f0 : ByteArray → ByteArray → Bool) (g0 : ByteArray → ByteArray → Bool) : Orac := (orcX 43 [.val .str, .val .str] (fun d => g0 d.1 d.2.1) (fun d => [⟨.bool, f0 d.1 d.2.1⟩]) nilO)
def O_spec_AlikeIn : Orac := OP_spec_AlikeIn N.spec_LooksLike G.spec_LooksLike
theorem ok_spec_AlikeIn : OracOk Tryz.prog sigs O_spec_AlikeIn := (orcX_ok rfl rfl (fun d g => said_spec_LooksLike d.1 d.2.1 g) nilO_ok)
def A_spec_AlikeIn : Ann := fun b => cond (Nat.beq b 0) ⟨[(0, false), (1, false), (5, true), (6, false)], []⟩ (⟨[], []⟩)
def S_spec_AlikeIn_0 (v0_0 : (List TEntry)) (v0_1 : ByteArray) (v0_2 : Int) (v0_3 : (List ByteArray)) : St := [(kT 0, some (.tv (.v (.slice 27 TyEntry) v0_0 .no))), (kT 1, some (.tv (.v .str v0_1 .no))), (kT 5, some (.tv (.v (.slice 9 .str) [] (.own 40)))), (kT 6, some (.tv (.v (.int .i64) v0_2 .no))), (kR 40, some (.row 9 .str v0_3))]
noncomputable def L_P_spec_AlikeIn_0 (f0 : ByteArray → ByteArray → Bool) (g0 : ByteArray → ByteArray → Bool) (n m : Nat) : St → Option Ret := loopOf tab sigs (OP_spec_AlikeIn f0 g0) A_spec_AlikeIn Tryz.f17 [((.slice 9 .str), (.own 0))] n (fun _ => 0) 0 m
theorem bP_spec_AlikeIn_0 (f0 : ByteArray → ByteArray → Bool) (g0 : ByteArray → ByteArray → Bool) (n m : Nat) (v0_0 : (List TEntry)) (v0_1 : ByteArray) (v0_2 : Int) (v0_3 : (List ByteArray)) : L_P_spec_AlikeIn_0 f0 g0 n (m + 1) (S_spec_AlikeIn_0 v0_0 v0_1 v0_2 v0_3) = spec_AlikeIn_P_L0 f0 g0 (fun r0 => some [⟨(.slice 9 .str), r0⟩]) (fun v0_0 v0_1 v0_2 v0_3 => L_P_spec_AlikeIn_0 f0 g0 n m (S_spec_AlikeIn_0 v0_0 v0_1 v0_2 v0_3)) v0_0 v0_1 v0_2 v0_3 := by kernel_rfl
theorem aP_spec_AlikeIn (f0 : ByteArray → ByteArray → Bool) (g0 : ByteArray → ByteArray → Bool) (n : Nat) (a0 : (List TEntry)) (a1 : ByteArray) : absF tab sigs (OP_spec_AlikeIn f0 g0) A_spec_AlikeIn Tryz.f17 [((.slice 9 .str), (.own 0))] n [.val (.slice 27 TyEntry) a0, .val .str a1] = spec_AlikeIn_P f0 g0 (fun r0 => some [⟨(.slice 9 .str), r0⟩]) (fun v0_0 v0_1 v0_2 v0_3 => L_P_spec_AlikeIn_0 f0 g0 n n (S_spec_AlikeIn_0 v0_0 v0_1 v0_2 v0_3)) a0 a1 := by kernel_rfl
theorem said_spec_AlikeIn (a0 : (List TEntry)) (a1 : ByteArray) (g : G.spec_AlikeIn a0 a1 = true) : Said Tryz.prog sigs_17 17 [.val (.slice 27 TyEntry) a0, .val .str a1] [⟨(.slice 9 .str), N.spec_AlikeIn a0 a1⟩] := said_len (T := tab) (A := A_spec_AlikeIn) tabOk ok_spec_AlikeIn tabOk.follows Tryz.func17 (by kernel_rfl) (by kernel_rfl) (fun hl => let ⟨n, hn⟩ := spec_AlikeIn_ok (ρ := Ret) (fun r0 => some [⟨(.slice 9 .str), r0⟩]) a0 a1 hl.1 g; ⟨n, (aP_spec_AlikeIn N.spec_LooksLike G.spec_LooksLike n a0 a1).trans (hn n (Nat.le_refl n) (fun  m v0_0 v0_1 v0_2 v0_3 => L_P_spec_AlikeIn_0 N.spec_LooksLike G.spec_LooksLike n  m (S_spec_AlikeIn_0 v0_0 v0_1 v0_2 v0_3)) (fun  m v0_0 v0_1 v0_2 v0_3 => bP_spec_AlikeIn_0 N.spec_LooksLike G.spec_LooksLike n  m v0_0 v0_1 v0_2 v0_3))⟩)
end Go.Proofs.YtcmjbplnjjdcdaaGreat.Ref
