/- Functions of the program: what each computes, and that it does so.
   Conditions: as each theorem states. -/
import Derived.Test.YthgbcbnmdioknaaSB2
import Derived.WalkKit
import Derived.Lib.Bytealg
set_option linter.unusedVariables false
set_option linter.unusedSimpArgs false
set_option maxRecDepth 100000
namespace Go.Proofs.Ythgbcbnmdioknaa.Ref
open Go.RowKit Go.Proofs.YthgbcbnmdioknaaW.PrintWords Go.Proofs.YthgbcbnmdioknaaW.PrintLast
abbrev N.impl_isDigest (n : Int) : Bool := isDigest n
def impl_isDigest {ρ : Type} (k : Bool → Option ρ) (a0 : Int) : Option ρ := (k (N.impl_InRange a0 (0 : Int) (2147483646 : Int)))
theorem impl_isDigest_ok {ρ : Type} (k : Bool → Option ρ) (a0 : Int) : impl_isDigest k  a0 = k (N.impl_isDigest a0) := by
  rfl
def OP_impl_isDigest (f0 : Int → Int → Int → Bool) : Orac := (orcX 43 [.val (.int .i64), .val (.int .i64), .val (.int .i64)] (fun d => true) (fun d => [⟨.bool, f0 d.1 d.2.1 d.2.2.1⟩]) nilO)
def O_impl_isDigest : Orac := OP_impl_isDigest N.impl_InRange
def impl_isDigest_P {ρ : Type} (f0 : Int → Int → Int → Bool) (k : Bool → Option ρ) (a0 : Int) : Option ρ := (k (f0 a0 (0 : Int) (2147483646 : Int)))
theorem ok_impl_isDigest : OracOk Try.prog sigs O_impl_isDigest := (orcX_ok rfl rfl (fun d g => said_impl_InRange d.1 d.2.1 d.2.2.1) nilO_ok)
def A_impl_isDigest : Ann := fun b => ⟨[], []⟩
theorem aP_impl_isDigest (f0 : Int → Int → Int → Bool) (n : Nat) (a0 : Int) : absF tab sigs (OP_impl_isDigest f0) A_impl_isDigest Try.f91 [(.bool, .no)] n [.val (.int .i64) a0] = impl_isDigest_P f0 (fun r0 => some [⟨.bool, r0⟩])  a0 := by kernel_rfl
theorem said_impl_isDigest (a0 : Int) : Said Try.prog sigs_91 91 [.val (.int .i64) a0] [⟨.bool, N.impl_isDigest a0⟩] := said_len (T := tab) (A := A_impl_isDigest) tabOk ok_impl_isDigest tabOk.follows Try.func91 (by kernel_rfl) (by kernel_rfl) (fun hl => ⟨0, (aP_impl_isDigest N.impl_InRange 0 a0).trans (impl_isDigest_ok (ρ := Ret) (fun r0 => some [⟨.bool, r0⟩]) a0)⟩)
abbrev G.impl_IsPath_s1 (s : ByteArray) : Bool := decide (s.size ≤ 1048576)
abbrev N.impl_IsPath_s1 (s : ByteArray) : Bool := !(isLabel s)
def impl_IsPath_s1 {ρ : Type} (k : Bool → Option ρ) (a0 : ByteArray) : Option ρ := (cond (G.impl_IsLabel a0) (k (!(N.impl_IsLabel a0))) none)
theorem impl_IsPath_s1_ok {ρ : Type} (k : Bool → Option ρ) (a0 : ByteArray) (g : G.impl_IsPath_s1 a0 = true) : impl_IsPath_s1 k  a0 = k (N.impl_IsPath_s1 a0) := by
  unfold G.impl_IsPath_s1 at g
  show cond (decide (a0.size ≤ 1048576)) _ none = _
  rw [g]
  rfl
def OP_impl_IsPath_s1 (f0 : ByteArray → Bool) (g0 : ByteArray → Bool) : Orac := (orcX 90 [.val .str] (fun d => g0 d.1) (fun d => [⟨.bool, f0 d.1⟩]) nilO)
def O_impl_IsPath_s1 : Orac := OP_impl_IsPath_s1 N.impl_IsLabel G.impl_IsLabel
def impl_IsPath_s1_P {ρ : Type} (f0 : ByteArray → Bool) (g0 : ByteArray → Bool) (k : Bool → Option ρ) (a0 : ByteArray) : Option ρ := (cond (g0 a0) (k (!(f0 a0))) none)
theorem ok_impl_IsPath_s1 : OracOk Try.prog sigs O_impl_IsPath_s1 := (orcX_ok rfl rfl (fun d g => said_impl_IsLabel d.1 g) nilO_ok)
def A_impl_IsPath_s1 : Ann := fun b => ⟨[], []⟩
theorem aP_impl_IsPath_s1 (f0 : ByteArray → Bool) (g0 : ByteArray → Bool) (n : Nat) (a0 : ByteArray) : absF tab sigs (OP_impl_IsPath_s1 f0 g0) A_impl_IsPath_s1 Try.f109 [(.bool, .no)] n [.val .str a0] = impl_IsPath_s1_P f0 g0 (fun r0 => some [⟨.bool, r0⟩])  a0 := by kernel_rfl
theorem said_impl_IsPath_s1 (a0 : ByteArray) (g : G.impl_IsPath_s1 a0 = true) : Said Try.prog sigs_109 109 [.val .str a0] [⟨.bool, N.impl_IsPath_s1 a0⟩] := said_len (T := tab) (A := A_impl_IsPath_s1) tabOk ok_impl_IsPath_s1 tabOk.follows Try.func109 (by kernel_rfl) (by kernel_rfl) (fun hl => ⟨0, (aP_impl_IsPath_s1 N.impl_IsLabel G.impl_IsLabel 0 a0).trans (impl_IsPath_s1_ok (ρ := Ret) (fun r0 => some [⟨.bool, r0⟩]) a0 g)⟩)
abbrev G.slices_IndexFunc_string__impl_IsPath_s1 (p : List ByteArray) : Bool := decide (wP p ≤ 1048576)
abbrev N.slices_IndexFunc_string__impl_IsPath_s1 (p : List ByteArray) : Int := idxFrom (fun s => !(isLabel s)) 0 p
def slices_IndexFunc_string__impl_IsPath_s1_P_L0 {ρ : Type} (f0 : ByteArray → Bool) (g0 : ByteArray → Bool) (k : Int → Option ρ) (L0 : (List ByteArray) → Int → Int → Option ρ) (v0_0 : (List ByteArray)) (v0_1 : Int) (v0_2 : Int) : Option ρ := (cond (decide (v0_2 < v0_1)) (cond (inRange v0_2 (List.length v0_0)) (cond (g0 (List.getD v0_0 (Int.toNat v0_2) ByteArray.empty)) (cond (f0 (List.getD v0_0 (Int.toNat v0_2) ByteArray.empty)) (k v0_2) (L0 v0_0 v0_1 (IntKind.wrap .i64 (v0_2 + (1 : Int))))) none) none) (k (-1 : Int)))
def slices_IndexFunc_string__impl_IsPath_s1_P {ρ : Type} (f0 : ByteArray → Bool) (g0 : ByteArray → Bool) (k : Int → Option ρ) (L0 : (List ByteArray) → Int → Int → Option ρ) (a0 : (List ByteArray)) : Option ρ := (L0 a0 (List.length a0 : Int) (0 : Int))
def slices_IndexFunc_string__impl_IsPath_s1_L0 {ρ : Type} (k : Int → Option ρ) (L0 : (List ByteArray) → Int → Int → Option ρ) (v0_0 : (List ByteArray)) (v0_1 : Int) (v0_2 : Int) : Option ρ := slices_IndexFunc_string__impl_IsPath_s1_P_L0 N.impl_IsPath_s1 G.impl_IsPath_s1 k L0 v0_0 v0_1 v0_2
def slices_IndexFunc_string__impl_IsPath_s1 {ρ : Type} (k : Int → Option ρ) (L0 : (List ByteArray) → Int → Int → Option ρ) (a0 : (List ByteArray)) : Option ρ := slices_IndexFunc_string__impl_IsPath_s1_P N.impl_IsPath_s1 G.impl_IsPath_s1 k L0 a0
theorem slices_IndexFunc_string__impl_IsPath_s1_ok {ρ : Type} (k : Int → Option ρ) (a0 : (List ByteArray)) (l_a0 : lnL (fun _ => True) a0) (g : G.slices_IndexFunc_string__impl_IsPath_s1 a0 = true) : ∃ n0, ∀ n, n0 ≤ n → ∀ (L0 : Nat → (List ByteArray) → Int → Int → Option ρ) (h0 : ∀ ( m : Nat) (v0_0 : (List ByteArray)) (v0_1 : Int) (v0_2 : Int), L0 (m + 1) v0_0 v0_1 v0_2 = slices_IndexFunc_string__impl_IsPath_s1_L0 k (L0 m) v0_0 v0_1 v0_2), slices_IndexFunc_string__impl_IsPath_s1 k (L0 n) a0 = k (N.slices_IndexFunc_string__impl_IsPath_s1 a0) := by
  unfold G.slices_IndexFunc_string__impl_IsPath_s1 at g
  have hw : wP a0 ≤ 1048576 := of_decide_eq_true g
  have hl : a0.length ≤ 1048576 := by unfold wP at hw; omega
  refine ⟨a0.length + 1, fun n hn L0 h0 => ?_⟩
  refine raw_idx (a := a0) ByteArray.empty (fun s => !(isLabel s)) (k := k) (σ := Unit) (s := ()) (L := fun m i _ => L0 m a0 (a0.length : Int) i) (R := fun i s c => slices_IndexFunc_string__impl_IsPath_s1_L0 k (fun _ _ i => c i ()) a0 (a0.length : Int) i) (fun m i s => h0 m a0 (a0.length : Int) i) (fun j s c hj => ?_) (fun s c => ?_) hn
  · have hm := wP_mem (getD_mem (d := ByteArray.empty) hj)
    have g2 : decide ((a0.getD j ByteArray.empty).size ≤ 1048576) = true := by simp only [decide_eq_true_eq]; omega
    simp only [slices_IndexFunc_string__impl_IsPath_s1_L0, slices_IndexFunc_string__impl_IsPath_s1_P_L0, lt_nat, inRange_nat, decide_eq_true hj, cond_true, Int.toNat_natCast, G.impl_IsPath_s1, N.impl_IsPath_s1, g2, wrap_succ (j := j) (by unfold big; omega)]
  · simp [slices_IndexFunc_string__impl_IsPath_s1_L0, slices_IndexFunc_string__impl_IsPath_s1_P_L0]
def OP_slices_IndexFunc_string__impl_IsPath_s1 (f0 : ByteArray → Bool) (g0 : ByteArray → Bool) : Orac := (orcX 109 [.val .str] (fun d => g0 d.1) (fun d => [⟨.bool, f0 d.1⟩]) nilO)
def O_slices_IndexFunc_string__impl_IsPath_s1 : Orac := OP_slices_IndexFunc_string__impl_IsPath_s1 N.impl_IsPath_s1 G.impl_IsPath_s1
theorem ok_slices_IndexFunc_string__impl_IsPath_s1 : OracOk Try.prog sigs O_slices_IndexFunc_string__impl_IsPath_s1 := (orcX_ok rfl rfl (fun d g => said_impl_IsPath_s1 d.1 g) nilO_ok)
def A_slices_IndexFunc_string__impl_IsPath_s1 : Ann := fun b => cond (Nat.beq b 0) ⟨[(0, false), (1, false), (7, false), (8, false)], []⟩ (⟨[], []⟩)
def S_slices_IndexFunc_string__impl_IsPath_s1_0 (v0_0 : (List ByteArray)) (v0_1 : Int) (v0_2 : Int) : St := [(kT 0, some (.tv (.v (.slice 9 .str) v0_0 .no))), (kT 1, some (.tv (.clo 109 []))), (kT 7, some (.tv (.v (.int .i64) v0_1 .no))), (kT 8, some (.tv (.v (.int .i64) v0_2 .no)))]
noncomputable def L_P_slices_IndexFunc_string__impl_IsPath_s1_0 (f0 : ByteArray → Bool) (g0 : ByteArray → Bool) (n m : Nat) : St → Option Ret := loopOf tab sigs (OP_slices_IndexFunc_string__impl_IsPath_s1 f0 g0) A_slices_IndexFunc_string__impl_IsPath_s1 Try.f132 [((.int .i64), .no)] n (fun _ => 0) 0 m
theorem bP_slices_IndexFunc_string__impl_IsPath_s1_0 (f0 : ByteArray → Bool) (g0 : ByteArray → Bool) (n m : Nat) (v0_0 : (List ByteArray)) (v0_1 : Int) (v0_2 : Int) : L_P_slices_IndexFunc_string__impl_IsPath_s1_0 f0 g0 n (m + 1) (S_slices_IndexFunc_string__impl_IsPath_s1_0 v0_0 v0_1 v0_2) = slices_IndexFunc_string__impl_IsPath_s1_P_L0 f0 g0 (fun r0 => some [⟨(.int .i64), r0⟩]) (fun v0_0 v0_1 v0_2 => L_P_slices_IndexFunc_string__impl_IsPath_s1_0 f0 g0 n m (S_slices_IndexFunc_string__impl_IsPath_s1_0 v0_0 v0_1 v0_2)) v0_0 v0_1 v0_2 := by kernel_rfl
theorem aP_slices_IndexFunc_string__impl_IsPath_s1 (f0 : ByteArray → Bool) (g0 : ByteArray → Bool) (n : Nat) (a0 : (List ByteArray)) : absF tab sigs (OP_slices_IndexFunc_string__impl_IsPath_s1 f0 g0) A_slices_IndexFunc_string__impl_IsPath_s1 Try.f132 [((.int .i64), .no)] n [.val (.slice 9 .str) a0, .clo 109 []] = slices_IndexFunc_string__impl_IsPath_s1_P f0 g0 (fun r0 => some [⟨(.int .i64), r0⟩]) (fun v0_0 v0_1 v0_2 => L_P_slices_IndexFunc_string__impl_IsPath_s1_0 f0 g0 n n (S_slices_IndexFunc_string__impl_IsPath_s1_0 v0_0 v0_1 v0_2)) a0 := by kernel_rfl
theorem said_slices_IndexFunc_string__impl_IsPath_s1 (a0 : (List ByteArray)) (g : G.slices_IndexFunc_string__impl_IsPath_s1 a0 = true) : Said Try.prog sigs_132 132 [.val (.slice 9 .str) a0, .clo 109 []] [⟨(.int .i64), N.slices_IndexFunc_string__impl_IsPath_s1 a0⟩] := said_len (T := tab) (A := A_slices_IndexFunc_string__impl_IsPath_s1) tabOk ok_slices_IndexFunc_string__impl_IsPath_s1 tabOk.follows Try.func132 (by kernel_rfl) (by kernel_rfl) (fun hl => let ⟨n, hn⟩ := slices_IndexFunc_string__impl_IsPath_s1_ok (ρ := Ret) (fun r0 => some [⟨(.int .i64), r0⟩]) a0 hl.1 g; ⟨n, (aP_slices_IndexFunc_string__impl_IsPath_s1 N.impl_IsPath_s1 G.impl_IsPath_s1 n a0).trans (hn n (Nat.le_refl n) (fun  m v0_0 v0_1 v0_2 => L_P_slices_IndexFunc_string__impl_IsPath_s1_0 N.impl_IsPath_s1 G.impl_IsPath_s1 n  m (S_slices_IndexFunc_string__impl_IsPath_s1_0 v0_0 v0_1 v0_2)) (fun  m v0_0 v0_1 v0_2 => bP_slices_IndexFunc_string__impl_IsPath_s1_0 N.impl_IsPath_s1 G.impl_IsPath_s1 n  m v0_0 v0_1 v0_2))⟩)
abbrev G.slices_ContainsFunc_string__impl_IsPath_s1 (p : List ByteArray) : Bool := decide (wP p ≤ 1048576)
abbrev N.slices_ContainsFunc_string__impl_IsPath_s1 (p : List ByteArray) : Bool := p.any (fun s => !(isLabel s))
def slices_ContainsFunc_string__impl_IsPath_s1 {ρ : Type} (k : Bool → Option ρ) (a0 : (List ByteArray)) : Option ρ := (cond (G.slices_IndexFunc_string__impl_IsPath_s1 a0) (k (decide ((N.slices_IndexFunc_string__impl_IsPath_s1 a0) ≥ (0 : Int)))) none)
theorem slices_ContainsFunc_string__impl_IsPath_s1_ok {ρ : Type} (k : Bool → Option ρ) (a0 : (List ByteArray)) (l_a0 : lnL (fun _ => True) a0) (g : G.slices_ContainsFunc_string__impl_IsPath_s1 a0 = true) : slices_ContainsFunc_string__impl_IsPath_s1 k  a0 = k (N.slices_ContainsFunc_string__impl_IsPath_s1 a0) := by
  unfold G.slices_ContainsFunc_string__impl_IsPath_s1 at g
  show cond (decide (wP a0 ≤ 1048576)) _ none = _
  rw [g]
  show k (decide (idxFrom (fun s => !(isLabel s)) 0 a0 ≥ 0)) = _
  rw [idxFrom_any]
def OP_slices_ContainsFunc_string__impl_IsPath_s1 (f0 : (List ByteArray) → Int) (g0 : (List ByteArray) → Bool) : Orac := (orcX 132 [.val (.slice 9 .str), .clo 109 []] (fun d => g0 d.1) (fun d => [⟨(.int .i64), f0 d.1⟩]) nilO)
def O_slices_ContainsFunc_string__impl_IsPath_s1 : Orac := OP_slices_ContainsFunc_string__impl_IsPath_s1 N.slices_IndexFunc_string__impl_IsPath_s1 G.slices_IndexFunc_string__impl_IsPath_s1
def slices_ContainsFunc_string__impl_IsPath_s1_P {ρ : Type} (f0 : (List ByteArray) → Int) (g0 : (List ByteArray) → Bool) (k : Bool → Option ρ) (a0 : (List ByteArray)) : Option ρ := (cond (g0 a0) (k (decide ((f0 a0) ≥ (0 : Int)))) none)
theorem ok_slices_ContainsFunc_string__impl_IsPath_s1 : OracOk Try.prog sigs O_slices_ContainsFunc_string__impl_IsPath_s1 := (orcX_ok rfl rfl (fun d g => said_slices_IndexFunc_string__impl_IsPath_s1 d.1 g) nilO_ok)
def A_slices_ContainsFunc_string__impl_IsPath_s1 : Ann := fun b => ⟨[], []⟩
theorem aP_slices_ContainsFunc_string__impl_IsPath_s1 (f0 : (List ByteArray) → Int) (g0 : (List ByteArray) → Bool) (n : Nat) (a0 : (List ByteArray)) : absF tab sigs (OP_slices_ContainsFunc_string__impl_IsPath_s1 f0 g0) A_slices_ContainsFunc_string__impl_IsPath_s1 Try.f108 [(.bool, .no)] n [.val (.slice 9 .str) a0, .clo 109 []] = slices_ContainsFunc_string__impl_IsPath_s1_P f0 g0 (fun r0 => some [⟨.bool, r0⟩])  a0 := by kernel_rfl
theorem said_slices_ContainsFunc_string__impl_IsPath_s1 (a0 : (List ByteArray)) (g : G.slices_ContainsFunc_string__impl_IsPath_s1 a0 = true) : Said Try.prog sigs_108 108 [.val (.slice 9 .str) a0, .clo 109 []] [⟨.bool, N.slices_ContainsFunc_string__impl_IsPath_s1 a0⟩] := said_len (T := tab) (A := A_slices_ContainsFunc_string__impl_IsPath_s1) tabOk ok_slices_ContainsFunc_string__impl_IsPath_s1 tabOk.follows Try.func108 (by kernel_rfl) (by kernel_rfl) (fun hl => ⟨0, (aP_slices_ContainsFunc_string__impl_IsPath_s1 N.slices_IndexFunc_string__impl_IsPath_s1 G.slices_IndexFunc_string__impl_IsPath_s1 0 a0).trans (slices_ContainsFunc_string__impl_IsPath_s1_ok (ρ := Ret) (fun r0 => some [⟨.bool, r0⟩]) a0 hl.1 g)⟩)
abbrev G.impl_IsPath (p : List ByteArray) : Bool := decide (wP p ≤ 1048576)
abbrev N.impl_IsPath (p : List ByteArray) : Bool := isPath p
def impl_IsPath {ρ : Type} (k : Bool → Option ρ) (a0 : (List ByteArray)) : Option ρ := (cond (N.impl_InRange (List.length a0 : Int) (1 : Int) (4 : Int)) (cond (G.slices_ContainsFunc_string__impl_IsPath_s1 a0) (k (!(N.slices_ContainsFunc_string__impl_IsPath_s1 a0))) none) (k false))
theorem impl_IsPath_ok {ρ : Type} (k : Bool → Option ρ) (a0 : (List ByteArray)) (l_a0 : lnL (fun _ => True) a0) (g : G.impl_IsPath a0 = true) : impl_IsPath k  a0 = k (N.impl_IsPath a0) := by
  unfold G.impl_IsPath at g
  show cond (inR (a0.length : Int) 1 4) (cond (decide (wP a0 ≤ 1048576)) (k (!(a0.any (fun s => !(isLabel s))))) none) (k false) = k (inR (a0.length : Int) 1 4 && a0.all isLabel)
  rw [g, any_not]
  cases inR (a0.length : Int) 1 4 <;> rfl
def OP_impl_IsPath (f0 : Int → Int → Int → Bool) (f1 : (List ByteArray) → Bool) (g1 : (List ByteArray) → Bool) : Orac := (orcX 108 [.val (.slice 9 .str), .clo 109 []] (fun d => g1 d.1) (fun d => [⟨.bool, f1 d.1⟩]) (orcX 43 [.val (.int .i64), .val (.int .i64), .val (.int .i64)] (fun d => true) (fun d => [⟨.bool, f0 d.1 d.2.1 d.2.2.1⟩]) nilO))
def O_impl_IsPath : Orac := OP_impl_IsPath N.impl_InRange N.slices_ContainsFunc_string__impl_IsPath_s1 G.slices_ContainsFunc_string__impl_IsPath_s1
def impl_IsPath_P {ρ : Type} (f0 : Int → Int → Int → Bool) (f1 : (List ByteArray) → Bool) (g1 : (List ByteArray) → Bool) (k : Bool → Option ρ) (a0 : (List ByteArray)) : Option ρ := (cond (f0 (List.length a0 : Int) (1 : Int) (4 : Int)) (cond (g1 a0) (k (!(f1 a0))) none) (k false))
theorem ok_impl_IsPath : OracOk Try.prog sigs O_impl_IsPath := (orcX_ok rfl rfl (fun d g => said_slices_ContainsFunc_string__impl_IsPath_s1 d.1 g) (orcX_ok rfl rfl (fun d g => said_impl_InRange d.1 d.2.1 d.2.2.1) nilO_ok))
def A_impl_IsPath : Ann := fun b => ⟨[], []⟩
theorem aP_impl_IsPath (f0 : Int → Int → Int → Bool) (f1 : (List ByteArray) → Bool) (g1 : (List ByteArray) → Bool) (n : Nat) (a0 : (List ByteArray)) : absF tab sigs (OP_impl_IsPath f0 f1 g1) A_impl_IsPath Try.f92 [(.bool, .no)] n [.val (.slice 9 .str) a0] = impl_IsPath_P f0 f1 g1 (fun r0 => some [⟨.bool, r0⟩])  a0 := by kernel_rfl
theorem said_impl_IsPath (a0 : (List ByteArray)) (g : G.impl_IsPath a0 = true) : Said Try.prog sigs_92 92 [.val (.slice 9 .str) a0] [⟨.bool, N.impl_IsPath a0⟩] := said_len (T := tab) (A := A_impl_IsPath) tabOk ok_impl_IsPath tabOk.follows Try.func92 (by kernel_rfl) (by kernel_rfl) (fun hl => ⟨0, (aP_impl_IsPath N.impl_InRange N.slices_ContainsFunc_string__impl_IsPath_s1 G.slices_ContainsFunc_string__impl_IsPath_s1 0 a0).trans (impl_IsPath_ok (ρ := Ret) (fun r0 => some [⟨.bool, r0⟩]) a0 hl.1 g)⟩)
abbrev G.impl_IsEntry (e : TEntry) : Bool := decide (wE e ≤ 1048576)
abbrev N.impl_IsEntry (e : TEntry) : Bool := isEntry e
def impl_IsEntry_P {ρ : Type} (f0 : ByteArray → Bool) (g0 : ByteArray → Bool) (f1 : Int → Int → Int → Bool) (f2 : Int → Bool) (f3 : (List ByteArray) → Bool) (g3 : (List ByteArray) → Bool) (k : Bool → Option ρ) (a0 : TEntry) : Option ρ := (cond (g0 a0.1) (cond (!(f0 a0.1)) (k false) (cond (a0.2.1 == (1 : Int)) (cond (f1 a0.2.2.1 (0 : Int) (999999 : Int)) (k ((List.length a0.2.2.2 : Int) == (0 : Int))) (k false)) (cond (a0.2.1 == (2 : Int)) (cond (f2 a0.2.2.1) (k ((List.length a0.2.2.2 : Int) == (0 : Int))) (k false)) (cond (a0.2.1 == (3 : Int)) (cond (f2 a0.2.2.1) (cond (g3 a0.2.2.2) (k (f3 a0.2.2.2)) none) (k false)) (k false))))) none)
def impl_IsEntry {ρ : Type} (k : Bool → Option ρ) (a0 : TEntry) : Option ρ := impl_IsEntry_P N.impl_IsLabel G.impl_IsLabel N.impl_InRange N.impl_isDigest N.impl_IsPath G.impl_IsPath k a0
theorem impl_IsEntry_ok {ρ : Type} (k : Bool → Option ρ) (a0 : TEntry) (l_a0 : (True ∧ (True ∧ (True ∧ lnL (fun _ => True) a0.2.2.2)))) (g : G.impl_IsEntry a0 = true) : impl_IsEntry k  a0 = k (N.impl_IsEntry a0) := by
  unfold G.impl_IsEntry at g
  have hw : wE a0 ≤ 1048576 := of_decide_eq_true g
  have g1 : decide (a0.1.size ≤ 1048576) = true := by unfold wE at hw; simp; omega
  have g2 : decide (wP a0.2.2.2 ≤ 1048576) = true := by unfold wE at hw; simp; omega
  simp only [impl_IsEntry, impl_IsEntry_P, G.impl_IsLabel, N.impl_IsLabel, G.impl_IsPath, N.impl_IsPath, N.impl_InRange, N.impl_isDigest, g1, g2, cond_true, isEntry]
  by_cases h1 : a0.2.1 = 1
  · have e1 : (a0.2.1 == 1) = true := by simp [h1]
    have e2 : (a0.2.1 == 2) = false := by simp [h1]
    have e3 : (a0.2.1 == 3) = false := by simp [h1]
    simp only [e1, e2, e3]
    cases isLabel a0.1 <;> cases inR a0.2.2.1 0 999999 <;> simp
  by_cases h2 : a0.2.1 = 2
  · have e1 : (a0.2.1 == 1) = false := by simp [h2]
    have e2 : (a0.2.1 == 2) = true := by simp [h2]
    have e3 : (a0.2.1 == 3) = false := by simp [h2]
    simp only [e1, e2, e3]
    cases isLabel a0.1 <;> cases isDigest a0.2.2.1 <;> simp
  have e1 : (a0.2.1 == 1) = false := by simp [h1]
  have e2 : (a0.2.1 == 2) = false := by simp [h2]
  simp only [e1, e2]
  cases a0.2.1 == 3 <;> cases isLabel a0.1 <;> cases isDigest a0.2.2.1 <;> simp
def OP_impl_IsEntry (f0 : ByteArray → Bool) (g0 : ByteArray → Bool) (f1 : Int → Int → Int → Bool) (f2 : Int → Bool) (f3 : (List ByteArray) → Bool) (g3 : (List ByteArray) → Bool) : Orac := (orcX 92 [.val (.slice 9 .str)] (fun d => g3 d.1) (fun d => [⟨.bool, f3 d.1⟩]) (orcX 91 [.val (.int .i64)] (fun d => true) (fun d => [⟨.bool, f2 d.1⟩]) (orcX 43 [.val (.int .i64), .val (.int .i64), .val (.int .i64)] (fun d => true) (fun d => [⟨.bool, f1 d.1 d.2.1 d.2.2.1⟩]) (orcX 90 [.val .str] (fun d => g0 d.1) (fun d => [⟨.bool, f0 d.1⟩]) nilO))))
def O_impl_IsEntry : Orac := OP_impl_IsEntry N.impl_IsLabel G.impl_IsLabel N.impl_InRange N.impl_isDigest N.impl_IsPath G.impl_IsPath
theorem ok_impl_IsEntry : OracOk Try.prog sigs O_impl_IsEntry := (orcX_ok rfl rfl (fun d g => said_impl_IsPath d.1 g) (orcX_ok rfl rfl (fun d g => said_impl_isDigest d.1) (orcX_ok rfl rfl (fun d g => said_impl_InRange d.1 d.2.1 d.2.2.1) (orcX_ok rfl rfl (fun d g => said_impl_IsLabel d.1 g) nilO_ok))))
def A_impl_IsEntry : Ann := fun b => ⟨[], []⟩
theorem aP_impl_IsEntry (f0 : ByteArray → Bool) (g0 : ByteArray → Bool) (f1 : Int → Int → Int → Bool) (f2 : Int → Bool) (f3 : (List ByteArray) → Bool) (g3 : (List ByteArray) → Bool) (n : Nat) (a0 : TEntry) : absF tab sigs (OP_impl_IsEntry f0 g0 f1 f2 f3 g3) A_impl_IsEntry Try.f64 [(.bool, .no)] n [.val TyEntry a0] = impl_IsEntry_P f0 g0 f1 f2 f3 g3 (fun r0 => some [⟨.bool, r0⟩])  a0 := by kernel_rfl
theorem said_impl_IsEntry (a0 : TEntry) (g : G.impl_IsEntry a0 = true) : Said Try.prog sigs_64 64 [.val TyEntry a0] [⟨.bool, N.impl_IsEntry a0⟩] := said_len (T := tab) (A := A_impl_IsEntry) tabOk ok_impl_IsEntry tabOk.follows Try.func64 (by kernel_rfl) (by kernel_rfl) (fun hl => ⟨0, (aP_impl_IsEntry N.impl_IsLabel G.impl_IsLabel N.impl_InRange N.impl_isDigest N.impl_IsPath G.impl_IsPath 0 a0).trans (impl_IsEntry_ok (ρ := Ret) (fun r0 => some [⟨.bool, r0⟩]) a0 hl.1 g)⟩)
abbrev G.impl_CheckEntry (root count : Int) (e : TEntry) (p : TProof) : Bool := decide (wE e ≤ 1048576)
abbrev N.impl_CheckEntry (root count : Int) (e : TEntry) (p : TProof) : Bool := checkEntry root count e p
def impl_CheckEntry {ρ : Type} (k : Bool → Option ρ) (a0 : Int) (a1 : Int) (a2 : TEntry) (a3 : TProof) : Option ρ := (cond (G.impl_LeafOf a2) (cond (N.impl_TopFrom (N.impl_LeafOf a2) a3.1 a1 a3.2).2 (cond (G.impl_IsEntry a2) (cond (N.impl_IsEntry a2) (k ((N.impl_rootFrom a1 (N.impl_TopFrom (N.impl_LeafOf a2) a3.1 a1 a3.2).1) == a0)) (k false)) none) (k false)) none)
theorem impl_CheckEntry_ok {ρ : Type} (k : Bool → Option ρ) (a0 : Int) (a1 : Int) (a2 : TEntry) (a3 : TProof) (l_a2 : (True ∧ (True ∧ (True ∧ lnL (fun _ => True) a2.2.2.2)))) (l_a3 : (True ∧ lnL (fun _ => True) a3.2)) (g : G.impl_CheckEntry a0 a1 a2 a3 = true) : impl_CheckEntry k  a0 a1 a2 a3 = k (N.impl_CheckEntry a0 a1 a2 a3) := by
  unfold G.impl_CheckEntry at g
  simp only [impl_CheckEntry, G.impl_IsEntry, N.impl_IsEntry, G.impl_LeafOf, N.impl_LeafOf, N.impl_TopFrom, N.impl_rootFrom, N.impl_CheckEntry, g, cond_true, checkEntry]
  exact cond_and2s k _ _ _
def OP_impl_CheckEntry (f0 : TEntry → Int) (g0 : TEntry → Bool) (f1 : Int → Int → Int → (List Int) → (Int × Bool)) (f2 : TEntry → Bool) (g2 : TEntry → Bool) (f3 : Int → Int → Int) : Orac := (orcX 52 [.val (.int .i64), .val (.int .i64)] (fun d => true) (fun d => [⟨(.int .i64), f3 d.1 d.2.1⟩]) (orcX 64 [.val TyEntry] (fun d => g2 d.1) (fun d => [⟨.bool, f2 d.1⟩]) (orcX 13 [.val (.int .i64), .val (.int .i64), .val (.int .i64), .val (.slice 3 (.int .i64))] (fun d => true) (fun d => [⟨(.int .i64), (f1 d.1 d.2.1 d.2.2.1 d.2.2.2.1).1⟩, ⟨.bool, (f1 d.1 d.2.1 d.2.2.1 d.2.2.2.1).2⟩]) (orcX 63 [.val TyEntry] (fun d => g0 d.1) (fun d => [⟨(.int .i64), f0 d.1⟩]) nilO))))
def O_impl_CheckEntry : Orac := OP_impl_CheckEntry N.impl_LeafOf G.impl_LeafOf N.impl_TopFrom N.impl_IsEntry G.impl_IsEntry N.impl_rootFrom
def impl_CheckEntry_P {ρ : Type} (f0 : TEntry → Int) (g0 : TEntry → Bool) (f1 : Int → Int → Int → (List Int) → (Int × Bool)) (f2 : TEntry → Bool) (g2 : TEntry → Bool) (f3 : Int → Int → Int) (k : Bool → Option ρ) (a0 : Int) (a1 : Int) (a2 : TEntry) (a3 : TProof) : Option ρ := (cond (g0 a2) (cond (f1 (f0 a2) a3.1 a1 a3.2).2 (cond (g2 a2) (cond (f2 a2) (k ((f3 a1 (f1 (f0 a2) a3.1 a1 a3.2).1) == a0)) (k false)) none) (k false)) none)
theorem ok_impl_CheckEntry : OracOk Try.prog sigs O_impl_CheckEntry := (orcX_ok rfl rfl (fun d g => said_impl_rootFrom d.1 d.2.1) (orcX_ok rfl rfl (fun d g => said_impl_IsEntry d.1 g) (orcX_ok rfl rfl (fun d g => said_impl_TopFrom d.1 d.2.1 d.2.2.1 d.2.2.2.1) (orcX_ok rfl rfl (fun d g => said_impl_LeafOf d.1 g) nilO_ok))))
def A_impl_CheckEntry : Ann := fun b => ⟨[], []⟩
theorem aP_impl_CheckEntry (f0 : TEntry → Int) (g0 : TEntry → Bool) (f1 : Int → Int → Int → (List Int) → (Int × Bool)) (f2 : TEntry → Bool) (g2 : TEntry → Bool) (f3 : Int → Int → Int) (n : Nat) (a0 : Int) (a1 : Int) (a2 : TEntry) (a3 : TProof) : absF tab sigs (OP_impl_CheckEntry f0 g0 f1 f2 g2 f3) A_impl_CheckEntry Try.f27 [(.bool, .no)] n [.val (.int .i64) a0, .val (.int .i64) a1, .val TyEntry a2, .val (.pair (.int .i64) (.slice 3 (.int .i64))) a3] = impl_CheckEntry_P f0 g0 f1 f2 g2 f3 (fun r0 => some [⟨.bool, r0⟩])  a0 a1 a2 a3 := by kernel_rfl
theorem said_impl_CheckEntry (a0 : Int) (a1 : Int) (a2 : TEntry) (a3 : TProof) (g : G.impl_CheckEntry a0 a1 a2 a3 = true) : Said Try.prog sigs_27 27 [.val (.int .i64) a0, .val (.int .i64) a1, .val TyEntry a2, .val (.pair (.int .i64) (.slice 3 (.int .i64))) a3] [⟨.bool, N.impl_CheckEntry a0 a1 a2 a3⟩] := said_len (T := tab) (A := A_impl_CheckEntry) tabOk ok_impl_CheckEntry tabOk.follows Try.func27 (by kernel_rfl) (by kernel_rfl) (fun hl => ⟨0, (aP_impl_CheckEntry N.impl_LeafOf G.impl_LeafOf N.impl_TopFrom N.impl_IsEntry G.impl_IsEntry N.impl_rootFrom 0 a0 a1 a2 a3).trans (impl_CheckEntry_ok (ρ := Ret) (fun r0 => some [⟨.bool, r0⟩]) a0 a1 a2 a3 hl.2.2.1 hl.2.2.2.1 g)⟩)
abbrev N.slices_Equal_string (a b : List ByteArray) : Bool := eqStrs a b
def slices_Equal_string_L0 {ρ : Type} (k : Bool → Option ρ) (L0 : (List ByteArray) → (List ByteArray) → Int → Int → Option ρ) (v0_0 : (List ByteArray)) (v0_1 : (List ByteArray)) (v0_2 : Int) (v0_3 : Int) : Option ρ := (cond (decide (v0_3 < v0_2)) (cond (inRange v0_3 (List.length v0_0)) (cond (inRange v0_3 (List.length v0_1)) (cond (!((ByteArray.toList (List.getD v0_0 (Int.toNat v0_3) ByteArray.empty)) == (ByteArray.toList (List.getD v0_1 (Int.toNat v0_3) ByteArray.empty)))) (k false) (L0 v0_0 v0_1 v0_2 (IntKind.wrap .i64 (v0_3 + (1 : Int))))) none) none) (k true))
def slices_Equal_string {ρ : Type} (k : Bool → Option ρ) (L0 : (List ByteArray) → (List ByteArray) → Int → Int → Option ρ) (a0 : (List ByteArray)) (a1 : (List ByteArray)) : Option ρ := (cond ((List.length a0 : Int) != (List.length a1 : Int)) (k false) (L0 a0 a1 (List.length a0 : Int) (0 : Int)))
theorem slices_Equal_string_ok {ρ : Type} (k : Bool → Option ρ) (a0 : (List ByteArray)) (a1 : (List ByteArray)) (l_a0 : lnL (fun _ => True) a0) (l_a1 : lnL (fun _ => True) a1) : ∃ n0, ∀ n, n0 ≤ n → ∀ (L0 : Nat → (List ByteArray) → (List ByteArray) → Int → Int → Option ρ) (h0 : ∀ ( m : Nat) (v0_0 : (List ByteArray)) (v0_1 : (List ByteArray)) (v0_2 : Int) (v0_3 : Int), L0 (m + 1) v0_0 v0_1 v0_2 v0_3 = slices_Equal_string_L0 k (L0 m) v0_0 v0_1 v0_2 v0_3), slices_Equal_string k (L0 n) a0 a1 = k (N.slices_Equal_string a0 a1) := by
  exact ⟨a0.length + 1, fun n hn L0 h0 => eq_all (p := eqStr) (d := ByteArray.empty) l_a0.1 (L := fun m i => L0 m a0 a1 (a0.length : Int) i) (fun m i => h0 m a0 a1 (a0.length : Int) i) hn⟩
def O_slices_Equal_string : Orac := nilO
theorem ok_slices_Equal_string : OracOk Try.prog sigs O_slices_Equal_string := nilO_ok
def A_slices_Equal_string : Ann := fun b => cond (Nat.beq b 0) ⟨[(0, false), (1, false), (12, false), (13, false)], []⟩ (⟨[], []⟩)
def S_slices_Equal_string_0 (v0_0 : (List ByteArray)) (v0_1 : (List ByteArray)) (v0_2 : Int) (v0_3 : Int) : St := [(kT 0, some (.tv (.v (.slice 9 .str) v0_0 .no))), (kT 1, some (.tv (.v (.slice 9 .str) v0_1 .no))), (kT 12, some (.tv (.v (.int .i64) v0_2 .no))), (kT 13, some (.tv (.v (.int .i64) v0_3 .no)))]
noncomputable def L_slices_Equal_string_0 (n m : Nat) : St → Option Ret := loopOf tab sigs O_slices_Equal_string A_slices_Equal_string Try.f65 [(.bool, .no)] n (fun _ => 0) 0 m
theorem b_slices_Equal_string_0 (n m : Nat) (v0_0 : (List ByteArray)) (v0_1 : (List ByteArray)) (v0_2 : Int) (v0_3 : Int) : L_slices_Equal_string_0 n (m + 1) (S_slices_Equal_string_0 v0_0 v0_1 v0_2 v0_3) = slices_Equal_string_L0 (fun r0 => some [⟨.bool, r0⟩]) (fun v0_0 v0_1 v0_2 v0_3 => L_slices_Equal_string_0 n m (S_slices_Equal_string_0 v0_0 v0_1 v0_2 v0_3)) v0_0 v0_1 v0_2 v0_3 := by kernel_rfl
theorem a_slices_Equal_string (n : Nat) (a0 : (List ByteArray)) (a1 : (List ByteArray)) : absF tab sigs O_slices_Equal_string A_slices_Equal_string Try.f65 [(.bool, .no)] n [.val (.slice 9 .str) a0, .val (.slice 9 .str) a1] = slices_Equal_string (fun r0 => some [⟨.bool, r0⟩]) (fun v0_0 v0_1 v0_2 v0_3 => L_slices_Equal_string_0 n n (S_slices_Equal_string_0 v0_0 v0_1 v0_2 v0_3)) a0 a1 := by kernel_rfl
theorem said_slices_Equal_string (a0 : (List ByteArray)) (a1 : (List ByteArray)) : Said Try.prog sigs_65 65 [.val (.slice 9 .str) a0, .val (.slice 9 .str) a1] [⟨.bool, N.slices_Equal_string a0 a1⟩] := said_len (T := tab) (A := A_slices_Equal_string) tabOk ok_slices_Equal_string tabOk.follows Try.func65 (by kernel_rfl) (by kernel_rfl) (fun hl => let ⟨n, hn⟩ := slices_Equal_string_ok (ρ := Ret) (fun r0 => some [⟨.bool, r0⟩]) a0 a1 hl.1 hl.2.1; ⟨n, (a_slices_Equal_string n a0 a1).trans (hn n (Nat.le_refl n) (fun  m v0_0 v0_1 v0_2 v0_3 => L_slices_Equal_string_0 n  m (S_slices_Equal_string_0 v0_0 v0_1 v0_2 v0_3)) (fun  m v0_0 v0_1 v0_2 v0_3 => b_slices_Equal_string_0 n  m v0_0 v0_1 v0_2 v0_3))⟩)
abbrev N.impl_EqualEntries (a b : TEntry) : Bool := eqEntry a b
def impl_EqualEntries {ρ : Type} (k : Bool → Option ρ) (a0 : TEntry) (a1 : TEntry) : Option ρ := (cond ((ByteArray.toList a0.1) == (ByteArray.toList a1.1)) (cond (a0.2.1 == a1.2.1) (cond (a0.2.2.1 == a1.2.2.1) (k (N.slices_Equal_string a0.2.2.2 a1.2.2.2)) (k false)) (k false)) (k false))
theorem impl_EqualEntries_ok {ρ : Type} (k : Bool → Option ρ) (a0 : TEntry) (a1 : TEntry) (l_a0 : (True ∧ (True ∧ (True ∧ lnL (fun _ => True) a0.2.2.2)))) (l_a1 : (True ∧ (True ∧ (True ∧ lnL (fun _ => True) a1.2.2.2)))) : impl_EqualEntries k  a0 a1 = k (N.impl_EqualEntries a0 a1) := by
  simp only [impl_EqualEntries, eqEntry, eqStr]
  cases a0.1.toList == a1.1.toList
  · rfl
  cases a0.2.1 == a1.2.1
  · rfl
  cases a0.2.2.1 == a1.2.2.1 <;> rfl
def OP_impl_EqualEntries (f0 : (List ByteArray) → (List ByteArray) → Bool) : Orac := (orcX 65 [.val (.slice 9 .str), .val (.slice 9 .str)] (fun d => true) (fun d => [⟨.bool, f0 d.1 d.2.1⟩]) nilO)
def O_impl_EqualEntries : Orac := OP_impl_EqualEntries N.slices_Equal_string
def impl_EqualEntries_P {ρ : Type} (f0 : (List ByteArray) → (List ByteArray) → Bool) (k : Bool → Option ρ) (a0 : TEntry) (a1 : TEntry) : Option ρ := (cond ((ByteArray.toList a0.1) == (ByteArray.toList a1.1)) (cond (a0.2.1 == a1.2.1) (cond (a0.2.2.1 == a1.2.2.1) (k (f0 a0.2.2.2 a1.2.2.2)) (k false)) (k false)) (k false))
theorem ok_impl_EqualEntries : OracOk Try.prog sigs O_impl_EqualEntries := (orcX_ok rfl rfl (fun d g => said_slices_Equal_string d.1 d.2.1) nilO_ok)
def A_impl_EqualEntries : Ann := fun b => ⟨[], []⟩
theorem aP_impl_EqualEntries (f0 : (List ByteArray) → (List ByteArray) → Bool) (n : Nat) (a0 : TEntry) (a1 : TEntry) : absF tab sigs (OP_impl_EqualEntries f0) A_impl_EqualEntries Try.f28 [(.bool, .no)] n [.val TyEntry a0, .val TyEntry a1] = impl_EqualEntries_P f0 (fun r0 => some [⟨.bool, r0⟩])  a0 a1 := by kernel_rfl
theorem said_impl_EqualEntries (a0 : TEntry) (a1 : TEntry) : Said Try.prog sigs_28 28 [.val TyEntry a0, .val TyEntry a1] [⟨.bool, N.impl_EqualEntries a0 a1⟩] := said_len (T := tab) (A := A_impl_EqualEntries) tabOk ok_impl_EqualEntries tabOk.follows Try.func28 (by kernel_rfl) (by kernel_rfl) (fun hl => ⟨0, (aP_impl_EqualEntries N.slices_Equal_string 0 a0 a1).trans (impl_EqualEntries_ok (ρ := Ret) (fun r0 => some [⟨.bool, r0⟩]) a0 a1 hl.1 hl.2.1)⟩)
abbrev N.impl_SizeOfProof (p : TProof) : Int := IntKind.wrap .i64 ((p.2.length : Int) + 1)
def impl_SizeOfProof {ρ : Type} (k : Int → Option ρ) (a0 : TProof) : Option ρ := (k (IntKind.wrap .i64 ((List.length a0.2 : Int) + (1 : Int))))
theorem impl_SizeOfProof_ok {ρ : Type} (k : Int → Option ρ) (a0 : TProof) (l_a0 : (True ∧ lnL (fun _ => True) a0.2)) : impl_SizeOfProof k  a0 = k (N.impl_SizeOfProof a0) := by
  rfl
def O_impl_SizeOfProof : Orac := nilO
theorem ok_impl_SizeOfProof : OracOk Try.prog sigs O_impl_SizeOfProof := nilO_ok
def A_impl_SizeOfProof : Ann := fun b => ⟨[], []⟩
theorem a_impl_SizeOfProof (n : Nat) (a0 : TProof) : absF tab sigs O_impl_SizeOfProof A_impl_SizeOfProof Try.f29 [((.int .i64), .no)] n [.val (.pair (.int .i64) (.slice 3 (.int .i64))) a0] = impl_SizeOfProof (fun r0 => some [⟨(.int .i64), r0⟩])  a0 := by kernel_rfl
theorem said_impl_SizeOfProof (a0 : TProof) : Said Try.prog sigs_29 29 [.val (.pair (.int .i64) (.slice 3 (.int .i64))) a0] [⟨(.int .i64), N.impl_SizeOfProof a0⟩] := said_len (T := tab) (A := A_impl_SizeOfProof) tabOk ok_impl_SizeOfProof tabOk.follows Try.func29 (by kernel_rfl) (by kernel_rfl) (fun hl => ⟨0, (a_impl_SizeOfProof 0 a0).trans (impl_SizeOfProof_ok (ρ := Ret) (fun r0 => some [⟨(.int .i64), r0⟩]) a0 hl.1)⟩)
abbrev N.spec_l10Root (n top : Int) : Int := rootFrom n top
def spec_l10Root {ρ : Type} (k : Int → Option ρ) (a0 : Int) (a1 : Int) : Option ρ := (k (N.spec_Hash [(231 : Int), a0, a1]))
theorem spec_l10Root_ok {ρ : Type} (k : Int → Option ρ) (a0 : Int) (a1 : Int) : spec_l10Root k  a0 a1 = k (N.spec_l10Root a0 a1) := by
  rfl
def OP_spec_l10Root (f0 : (List Int) → Int) : Orac := (orcX 48 [.val (.slice 3 (.int .i64))] (fun d => true) (fun d => [⟨(.int .i64), f0 d.1⟩]) nilO)
def O_spec_l10Root : Orac := OP_spec_l10Root N.spec_Hash
def spec_l10Root_P {ρ : Type} (f0 : (List Int) → Int) (k : Int → Option ρ) (a0 : Int) (a1 : Int) : Option ρ := (k (f0 [(231 : Int), a0, a1]))
theorem ok_spec_l10Root : OracOk Try.prog sigs O_spec_l10Root := (orcX_ok rfl rfl (fun d g => said_spec_Hash d.1) nilO_ok)
def A_spec_l10Root : Ann := fun b => ⟨[], []⟩
theorem aP_spec_l10Root (f0 : (List Int) → Int) (n : Nat) (a0 : Int) (a1 : Int) : absF tab sigs (OP_spec_l10Root f0) A_spec_l10Root Try.f54 [((.int .i64), .no)] n [.val (.int .i64) a0, .val (.int .i64) a1] = spec_l10Root_P f0 (fun r0 => some [⟨(.int .i64), r0⟩])  a0 a1 := by kernel_rfl
theorem said_spec_l10Root (a0 : Int) (a1 : Int) : Said Try.prog sigs_54 54 [.val (.int .i64) a0, .val (.int .i64) a1] [⟨(.int .i64), N.spec_l10Root a0 a1⟩] := said_len (T := tab) (A := A_spec_l10Root) tabOk ok_spec_l10Root tabOk.follows Try.func54 (by kernel_rfl) (by kernel_rfl) (fun hl => ⟨0, (aP_spec_l10Root N.spec_Hash 0 a0 a1).trans (spec_l10Root_ok (ρ := Ret) (fun r0 => some [⟨(.int .i64), r0⟩]) a0 a1)⟩)
abbrev G.spec_RootOf (l : List TEntry) : Bool := decide (wEs l ≤ 1048576)
abbrev N.spec_RootOf (l : List TEntry) : Int := rootOf l
def spec_RootOf {ρ : Type} (k : Int → Option ρ) (a0 : (List TEntry)) : Option ρ := (cond (G.spec_LeavesOf a0) (cond (G.spec_TopOf (N.spec_LeavesOf a0)) (k (N.spec_l10Root (List.length a0 : Int) (N.spec_TopOf (N.spec_LeavesOf a0)))) none) none)
theorem spec_RootOf_ok {ρ : Type} (k : Int → Option ρ) (a0 : (List TEntry)) (l_a0 : lnL (fun y => (True ∧ (True ∧ (True ∧ lnL (fun _ => True) y.2.2.2)))) a0) (g : G.spec_RootOf a0 = true) : spec_RootOf k  a0 = k (N.spec_RootOf a0) := by
  unfold G.spec_RootOf at g
  have hw : wEs a0 ≤ 1048576 := of_decide_eq_true g
  have hl : decide ((a0.map leafOf).length ≤ 1048576) = true := by unfold wEs at hw; simp; omega
  show cond (decide (wEs a0 ≤ 1048576)) (cond (decide ((a0.map leafOf).length ≤ 1048576)) _ none) none = _
  rw [g, hl]
  rfl
def OP_spec_RootOf (f0 : (List TEntry) → (List Int)) (g0 : (List TEntry) → Bool) (f1 : (List Int) → Int) (g1 : (List Int) → Bool) (f2 : Int → Int → Int) : Orac := (orcX 54 [.val (.int .i64), .val (.int .i64)] (fun d => true) (fun d => [⟨(.int .i64), f2 d.1 d.2.1⟩]) (orcX 12 [.val (.slice 3 (.int .i64))] (fun d => g1 d.1) (fun d => [⟨(.int .i64), f1 d.1⟩]) (orcX 55 [.val (.slice 48 TyEntry)] (fun d => g0 d.1) (fun d => [⟨(.slice 3 (.int .i64)), f0 d.1⟩]) nilO)))
def O_spec_RootOf : Orac := OP_spec_RootOf N.spec_LeavesOf G.spec_LeavesOf N.spec_TopOf G.spec_TopOf N.spec_l10Root
def spec_RootOf_P {ρ : Type} (f0 : (List TEntry) → (List Int)) (g0 : (List TEntry) → Bool) (f1 : (List Int) → Int) (g1 : (List Int) → Bool) (f2 : Int → Int → Int) (k : Int → Option ρ) (a0 : (List TEntry)) : Option ρ := (cond (g0 a0) (cond (g1 (f0 a0)) (k (f2 (List.length a0 : Int) (f1 (f0 a0)))) none) none)
theorem ok_spec_RootOf : OracOk Try.prog sigs O_spec_RootOf := (orcX_ok rfl rfl (fun d g => said_spec_l10Root d.1 d.2.1) (orcX_ok rfl rfl (fun d g => said_spec_TopOf d.1 g) (orcX_ok rfl rfl (fun d g => said_spec_LeavesOf d.1 g) nilO_ok)))
def A_spec_RootOf : Ann := fun b => ⟨[], []⟩
theorem aP_spec_RootOf (f0 : (List TEntry) → (List Int)) (g0 : (List TEntry) → Bool) (f1 : (List Int) → Int) (g1 : (List Int) → Bool) (f2 : Int → Int → Int) (n : Nat) (a0 : (List TEntry)) : absF tab sigs (OP_spec_RootOf f0 g0 f1 g1 f2) A_spec_RootOf Try.f18 [((.int .i64), .no)] n [.val (.slice 48 TyEntry) a0] = spec_RootOf_P f0 g0 f1 g1 f2 (fun r0 => some [⟨(.int .i64), r0⟩])  a0 := by kernel_rfl
theorem said_spec_RootOf (a0 : (List TEntry)) (g : G.spec_RootOf a0 = true) : Said Try.prog sigs_18 18 [.val (.slice 48 TyEntry) a0] [⟨(.int .i64), N.spec_RootOf a0⟩] := said_len (T := tab) (A := A_spec_RootOf) tabOk ok_spec_RootOf tabOk.follows Try.func18 (by kernel_rfl) (by kernel_rfl) (fun hl => ⟨0, (aP_spec_RootOf N.spec_LeavesOf G.spec_LeavesOf N.spec_TopOf G.spec_TopOf N.spec_l10Root 0 a0).trans (spec_RootOf_ok (ρ := Ret) (fun r0 => some [⟨(.int .i64), r0⟩]) a0 hl.1 g)⟩)
abbrev G.spec_l11Bent (c : TCur) (p : TProof) : Bool := okC c && decide (p.2.length ≤ 1048576)
abbrev N.spec_l11Bent (c : TCur) (p : TProof) : TCur × TProof := bentP c p
def spec_l11Bent_P {ρ : Type} (f0 : TCur → Int → (TCur × Int)) (g0 : TCur → Int → Bool) (f1 : TCur → (List Int) → (TCur × Int)) (g1 : TCur → (List Int) → Bool) (k : TCur → TProof → Option ρ) (a0 : TCur) (a1 : TProof) : Option ρ := (cond (g0 a0 (8 : Int)) (cond ((f0 a0 (8 : Int)).2 == (0 : Int)) (cond (g1 (f0 a0 (8 : Int)).1 [(-1 : Int), (0 : Int), (1 : Int), (99 : Int)]) (k (f1 (f0 a0 (8 : Int)).1 [(-1 : Int), (0 : Int), (1 : Int), (99 : Int)]).1 ((f1 (f0 a0 (8 : Int)).1 [(-1 : Int), (0 : Int), (1 : Int), (99 : Int)]).2, a1.2)) none) (cond ((f0 a0 (8 : Int)).2 == (1 : Int)) (cond (decide ((List.length a1.2 : Int) > (0 : Int))) (cond (inRange (0 : Int) (List.length a1.2)) (cond (inRange (0 : Int) (List.length a1.2)) (cond (inRange (0 : Int) (List.length a1.2)) (cond (inRange (0 : Int) (List.length a1.2)) (k (f0 a0 (8 : Int)).1 (a1.1, (List.set a1.2 (Int.toNat (0 : Int)) (IntKind.wrap .i64 ((List.getD a1.2 0 (0 : Int)) + (1 : Int)))))) none) none) none) none) (k (f0 a0 (8 : Int)).1 a1)) (cond ((f0 a0 (8 : Int)).2 == (2 : Int)) (cond (fit (List.length a1.2) (List.length [(1 : Int)])) (k (f0 a0 (8 : Int)).1 (a1.1, (List.append a1.2 [(1 : Int)]))) none) (k (f0 a0 (8 : Int)).1 a1)))) none)
def spec_l11Bent {ρ : Type} (k : TCur → TProof → Option ρ) (a0 : TCur) (a1 : TProof) : Option ρ := spec_l11Bent_P N.spec_l1Below G.spec_l1Below N.spec_l1Int G.spec_l1Int k a0 a1
theorem spec_l11Bent_ok {ρ : Type} (k : TCur → TProof → Option ρ) (a0 : TCur) (a1 : TProof) (l_a0 : (lnL (fun _ => True) a0.1 ∧ (True ∧ True))) (l_a1 : (True ∧ lnL (fun _ => True) a1.2)) (g : G.spec_l11Bent a0 a1 = true) : spec_l11Bent k  a0 a1 = k (N.spec_l11Bent a0 a1).1 (N.spec_l11Bent a0 a1).2 := by
  unfold G.spec_l11Bent at g
  obtain ⟨g1, g2⟩ := (Bool.and_eq_true _ _).mp g
  have g2 := of_decide_eq_true g2
  have h1 := okC_below 8 g1
  have f1 : fit (List.length a1.2) 1 = true := fit_of (by omega)
  simp only [spec_l11Bent, spec_l11Bent_P, G.spec_l1Below, N.spec_l1Below, G.spec_l1Int, N.spec_l1Int, g1, h1, f1, List.length_cons, List.length_nil, Nat.zero_add, Nat.reduceAdd, Nat.reduceLT, decide_true, Bool.and_true, cond_true]
  show _ = k (bentPq (belowC a0 8) a1).1 (bentPq (belowC a0 8) a1).2
  unfold bentPq
  cases ((belowC a0 8).2 == 0) with
  | true => rfl
  | false =>
    cases ((belowC a0 8).2 == 1) with
    | true =>
      cases hd : decide ((a1.2.length : Int) > 0) with
      | false => rfl
      | true =>
        have hi : inRange (0 : Int) (List.length a1.2) = true := by
          have := of_decide_eq_true hd
          unfold inRange
          rw [decide_eq_true (show (0 : Int) ≤ 0 by omega), decide_eq_true (show (0 : Int) < (a1.2.length : Int) by omega)]
          rfl
        simp only [hi, cond_true, cond_false]
        rfl
    | false => cases ((belowC a0 8).2 == 2) <;> rfl
def OP_spec_l11Bent (f0 : TCur → Int → (TCur × Int)) (g0 : TCur → Int → Bool) (f1 : TCur → (List Int) → (TCur × Int)) (g1 : TCur → (List Int) → Bool) : Orac := (orcX 49 [.lend (.pair (.slice 5 (.int .u8)) (.pair (.int .i64) (.int .i64))) .no, .val (.slice 3 (.int .i64))] (fun d => g1 d.1 d.2.1) (fun d => [⟨(.pair (.slice 5 (.int .u8)) (.pair (.int .i64) (.int .i64))), (f1 d.1 d.2.1).1⟩, ⟨(.int .i64), (f1 d.1 d.2.1).2⟩]) (orcX 42 [.lend (.pair (.slice 5 (.int .u8)) (.pair (.int .i64) (.int .i64))) .no, .val (.int .i64)] (fun d => g0 d.1 d.2.1) (fun d => [⟨(.pair (.slice 5 (.int .u8)) (.pair (.int .i64) (.int .i64))), (f0 d.1 d.2.1).1⟩, ⟨(.int .i64), (f0 d.1 d.2.1).2⟩]) nilO))
def O_spec_l11Bent : Orac := OP_spec_l11Bent N.spec_l1Below G.spec_l1Below N.spec_l1Int G.spec_l1Int
theorem ok_spec_l11Bent : OracOk Try.prog sigs O_spec_l11Bent := (orcB_ok rfl (fun d g => said_spec_l1Int d.1 d.2.1 g) (orcB_ok rfl (fun d g => said_spec_l1Below d.1 d.2.1 g) nilO_ok))
def A_spec_l11Bent : Ann := fun b => ⟨[], []⟩
theorem aP_spec_l11Bent (f0 : TCur → Int → (TCur × Int)) (g0 : TCur → Int → Bool) (f1 : TCur → (List Int) → (TCur × Int)) (g1 : TCur → (List Int) → Bool) (n : Nat) (a0 : TCur) (a1 : TProof) : absFB tab sigs (OP_spec_l11Bent f0 g0 f1 g1) A_spec_l11Bent Try.f69 [((.pair (.int .i64) (.slice 3 (.int .i64))), .no)] n (.pair (.slice 5 (.int .u8)) (.pair (.int .i64) (.int .i64))) a0 [.lend (.pair (.int .i64) (.slice 3 (.int .i64))) a1 (.pair .no (.own 0))] = spec_l11Bent_P f0 g0 f1 g1 (fun r0 r1 => some [⟨(.pair (.slice 5 (.int .u8)) (.pair (.int .i64) (.int .i64))), r0⟩, ⟨(.pair (.int .i64) (.slice 3 (.int .i64))), r1⟩])  a0 a1 := by kernel_rfl
theorem said_spec_l11Bent (a0 : TCur) (a1 : TProof) (g : G.spec_l11Bent a0 a1 = true) : SaidP Try.prog sigs_69 69 (.pair (.slice 5 (.int .u8)) (.pair (.int .i64) (.int .i64))) a0 [.lend (.pair (.int .i64) (.slice 3 (.int .i64))) a1 (.pair .no (.own 0))] [⟨(.pair (.slice 5 (.int .u8)) (.pair (.int .i64) (.int .i64))), (N.spec_l11Bent a0 a1).1⟩, ⟨(.pair (.int .i64) (.slice 3 (.int .i64))), (N.spec_l11Bent a0 a1).2⟩] := said_lenB (T := tab) (A := A_spec_l11Bent) tabOk ok_spec_l11Bent tabOk.follows Try.func69 (by kernel_rfl) (by kernel_rfl) (fun hl => ⟨0, (aP_spec_l11Bent N.spec_l1Below G.spec_l1Below N.spec_l1Int G.spec_l1Int 0 a0 a1).trans (spec_l11Bent_ok (ρ := Ret) (fun r0 r1 => some [⟨(.pair (.slice 5 (.int .u8)) (.pair (.int .i64) (.int .i64))), r0⟩, ⟨(.pair (.int .i64) (.slice 3 (.int .i64))), r1⟩]) a0 a1 hl.1 hl.2.1 g)⟩)
abbrev G.spec_DrawCheckEntry (l : List Int) : Bool := decide (l.length ≤ 1048576)
abbrev N.spec_DrawCheckEntry (l : List Int) : Int × (Int × (TEntry × TProof)) := chkD l
def spec_DrawCheckEntry_P {ρ : Type} (f0 : (List Int) → TCur) (g0 : (List Int) → Bool) (f1 : TCur → (TCur × (List TEntry))) (g1 : TCur → Bool) (f2 : (List TEntry) → Int) (g2 : (List TEntry) → Bool) (f3 : TCur → (TCur × TEntry)) (g3 : TCur → Bool) (f4 : TCur → Int → (TCur × Int)) (g4 : TCur → Int → Bool) (f5 : TEntry → TEntry) (g5 : TEntry → Bool) (f6 : (List TEntry) → ByteArray → (TProof × Bool)) (g6 : (List TEntry) → ByteArray → Bool) (f7 : TCur → TProof → (TCur × TProof)) (g7 : TCur → TProof → Bool) (k : Int → Int → TEntry → TProof → Option ρ) (a0 : (List Int)) : Option ρ := (cond (g0 a0) (cond (g1 (f0 a0)) (cond ((List.length (f1 (f0 a0)).2 : Int) == (0 : Int)) (cond (g2 (f1 (f0 a0)).2) (cond (g3 (f1 (f0 a0)).1) (k (f2 (f1 (f0 a0)).2) (0 : Int) (f3 (f1 (f0 a0)).1).2 ((0 : Int), ([] : (List Int)))) none) none) (cond (g4 (f1 (f0 a0)).1 (List.length (f1 (f0 a0)).2 : Int)) (cond (inRange (f4 (f1 (f0 a0)).1 (List.length (f1 (f0 a0)).2 : Int)).2 (List.length (f1 (f0 a0)).2)) (cond (inRange (f4 (f1 (f0 a0)).1 (List.length (f1 (f0 a0)).2 : Int)).2 (List.length (f1 (f0 a0)).2)) (cond (g5 (List.getD (f1 (f0 a0)).2 (Int.toNat (f4 (f1 (f0 a0)).1 (List.length (f1 (f0 a0)).2 : Int)).2) (ByteArray.empty, ((0 : Int), ((0 : Int), []))))) (cond (g6 (f1 (f0 a0)).2 (f5 (List.getD (f1 (f0 a0)).2 (Int.toNat (f4 (f1 (f0 a0)).1 (List.length (f1 (f0 a0)).2 : Int)).2) (ByteArray.empty, ((0 : Int), ((0 : Int), []))))).1) (cond (g4 (f4 (f1 (f0 a0)).1 (List.length (f1 (f0 a0)).2 : Int)).1 (6 : Int)) (cond ((f4 (f4 (f1 (f0 a0)).1 (List.length (f1 (f0 a0)).2 : Int)).1 (6 : Int)).2 == (0 : Int)) (cond (g2 (f1 (f0 a0)).2) (cond (g7 (f4 (f4 (f1 (f0 a0)).1 (List.length (f1 (f0 a0)).2 : Int)).1 (6 : Int)).1 (f6 (f1 (f0 a0)).2 (f5 (List.getD (f1 (f0 a0)).2 (Int.toNat (f4 (f1 (f0 a0)).1 (List.length (f1 (f0 a0)).2 : Int)).2) (ByteArray.empty, ((0 : Int), ((0 : Int), []))))).1).1) (k (f2 (f1 (f0 a0)).2) (List.length (f1 (f0 a0)).2 : Int) ((f5 (List.getD (f1 (f0 a0)).2 (Int.toNat (f4 (f1 (f0 a0)).1 (List.length (f1 (f0 a0)).2 : Int)).2) (ByteArray.empty, ((0 : Int), ((0 : Int), []))))).1, ((f5 (List.getD (f1 (f0 a0)).2 (Int.toNat (f4 (f1 (f0 a0)).1 (List.length (f1 (f0 a0)).2 : Int)).2) (ByteArray.empty, ((0 : Int), ((0 : Int), []))))).2.1, ((IntKind.wrap .i64 ((f5 (List.getD (f1 (f0 a0)).2 (Int.toNat (f4 (f1 (f0 a0)).1 (List.length (f1 (f0 a0)).2 : Int)).2) (ByteArray.empty, ((0 : Int), ((0 : Int), []))))).2.2.1 + (1 : Int))), (f5 (List.getD (f1 (f0 a0)).2 (Int.toNat (f4 (f1 (f0 a0)).1 (List.length (f1 (f0 a0)).2 : Int)).2) (ByteArray.empty, ((0 : Int), ((0 : Int), []))))).2.2.2))) (f7 (f4 (f4 (f1 (f0 a0)).1 (List.length (f1 (f0 a0)).2 : Int)).1 (6 : Int)).1 (f6 (f1 (f0 a0)).2 (f5 (List.getD (f1 (f0 a0)).2 (Int.toNat (f4 (f1 (f0 a0)).1 (List.length (f1 (f0 a0)).2 : Int)).2) (ByteArray.empty, ((0 : Int), ((0 : Int), []))))).1).1).2) none) none) (cond ((f4 (f4 (f1 (f0 a0)).1 (List.length (f1 (f0 a0)).2 : Int)).1 (6 : Int)).2 == (1 : Int)) (cond (g2 (f1 (f0 a0)).2) (cond (g7 (f4 (f4 (f1 (f0 a0)).1 (List.length (f1 (f0 a0)).2 : Int)).1 (6 : Int)).1 (f6 (f1 (f0 a0)).2 (f5 (List.getD (f1 (f0 a0)).2 (Int.toNat (f4 (f1 (f0 a0)).1 (List.length (f1 (f0 a0)).2 : Int)).2) (ByteArray.empty, ((0 : Int), ((0 : Int), []))))).1).1) (k (f2 (f1 (f0 a0)).2) (IntKind.wrap .i64 ((List.length (f1 (f0 a0)).2 : Int) + (1 : Int))) (f5 (List.getD (f1 (f0 a0)).2 (Int.toNat (f4 (f1 (f0 a0)).1 (List.length (f1 (f0 a0)).2 : Int)).2) (ByteArray.empty, ((0 : Int), ((0 : Int), []))))) (f7 (f4 (f4 (f1 (f0 a0)).1 (List.length (f1 (f0 a0)).2 : Int)).1 (6 : Int)).1 (f6 (f1 (f0 a0)).2 (f5 (List.getD (f1 (f0 a0)).2 (Int.toNat (f4 (f1 (f0 a0)).1 (List.length (f1 (f0 a0)).2 : Int)).2) (ByteArray.empty, ((0 : Int), ((0 : Int), []))))).1).1).2) none) none) (cond (g2 (f1 (f0 a0)).2) (cond (g7 (f4 (f4 (f1 (f0 a0)).1 (List.length (f1 (f0 a0)).2 : Int)).1 (6 : Int)).1 (f6 (f1 (f0 a0)).2 (f5 (List.getD (f1 (f0 a0)).2 (Int.toNat (f4 (f1 (f0 a0)).1 (List.length (f1 (f0 a0)).2 : Int)).2) (ByteArray.empty, ((0 : Int), ((0 : Int), []))))).1).1) (k (f2 (f1 (f0 a0)).2) (List.length (f1 (f0 a0)).2 : Int) (f5 (List.getD (f1 (f0 a0)).2 (Int.toNat (f4 (f1 (f0 a0)).1 (List.length (f1 (f0 a0)).2 : Int)).2) (ByteArray.empty, ((0 : Int), ((0 : Int), []))))) (f7 (f4 (f4 (f1 (f0 a0)).1 (List.length (f1 (f0 a0)).2 : Int)).1 (6 : Int)).1 (f6 (f1 (f0 a0)).2 (f5 (List.getD (f1 (f0 a0)).2 (Int.toNat (f4 (f1 (f0 a0)).1 (List.length (f1 (f0 a0)).2 : Int)).2) (ByteArray.empty, ((0 : Int), ((0 : Int), []))))).1).1).2) none) none))) none) none) none) none) none) none)) none) none)
def spec_DrawCheckEntry {ρ : Type} (k : Int → Int → TEntry → TProof → Option ρ) (a0 : (List Int)) : Option ρ := spec_DrawCheckEntry_P N.spec_l1New G.spec_l1New N.spec_l9List G.spec_l9List N.spec_RootOf G.spec_RootOf N.spec_l8Any G.spec_l8Any N.spec_l1Below G.spec_l1Below N.spec_l8Copy G.spec_l8Copy N.spec_ProveEntry G.spec_ProveEntry N.spec_l11Bent G.spec_l11Bent k a0
theorem spec_DrawCheckEntry_ok {ρ : Type} (k : Int → Int → TEntry → TProof → Option ρ) (a0 : (List Int)) (l_a0 : lnL (fun _ => True) a0) (g : G.spec_DrawCheckEntry a0 = true) : spec_DrawCheckEntry k  a0 = k (N.spec_DrawCheckEntry a0).1 (N.spec_DrawCheckEntry a0).2.1 (N.spec_DrawCheckEntry a0).2.2.1 (N.spec_DrawCheckEntry a0).2.2.2 := by
  unfold G.spec_DrawCheckEntry at g
  have h0 := okC_new (of_decide_eq_true g)
  have h1 := okC_list h0
  have h2 := okC_below (List.length (listC (newC a0)).2 : Int) h1
  have h3 := okC_below 6 h2
  have hw := listC_w (newC a0)
  have hwE : wE (chkE (listC (newC a0))) ≤ 240 := chkE_w hw
  have hl := wEs_ge (listC (newC a0)).2
  have d1 : decide (wEs (listC (newC a0)).2 ≤ 1048576) = true := decide_eq_true (by omega)
  have d2 : decide ((List.getD (listC (newC a0)).2 (Int.toNat (belowC (listC (newC a0)).1 (List.length (listC (newC a0)).2 : Int)).2) (ByteArray.empty, (0, (0, [])))).2.2.2.length ≤ 1048576) = true := decide_eq_true (by
    have := wE_ge (chkE (listC (newC a0)))
    have e : (List.getD (listC (newC a0)).2 (Int.toNat (belowC (listC (newC a0)).1 (List.length (listC (newC a0)).2 : Int)).2) (ByteArray.empty, (0, (0, [])))) = chkE (listC (newC a0)) := rfl
    rw [e]
    omega)
  have d3 : ∀ s, decide ((proveEntry (listC (newC a0)).2 s).1.2.length ≤ 1048576) = true := fun s => decide_eq_true (by have := proveEntry_len (listC (newC a0)).2 s; omega)
  simp only [spec_DrawCheckEntry, spec_DrawCheckEntry_P, G.spec_l1New, N.spec_l1New, G.spec_l9List, N.spec_l9List, G.spec_RootOf, N.spec_RootOf, G.spec_l8Any, N.spec_l8Any, G.spec_l1Below, N.spec_l1Below, G.spec_l8Copy, N.spec_l8Copy, G.spec_ProveEntry, N.spec_ProveEntry, G.spec_l11Bent, N.spec_l11Bent, g, h0, h1, h2, h3, d1, d2, d3, Bool.and_self, cond_true]
  show _ = k (chkDr (listC (newC a0))).1 (chkDr (listC (newC a0))).2.1 (chkDr (listC (newC a0))).2.2.1 (chkDr (listC (newC a0))).2.2.2
  unfold chkDr
  cases hz : ((List.length (listC (newC a0)).2 : Int) == 0) with
  | true => simp only [cond_true]
  | false =>
    have hpos : 0 < (listC (newC a0)).2.length := by
      have : ¬ ((listC (newC a0)).2.length : Int) = 0 := by
        intro e
        rw [e] at hz
        cases hz
      omega
    have hi := pick_in (listC (newC a0)).1 (listC (newC a0)).2 hpos
    simp only [hi, cond_true, cond_false]
    unfold chkDp chkE chkEq
    cases ((belowC (belowC (listC (newC a0)).1 (List.length (listC (newC a0)).2 : Int)).1 6).2 == 0) with
    | true => simp only [cond_true]
    | false => cases ((belowC (belowC (listC (newC a0)).1 (List.length (listC (newC a0)).2 : Int)).1 6).2 == 1) <;> simp only [cond_true, cond_false]
def OP_spec_DrawCheckEntry (f0 : (List Int) → TCur) (g0 : (List Int) → Bool) (f1 : TCur → (TCur × (List TEntry))) (g1 : TCur → Bool) (f2 : (List TEntry) → Int) (g2 : (List TEntry) → Bool) (f3 : TCur → (TCur × TEntry)) (g3 : TCur → Bool) (f4 : TCur → Int → (TCur × Int)) (g4 : TCur → Int → Bool) (f5 : TEntry → TEntry) (g5 : TEntry → Bool) (f6 : (List TEntry) → ByteArray → (TProof × Bool)) (g6 : (List TEntry) → ByteArray → Bool) (f7 : TCur → TProof → (TCur × TProof)) (g7 : TCur → TProof → Bool) : Orac := (orcX 69 [.lend (.pair (.slice 5 (.int .u8)) (.pair (.int .i64) (.int .i64))) .no, .lend (.pair (.int .i64) (.slice 3 (.int .i64))) (.pair .no (.own 0))] (fun d => g7 d.1 d.2.1) (fun d => [⟨(.pair (.slice 5 (.int .u8)) (.pair (.int .i64) (.int .i64))), (f7 d.1 d.2.1).1⟩, ⟨(.pair (.int .i64) (.slice 3 (.int .i64))), (f7 d.1 d.2.1).2⟩]) (orcX 22 [.val (.slice 48 TyEntry), .val .str] (fun d => g6 d.1 d.2.1) (fun d => [⟨(.pair (.int .i64) (.slice 3 (.int .i64))), (f6 d.1 d.2.1).1⟩, ⟨.bool, (f6 d.1 d.2.1).2⟩]) (orcX 68 [.val TyEntry] (fun d => g5 d.1) (fun d => [⟨TyEntry, f5 d.1⟩]) (orcX 42 [.lend (.pair (.slice 5 (.int .u8)) (.pair (.int .i64) (.int .i64))) .no, .val (.int .i64)] (fun d => g4 d.1 d.2.1) (fun d => [⟨(.pair (.slice 5 (.int .u8)) (.pair (.int .i64) (.int .i64))), (f4 d.1 d.2.1).1⟩, ⟨(.int .i64), (f4 d.1 d.2.1).2⟩]) (orcX 67 [.lend (.pair (.slice 5 (.int .u8)) (.pair (.int .i64) (.int .i64))) .no] (fun d => g3 d.1) (fun d => [⟨(.pair (.slice 5 (.int .u8)) (.pair (.int .i64) (.int .i64))), (f3 d.1).1⟩, ⟨TyEntry, (f3 d.1).2⟩]) (orcX 18 [.val (.slice 48 TyEntry)] (fun d => g2 d.1) (fun d => [⟨(.int .i64), f2 d.1⟩]) (orcX 66 [.lend (.pair (.slice 5 (.int .u8)) (.pair (.int .i64) (.int .i64))) .no] (fun d => g1 d.1) (fun d => [⟨(.pair (.slice 5 (.int .u8)) (.pair (.int .i64) (.int .i64))), (f1 d.1).1⟩, ⟨(.slice 48 TyEntry), (f1 d.1).2⟩]) (orcX 40 [.lend .bool .nil, .val (.slice 5 (.int .u8))] (fun d => g0 d.2.1) (fun d => [⟨(.pair (.slice 5 (.int .u8)) (.pair (.int .i64) (.int .i64))), f0 d.2.1⟩]) nilO))))))))
def O_spec_DrawCheckEntry : Orac := OP_spec_DrawCheckEntry N.spec_l1New G.spec_l1New N.spec_l9List G.spec_l9List N.spec_RootOf G.spec_RootOf N.spec_l8Any G.spec_l8Any N.spec_l1Below G.spec_l1Below N.spec_l8Copy G.spec_l8Copy N.spec_ProveEntry G.spec_ProveEntry N.spec_l11Bent G.spec_l11Bent
theorem ok_spec_DrawCheckEntry : OracOk Try.prog sigs O_spec_DrawCheckEntry := (orcB_ok rfl (fun d g => said_spec_l11Bent d.1 d.2.1 g) (orcX_ok rfl rfl (fun d g => said_spec_ProveEntry d.1 d.2.1 g) (orcX_ok rfl rfl (fun d g => said_spec_l8Copy d.1 g) (orcB_ok rfl (fun d g => said_spec_l1Below d.1 d.2.1 g) (orcB_ok rfl (fun d g => said_spec_l8Any d.1 g) (orcX_ok rfl rfl (fun d g => said_spec_RootOf d.1 g) (orcB_ok rfl (fun d g => said_spec_l9List d.1 g) (orcN_ok rfl (fun d g => said_spec_l1New d.2.1 g) nilO_ok))))))))
def A_spec_DrawCheckEntry : Ann := fun b => ⟨[], []⟩
theorem aP_spec_DrawCheckEntry (f0 : (List Int) → TCur) (g0 : (List Int) → Bool) (f1 : TCur → (TCur × (List TEntry))) (g1 : TCur → Bool) (f2 : (List TEntry) → Int) (g2 : (List TEntry) → Bool) (f3 : TCur → (TCur × TEntry)) (g3 : TCur → Bool) (f4 : TCur → Int → (TCur × Int)) (g4 : TCur → Int → Bool) (f5 : TEntry → TEntry) (g5 : TEntry → Bool) (f6 : (List TEntry) → ByteArray → (TProof × Bool)) (g6 : (List TEntry) → ByteArray → Bool) (f7 : TCur → TProof → (TCur × TProof)) (g7 : TCur → TProof → Bool) (n : Nat) (a0 : (List Int)) : absF tab sigs (OP_spec_DrawCheckEntry f0 g0 f1 g1 f2 g2 f3 g3 f4 g4 f5 g5 f6 g6 f7 g7) A_spec_DrawCheckEntry Try.f30 [((.int .i64), .no), ((.int .i64), .no), (TyEntry, .no), ((.pair (.int .i64) (.slice 3 (.int .i64))), .no)] n [.val (.slice 5 (.int .u8)) a0] = spec_DrawCheckEntry_P f0 g0 f1 g1 f2 g2 f3 g3 f4 g4 f5 g5 f6 g6 f7 g7 (fun r0 r1 r2 r3 => some [⟨(.int .i64), r0⟩, ⟨(.int .i64), r1⟩, ⟨TyEntry, r2⟩, ⟨(.pair (.int .i64) (.slice 3 (.int .i64))), r3⟩])  a0 := by kernel_rfl
theorem said_spec_DrawCheckEntry (a0 : (List Int)) (g : G.spec_DrawCheckEntry a0 = true) : Said Try.prog sigs_30 30 [.val (.slice 5 (.int .u8)) a0] [⟨(.int .i64), (N.spec_DrawCheckEntry a0).1⟩, ⟨(.int .i64), (N.spec_DrawCheckEntry a0).2.1⟩, ⟨TyEntry, (N.spec_DrawCheckEntry a0).2.2.1⟩, ⟨(.pair (.int .i64) (.slice 3 (.int .i64))), (N.spec_DrawCheckEntry a0).2.2.2⟩] := said_len (T := tab) (A := A_spec_DrawCheckEntry) tabOk ok_spec_DrawCheckEntry tabOk.follows Try.func30 (by kernel_rfl) (by kernel_rfl) (fun hl => ⟨0, (aP_spec_DrawCheckEntry N.spec_l1New G.spec_l1New N.spec_l9List G.spec_l9List N.spec_RootOf G.spec_RootOf N.spec_l8Any G.spec_l8Any N.spec_l1Below G.spec_l1Below N.spec_l8Copy G.spec_l8Copy N.spec_ProveEntry G.spec_ProveEntry N.spec_l11Bent G.spec_l11Bent 0 a0).trans (spec_DrawCheckEntry_ok (ρ := Ret) (fun r0 r1 r2 r3 => some [⟨(.int .i64), r0⟩, ⟨(.int .i64), r1⟩, ⟨TyEntry, r2⟩, ⟨(.pair (.int .i64) (.slice 3 (.int .i64))), r3⟩]) a0 hl.1 g)⟩)
abbrev G.spec_DrawCheckAll (l : List Int) : Bool := decide (l.length ≤ 1048576)
abbrev N.spec_DrawCheckAll (l : List Int) : Int × List TEntry := allD l
def spec_DrawCheckAll_P {ρ : Type} (f0 : (List Int) → TCur) (g0 : (List Int) → Bool) (f1 : TCur → (TCur × (List TEntry))) (g1 : TCur → Bool) (f2 : (List TEntry) → Int) (g2 : (List TEntry) → Bool) (f3 : TCur → Int → (TCur × Int)) (g3 : TCur → Int → Bool) (k : Int → (List TEntry) → Option ρ) (a0 : (List Int)) : Option ρ := (cond (g0 a0) (cond (g1 (f0 a0)) (cond (g2 (f1 (f0 a0)).2) (cond (g3 (f1 (f0 a0)).1 (2 : Int)) (k (IntKind.wrap .i64 ((f2 (f1 (f0 a0)).2) + (f3 (f1 (f0 a0)).1 (2 : Int)).2)) (f1 (f0 a0)).2) none) none) none) none)
def spec_DrawCheckAll {ρ : Type} (k : Int → (List TEntry) → Option ρ) (a0 : (List Int)) : Option ρ := spec_DrawCheckAll_P N.spec_l1New G.spec_l1New N.spec_l9Any G.spec_l9Any N.spec_RootOf G.spec_RootOf N.spec_l1Below G.spec_l1Below k a0
theorem spec_DrawCheckAll_ok {ρ : Type} (k : Int → (List TEntry) → Option ρ) (a0 : (List Int)) (l_a0 : lnL (fun _ => True) a0) (g : G.spec_DrawCheckAll a0 = true) : spec_DrawCheckAll k  a0 = k (N.spec_DrawCheckAll a0).1 (N.spec_DrawCheckAll a0).2 := by
  unfold G.spec_DrawCheckAll at g
  have h0 := okC_new (of_decide_eq_true g)
  have h1 := okC_anyEs h0
  have hw := anyEs_w (newC a0)
  have d1 : decide (wEs (anyEs (newC a0)).2 ≤ 1048576) = true := decide_eq_true (by omega)
  simp only [spec_DrawCheckAll, spec_DrawCheckAll_P, G.spec_l1New, N.spec_l1New, G.spec_l9Any, N.spec_l9Any, G.spec_RootOf, N.spec_RootOf, G.spec_l1Below, N.spec_l1Below, g, h0, h1, d1, cond_true]
  show _ = k (allDp (anyEs (newC a0))).1 (allDp (anyEs (newC a0))).2
  simp only [allDp]
def OP_spec_DrawCheckAll (f0 : (List Int) → TCur) (g0 : (List Int) → Bool) (f1 : TCur → (TCur × (List TEntry))) (g1 : TCur → Bool) (f2 : (List TEntry) → Int) (g2 : (List TEntry) → Bool) (f3 : TCur → Int → (TCur × Int)) (g3 : TCur → Int → Bool) : Orac := (orcX 42 [.lend (.pair (.slice 5 (.int .u8)) (.pair (.int .i64) (.int .i64))) .no, .val (.int .i64)] (fun d => g3 d.1 d.2.1) (fun d => [⟨(.pair (.slice 5 (.int .u8)) (.pair (.int .i64) (.int .i64))), (f3 d.1 d.2.1).1⟩, ⟨(.int .i64), (f3 d.1 d.2.1).2⟩]) (orcX 18 [.val (.slice 48 TyEntry)] (fun d => g2 d.1) (fun d => [⟨(.int .i64), f2 d.1⟩]) (orcX 56 [.lend (.pair (.slice 5 (.int .u8)) (.pair (.int .i64) (.int .i64))) .no] (fun d => g1 d.1) (fun d => [⟨(.pair (.slice 5 (.int .u8)) (.pair (.int .i64) (.int .i64))), (f1 d.1).1⟩, ⟨(.slice 48 TyEntry), (f1 d.1).2⟩]) (orcX 40 [.lend .bool .nil, .val (.slice 5 (.int .u8))] (fun d => g0 d.2.1) (fun d => [⟨(.pair (.slice 5 (.int .u8)) (.pair (.int .i64) (.int .i64))), f0 d.2.1⟩]) nilO))))
def O_spec_DrawCheckAll : Orac := OP_spec_DrawCheckAll N.spec_l1New G.spec_l1New N.spec_l9Any G.spec_l9Any N.spec_RootOf G.spec_RootOf N.spec_l1Below G.spec_l1Below
theorem ok_spec_DrawCheckAll : OracOk Try.prog sigs O_spec_DrawCheckAll := (orcB_ok rfl (fun d g => said_spec_l1Below d.1 d.2.1 g) (orcX_ok rfl rfl (fun d g => said_spec_RootOf d.1 g) (orcB_ok rfl (fun d g => said_spec_l9Any d.1 g) (orcN_ok rfl (fun d g => said_spec_l1New d.2.1 g) nilO_ok))))
def A_spec_DrawCheckAll : Ann := fun b => ⟨[], []⟩
theorem aP_spec_DrawCheckAll (f0 : (List Int) → TCur) (g0 : (List Int) → Bool) (f1 : TCur → (TCur × (List TEntry))) (g1 : TCur → Bool) (f2 : (List TEntry) → Int) (g2 : (List TEntry) → Bool) (f3 : TCur → Int → (TCur × Int)) (g3 : TCur → Int → Bool) (n : Nat) (a0 : (List Int)) : absF tab sigs (OP_spec_DrawCheckAll f0 g0 f1 g1 f2 g2 f3 g3) A_spec_DrawCheckAll Try.f31 [((.int .i64), .no), ((.slice 48 TyEntry), (.own 0))] n [.val (.slice 5 (.int .u8)) a0] = spec_DrawCheckAll_P f0 g0 f1 g1 f2 g2 f3 g3 (fun r0 r1 => some [⟨(.int .i64), r0⟩, ⟨(.slice 48 TyEntry), r1⟩])  a0 := by kernel_rfl
theorem said_spec_DrawCheckAll (a0 : (List Int)) (g : G.spec_DrawCheckAll a0 = true) : Said Try.prog sigs_31 31 [.val (.slice 5 (.int .u8)) a0] [⟨(.int .i64), (N.spec_DrawCheckAll a0).1⟩, ⟨(.slice 48 TyEntry), (N.spec_DrawCheckAll a0).2⟩] := said_len (T := tab) (A := A_spec_DrawCheckAll) tabOk ok_spec_DrawCheckAll tabOk.follows Try.func31 (by kernel_rfl) (by kernel_rfl) (fun hl => ⟨0, (aP_spec_DrawCheckAll N.spec_l1New G.spec_l1New N.spec_l9Any G.spec_l9Any N.spec_RootOf G.spec_RootOf N.spec_l1Below G.spec_l1Below 0 a0).trans (spec_DrawCheckAll_ok (ρ := Ret) (fun r0 r1 => some [⟨(.int .i64), r0⟩, ⟨(.slice 48 TyEntry), r1⟩]) a0 hl.1 g)⟩)
abbrev N.spec_TopFrom (leaf i n : Int) (path : List Int) : Int × Bool := topFrom leaf i n path
def spec_TopFrom_P_L0 {ρ : Type} (f0 : Int → Int → Int → Bool) (f1 : Int → Int → Int) (k : Int → Bool → Option ρ) (L0 : Int → Int → Int → (List Int) → Int → Option ρ) (v0_0 : Int) (v0_1 : Int) (v0_2 : Int) (v0_3 : (List Int)) (v0_4 : Int) : Option ρ := (cond (decide (v0_2 > (1 : Int))) (cond ((Int.tmod v0_1 (2 : Int)) == (1 : Int)) (cond (decide (v0_4 ≥ (List.length v0_3 : Int))) (k (0 : Int) false) (cond ((Int.tmod v0_1 (2 : Int)) == (1 : Int)) (cond (inRange v0_4 (List.length v0_3)) (L0 (f1 (List.getD v0_3 (Int.toNat v0_4) (0 : Int)) v0_0) (IntKind.wrap .i64 (Int.tdiv v0_1 (2 : Int))) (IntKind.wrap .i64 (Int.tdiv (IntKind.wrap .i64 (v0_2 + (1 : Int))) (2 : Int))) v0_3 (IntKind.wrap .i64 (v0_4 + (1 : Int)))) none) (cond (inRange v0_4 (List.length v0_3)) (L0 (f1 v0_0 (List.getD v0_3 (Int.toNat v0_4) (0 : Int))) (IntKind.wrap .i64 (Int.tdiv v0_1 (2 : Int))) (IntKind.wrap .i64 (Int.tdiv (IntKind.wrap .i64 (v0_2 + (1 : Int))) (2 : Int))) v0_3 (IntKind.wrap .i64 (v0_4 + (1 : Int)))) none))) (cond (decide ((IntKind.wrap .i64 (v0_1 + (1 : Int))) < v0_2)) (cond (decide (v0_4 ≥ (List.length v0_3 : Int))) (k (0 : Int) false) (cond ((Int.tmod v0_1 (2 : Int)) == (1 : Int)) (cond (inRange v0_4 (List.length v0_3)) (L0 (f1 (List.getD v0_3 (Int.toNat v0_4) (0 : Int)) v0_0) (IntKind.wrap .i64 (Int.tdiv v0_1 (2 : Int))) (IntKind.wrap .i64 (Int.tdiv (IntKind.wrap .i64 (v0_2 + (1 : Int))) (2 : Int))) v0_3 (IntKind.wrap .i64 (v0_4 + (1 : Int)))) none) (cond (inRange v0_4 (List.length v0_3)) (L0 (f1 v0_0 (List.getD v0_3 (Int.toNat v0_4) (0 : Int))) (IntKind.wrap .i64 (Int.tdiv v0_1 (2 : Int))) (IntKind.wrap .i64 (Int.tdiv (IntKind.wrap .i64 (v0_2 + (1 : Int))) (2 : Int))) v0_3 (IntKind.wrap .i64 (v0_4 + (1 : Int)))) none))) (L0 v0_0 (IntKind.wrap .i64 (Int.tdiv v0_1 (2 : Int))) (IntKind.wrap .i64 (Int.tdiv (IntKind.wrap .i64 (v0_2 + (1 : Int))) (2 : Int))) v0_3 v0_4))) (cond (v0_4 != (List.length v0_3 : Int)) (k (0 : Int) false) (k v0_0 true)))
def spec_TopFrom_P {ρ : Type} (f0 : Int → Int → Int → Bool) (f1 : Int → Int → Int) (k : Int → Bool → Option ρ) (L0 : Int → Int → Int → (List Int) → Int → Option ρ) (a0 : Int) (a1 : Int) (a2 : Int) (a3 : (List Int)) : Option ρ := (cond (!(f0 a2 (1 : Int) (12 : Int))) (k (0 : Int) false) (cond (!(f0 a1 (0 : Int) (IntKind.wrap .i64 (a2 - (1 : Int))))) (k (0 : Int) false) (L0 a0 a1 a2 a3 (0 : Int))))
def spec_TopFrom_L0 {ρ : Type} (k : Int → Bool → Option ρ) (L0 : Int → Int → Int → (List Int) → Int → Option ρ) (v0_0 : Int) (v0_1 : Int) (v0_2 : Int) (v0_3 : (List Int)) (v0_4 : Int) : Option ρ := spec_TopFrom_P_L0 N.spec_l1In N.spec_NodeOf k L0 v0_0 v0_1 v0_2 v0_3 v0_4
def spec_TopFrom {ρ : Type} (k : Int → Bool → Option ρ) (L0 : Int → Int → Int → (List Int) → Int → Option ρ) (a0 : Int) (a1 : Int) (a2 : Int) (a3 : (List Int)) : Option ρ := spec_TopFrom_P N.spec_l1In N.spec_NodeOf k L0 a0 a1 a2 a3
theorem spec_TopFrom_ok {ρ : Type} (k : Int → Bool → Option ρ) (a0 : Int) (a1 : Int) (a2 : Int) (a3 : (List Int)) (l_a3 : lnL (fun _ => True) a3) : ∃ n0, ∀ n, n0 ≤ n → ∀ (L0 : Nat → Int → Int → Int → (List Int) → Int → Option ρ) (h0 : ∀ ( m : Nat) (v0_0 : Int) (v0_1 : Int) (v0_2 : Int) (v0_3 : (List Int)) (v0_4 : Int), L0 (m + 1) v0_0 v0_1 v0_2 v0_3 v0_4 = spec_TopFrom_L0 k (L0 m) v0_0 v0_1 v0_2 v0_3 v0_4), spec_TopFrom k (L0 n) a0 a1 a2 a3 = k (N.spec_TopFrom a0 a1 a2 a3).1 (N.spec_TopFrom a0 a1 a2 a3).2 := by
  refine ⟨a2.toNat + 1, fun n hn L0 h0 => ?_⟩
  show spec_TopFrom k (L0 n) a0 a1 a2 a3 = k (topFrom a0 a1 a2 a3).1 (topFrom a0 a1 a2 a3).2
  unfold spec_TopFrom spec_TopFrom_P topFrom
  dsimp only [N.spec_l1In]
  cases hn1 : inR a2 1 12 with
  | false => rfl
  | true =>
    have hn2 : 1 ≤ a2 ∧ a2 ≤ 12 := by simpa [inR] using hn1
    rw [wrap_id (n := a2 - 1) (by omega) (by omega)]
    cases hi1 : inR a1 0 (a2 - 1) with
    | false => rfl
    | true =>
      have hi2 : 0 ≤ a1 ∧ a1 ≤ a2 - 1 := by simpa [inR] using hi1
      show L0 n a0 a1 a2 a3 0 = k (tfRes (tfN a2.toNat a0 a1.toNat a2.toNat a3)).1 (tfRes (tfN a2.toNat a0 a1.toNat a2.toNat a3)).2
      refine raw_meas (σ := Int × Int × Int × Int) (L := fun m s => L0 m s.1 s.2.1 s.2.2.1 a3 s.2.2.2) (R := fun s c => spec_TopFrom_L0 k (fun l i n _ u => c (l, i, n, u)) s.1 s.2.1 s.2.2.1 a3 s.2.2.2)
        (fun m s => h0 m _ _ _ _ _) (fun s => 0 ≤ s.2.1 ∧ 1 ≤ s.2.2.1 ∧ s.2.2.1 ≤ 12 ∧ s.2.1 < s.2.2.1 ∧ 0 ≤ s.2.2.2 ∧ s.2.2.2 ≤ a3.length) (fun s => s.2.2.1.toNat) (fun s => k (tfRes (tfN s.2.2.1.toNat s.1 s.2.1.toNat s.2.2.1.toNat (a3.drop s.2.2.2.toNat))).1 (tfRes (tfN s.2.2.1.toNat s.1 s.2.1.toNat s.2.2.1.toNat (a3.drop s.2.2.2.toNat))).2) (fun s c hI hc => ?_) n (a0, a1, a2, 0) ⟨hi2.1, hn2.1, hn2.2, by dsimp only; omega, Int.le_refl 0, by dsimp only; omega⟩ (by dsimp only; omega)
      obtain ⟨l, i, q, u⟩ := s
      obtain ⟨b0, b1, b2, b3, b4, b5⟩ := hI
      dsimp only at b0 b1 b2 b3 b4 b5 hc ⊢
      obtain ⟨i, rfl⟩ := Int.eq_ofNat_of_zero_le b0
      obtain ⟨q, rfl⟩ := Int.eq_ofNat_of_zero_le (a := q) (by omega)
      obtain ⟨u, rfl⟩ := Int.eq_ofNat_of_zero_le b4
      simp only [Int.toNat_natCast] at hc ⊢
      have l3 : a3.length ≤ 9223372036854775807 := l_a3.1
      by_cases h1 : 1 < q
      · obtain ⟨f, rfl⟩ : ∃ f, q = f + 1 := ⟨q - 1, by omega⟩
        have e1 : decide (((f + 1 : Nat) : Int) > 1) = true := by simp; omega
        have t3 : IntKind.wrap .i64 (Int.tdiv (IntKind.wrap .i64 (((f + 1 : Nat) : Int) + 1)) 2) = (((f + 1 + 1) / 2 : Nat) : Int) := by rw [wrap_succ (by unfold big; omega), tdiv2 (by omega)]
        have t4 : u < a3.length → IntKind.wrap .i64 ((u : Int) + 1) = ((u + 1 : Nat) : Int) := fun h => wrap_succ (by unfold big; omega)
        have t5 : IntKind.wrap .i64 ((i : Int) + 1) = ((i + 1 : Nat) : Int) := wrap_succ (by unfold big; omega)
        have hfuel : ∀ leaf path, tfN ((f + 1 + 1) / 2) leaf (i / 2) ((f + 1 + 1) / 2) path = tfN f leaf (i / 2) ((f + 1 + 1) / 2) path := fun leaf path => tfN_more _ _ _ _ _ _ (by omega) (by omega)
        have step : ∀ leaf u', u' ≤ a3.length → c (leaf, ((i / 2 : Nat) : Int), (((f + 1 + 1) / 2 : Nat) : Int), (u' : Int)) = k (tfRes (tfN f leaf (i / 2) ((f + 1 + 1) / 2) (a3.drop u'))).1 (tfRes (tfN f leaf (i / 2) ((f + 1 + 1) / 2) (a3.drop u'))).2 := by
          intro leaf u' hu'
          have := hc (leaf, ((i / 2 : Nat) : Int), (((f + 1 + 1) / 2 : Nat) : Int), (u' : Int)) ⟨by simp; omega, by simp; omega, by simp; omega, by simp; omega, by simp, by simp; omega⟩ (by simp; omega)
          simp only [Int.toNat_natCast] at this
          rw [this, hfuel]
        unfold tfN
        rw [decide_eq_true h1]
        by_cases hodd : i % 2 = 1
        · have o1 : (((i % 2 : Nat) : Int) == 1) = true := by rw [hodd]; rfl
          have o2 : decide (sib i < f + 1) = true := by unfold sib; rw [if_neg (by omega)]; simp; omega
          have o3 : decide (i % 2 = 0) = false := by simp; omega
          by_cases hu : u < a3.length
          · have e5 : decide ((u : Int) ≥ (a3.length : Int)) = false := by simp; omega
            rw [drop_cons 0 hu]
            simp only [spec_TopFrom_L0, spec_TopFrom_P_L0, e1, tmod2, o1, o2, o3, e5, cond_true, cond_false, inRange_nat, decide_eq_true hu, tdiv2 (i := i) (by omega), t3, t4 hu, Int.toNat_natCast, step _ (u + 1) (by omega)]
          · have e5 : decide ((u : Int) ≥ (a3.length : Int)) = true := by simp; omega
            rw [List.drop_of_length_le (by omega)]
            simp only [spec_TopFrom_L0, spec_TopFrom_P_L0, e1, tmod2, o1, o2, o3, e5, cond_true, cond_false]
            rfl
        · have o1 : (((i % 2 : Nat) : Int) == 1) = false := by
            have o4 : i % 2 = 0 := by omega
            rw [o4]; rfl
          have o3 : decide (i % 2 = 0) = true := by simp; omega
          by_cases hlt : i + 1 < f + 1
          · have o2 : decide (sib i < f + 1) = true := by unfold sib; rw [if_pos (by omega)]; simpa using hlt
            by_cases hu : u < a3.length
            · have e5 : decide ((u : Int) ≥ (a3.length : Int)) = false := by simp; omega
              rw [drop_cons 0 hu]
              simp only [spec_TopFrom_L0, spec_TopFrom_P_L0, e1, tmod2, o1, o2, o3, e5, t5, lt_nat, decide_eq_true hlt, cond_true, cond_false, inRange_nat, decide_eq_true hu, tdiv2 (i := i) (by omega), t3, t4 hu, Int.toNat_natCast, step _ (u + 1) (by omega)]
            · have e5 : decide ((u : Int) ≥ (a3.length : Int)) = true := by simp; omega
              rw [List.drop_of_length_le (by omega)]
              simp only [spec_TopFrom_L0, spec_TopFrom_P_L0, e1, tmod2, o1, o2, o3, e5, t5, lt_nat, decide_eq_true hlt, cond_true, cond_false]
              rfl
          · have o2 : decide (sib i < f + 1) = false := by unfold sib; rw [if_pos (by omega)]; simpa using hlt
            simp only [spec_TopFrom_L0, spec_TopFrom_P_L0, e1, tmod2, o1, o2, t5, lt_nat, decide_eq_false hlt, cond_true, cond_false, tdiv2 (i := i) (by omega), t3, step _ u (by omega)]
      · have e1 : decide ((q : Int) > 1) = false := by simp; omega
        have e2 : q = 1 := by omega
        subst e2
        unfold tfN
        by_cases hu : u < a3.length
        · have e3 : ((u : Int) != (a3.length : Int)) = true := by simp; omega
          have e4 : ((a3.drop u).length == 0) = false := by rw [List.length_drop]; simp; omega
          simp only [spec_TopFrom_L0, spec_TopFrom_P_L0, e1, e3, e4, cond_true, cond_false]
          rfl
        · have e3 : ((u : Int) != (a3.length : Int)) = false := by simp; omega
          have e4 : ((a3.drop u).length == 0) = true := by rw [List.length_drop]; simp; omega
          simp only [spec_TopFrom_L0, spec_TopFrom_P_L0, e1, e3, e4, cond_true, cond_false]
          rfl
def OP_spec_TopFrom (f0 : Int → Int → Int → Bool) (f1 : Int → Int → Int) : Orac := (orcX 50 [.val (.int .i64), .val (.int .i64)] (fun d => true) (fun d => [⟨(.int .i64), f1 d.1 d.2.1⟩]) (orcX 45 [.val (.int .i64), .val (.int .i64), .val (.int .i64)] (fun d => true) (fun d => [⟨.bool, f0 d.1 d.2.1 d.2.2.1⟩]) nilO))
def O_spec_TopFrom : Orac := OP_spec_TopFrom N.spec_l1In N.spec_NodeOf
theorem ok_spec_TopFrom : OracOk Try.prog sigs O_spec_TopFrom := (orcX_ok rfl rfl (fun d g => said_spec_NodeOf d.1 d.2.1) (orcX_ok rfl rfl (fun d g => said_spec_l1In d.1 d.2.1 d.2.2.1) nilO_ok))
def A_spec_TopFrom : Ann := fun b => cond (Nat.beq b 0) ⟨[(0, false), (1, false), (2, false), (3, false), (10, false)], []⟩ (⟨[], []⟩)
def S_spec_TopFrom_0 (v0_0 : Int) (v0_1 : Int) (v0_2 : Int) (v0_3 : (List Int)) (v0_4 : Int) : St := [(kT 0, some (.tv (.v (.int .i64) v0_0 .no))), (kT 1, some (.tv (.v (.int .i64) v0_1 .no))), (kT 2, some (.tv (.v (.int .i64) v0_2 .no))), (kT 3, some (.tv (.v (.slice 3 (.int .i64)) v0_3 .no))), (kT 10, some (.tv (.v (.int .i64) v0_4 .no)))]
noncomputable def L_P_spec_TopFrom_0 (f0 : Int → Int → Int → Bool) (f1 : Int → Int → Int) (n m : Nat) : St → Option Ret := loopOf tab sigs (OP_spec_TopFrom f0 f1) A_spec_TopFrom Try.f15 [((.int .i64), .no), (.bool, .no)] n (fun _ => 0) 0 m
theorem bP_spec_TopFrom_0 (f0 : Int → Int → Int → Bool) (f1 : Int → Int → Int) (n m : Nat) (v0_0 : Int) (v0_1 : Int) (v0_2 : Int) (v0_3 : (List Int)) (v0_4 : Int) : L_P_spec_TopFrom_0 f0 f1 n (m + 1) (S_spec_TopFrom_0 v0_0 v0_1 v0_2 v0_3 v0_4) = spec_TopFrom_P_L0 f0 f1 (fun r0 r1 => some [⟨(.int .i64), r0⟩, ⟨.bool, r1⟩]) (fun v0_0 v0_1 v0_2 v0_3 v0_4 => L_P_spec_TopFrom_0 f0 f1 n m (S_spec_TopFrom_0 v0_0 v0_1 v0_2 v0_3 v0_4)) v0_0 v0_1 v0_2 v0_3 v0_4 := by kernel_rfl
theorem aP_spec_TopFrom (f0 : Int → Int → Int → Bool) (f1 : Int → Int → Int) (n : Nat) (a0 : Int) (a1 : Int) (a2 : Int) (a3 : (List Int)) : absF tab sigs (OP_spec_TopFrom f0 f1) A_spec_TopFrom Try.f15 [((.int .i64), .no), (.bool, .no)] n [.val (.int .i64) a0, .val (.int .i64) a1, .val (.int .i64) a2, .val (.slice 3 (.int .i64)) a3] = spec_TopFrom_P f0 f1 (fun r0 r1 => some [⟨(.int .i64), r0⟩, ⟨.bool, r1⟩]) (fun v0_0 v0_1 v0_2 v0_3 v0_4 => L_P_spec_TopFrom_0 f0 f1 n n (S_spec_TopFrom_0 v0_0 v0_1 v0_2 v0_3 v0_4)) a0 a1 a2 a3 := by kernel_rfl
theorem said_spec_TopFrom (a0 : Int) (a1 : Int) (a2 : Int) (a3 : (List Int)) : Said Try.prog sigs_15 15 [.val (.int .i64) a0, .val (.int .i64) a1, .val (.int .i64) a2, .val (.slice 3 (.int .i64)) a3] [⟨(.int .i64), (N.spec_TopFrom a0 a1 a2 a3).1⟩, ⟨.bool, (N.spec_TopFrom a0 a1 a2 a3).2⟩] := said_len (T := tab) (A := A_spec_TopFrom) tabOk ok_spec_TopFrom tabOk.follows Try.func15 (by kernel_rfl) (by kernel_rfl) (fun hl => let ⟨n, hn⟩ := spec_TopFrom_ok (ρ := Ret) (fun r0 r1 => some [⟨(.int .i64), r0⟩, ⟨.bool, r1⟩]) a0 a1 a2 a3 hl.2.2.2.1; ⟨n, (aP_spec_TopFrom N.spec_l1In N.spec_NodeOf n a0 a1 a2 a3).trans (hn n (Nat.le_refl n) (fun  m v0_0 v0_1 v0_2 v0_3 v0_4 => L_P_spec_TopFrom_0 N.spec_l1In N.spec_NodeOf n  m (S_spec_TopFrom_0 v0_0 v0_1 v0_2 v0_3 v0_4)) (fun  m v0_0 v0_1 v0_2 v0_3 v0_4 => bP_spec_TopFrom_0 N.spec_l1In N.spec_NodeOf n  m v0_0 v0_1 v0_2 v0_3 v0_4))⟩)
abbrev G.spec_CheckEntry (root count : Int) (e : TEntry) (p : TProof) : Bool := decide (wE e ≤ 1048576)
abbrev N.spec_CheckEntry (root count : Int) (e : TEntry) (p : TProof) : Bool := checkEntry root count e p
def spec_CheckEntry {ρ : Type} (k : Bool → Option ρ) (a0 : Int) (a1 : Int) (a2 : TEntry) (a3 : TProof) : Option ρ := (cond (G.spec_LeafOf a2) (cond (G.spec_IsEntry a2) (cond (N.spec_IsEntry a2) (cond (N.spec_TopFrom (N.spec_LeafOf a2) a3.1 a1 a3.2).2 (k ((N.spec_l10Root a1 (N.spec_TopFrom (N.spec_LeafOf a2) a3.1 a1 a3.2).1) == a0)) (k false)) (k false)) none) none)
theorem spec_CheckEntry_ok {ρ : Type} (k : Bool → Option ρ) (a0 : Int) (a1 : Int) (a2 : TEntry) (a3 : TProof) (l_a2 : (True ∧ (True ∧ (True ∧ lnL (fun _ => True) a2.2.2.2)))) (l_a3 : (True ∧ lnL (fun _ => True) a3.2)) (g : G.spec_CheckEntry a0 a1 a2 a3 = true) : spec_CheckEntry k  a0 a1 a2 a3 = k (N.spec_CheckEntry a0 a1 a2 a3) := by
  unfold G.spec_CheckEntry at g
  simp only [spec_CheckEntry, G.spec_IsEntry, N.spec_IsEntry, G.spec_LeafOf, N.spec_LeafOf, N.spec_TopFrom, N.spec_l10Root, N.spec_CheckEntry, g, cond_true, checkEntry]
  exact cond_and2 k _ _ _
def OP_spec_CheckEntry (f0 : TEntry → Int) (g0 : TEntry → Bool) (f1 : Int → Int → Int → (List Int) → (Int × Bool)) (f2 : TEntry → Bool) (g2 : TEntry → Bool) (f3 : Int → Int → Int) : Orac := (orcX 54 [.val (.int .i64), .val (.int .i64)] (fun d => true) (fun d => [⟨(.int .i64), f3 d.1 d.2.1⟩]) (orcX 61 [.val TyEntry] (fun d => g2 d.1) (fun d => [⟨.bool, f2 d.1⟩]) (orcX 15 [.val (.int .i64), .val (.int .i64), .val (.int .i64), .val (.slice 3 (.int .i64))] (fun d => true) (fun d => [⟨(.int .i64), (f1 d.1 d.2.1 d.2.2.1 d.2.2.2.1).1⟩, ⟨.bool, (f1 d.1 d.2.1 d.2.2.1 d.2.2.2.1).2⟩]) (orcX 70 [.val TyEntry] (fun d => g0 d.1) (fun d => [⟨(.int .i64), f0 d.1⟩]) nilO))))
def O_spec_CheckEntry : Orac := OP_spec_CheckEntry N.spec_LeafOf G.spec_LeafOf N.spec_TopFrom N.spec_IsEntry G.spec_IsEntry N.spec_l10Root
def spec_CheckEntry_P {ρ : Type} (f0 : TEntry → Int) (g0 : TEntry → Bool) (f1 : Int → Int → Int → (List Int) → (Int × Bool)) (f2 : TEntry → Bool) (g2 : TEntry → Bool) (f3 : Int → Int → Int) (k : Bool → Option ρ) (a0 : Int) (a1 : Int) (a2 : TEntry) (a3 : TProof) : Option ρ := (cond (g0 a2) (cond (g2 a2) (cond (f2 a2) (cond (f1 (f0 a2) a3.1 a1 a3.2).2 (k ((f3 a1 (f1 (f0 a2) a3.1 a1 a3.2).1) == a0)) (k false)) (k false)) none) none)
theorem ok_spec_CheckEntry : OracOk Try.prog sigs O_spec_CheckEntry := (orcX_ok rfl rfl (fun d g => said_spec_l10Root d.1 d.2.1) (orcX_ok rfl rfl (fun d g => said_spec_IsEntry d.1 g) (orcX_ok rfl rfl (fun d g => said_spec_TopFrom d.1 d.2.1 d.2.2.1 d.2.2.2.1) (orcX_ok rfl rfl (fun d g => said_spec_LeafOf d.1 g) nilO_ok))))
def A_spec_CheckEntry : Ann := fun b => ⟨[], []⟩
theorem aP_spec_CheckEntry (f0 : TEntry → Int) (g0 : TEntry → Bool) (f1 : Int → Int → Int → (List Int) → (Int × Bool)) (f2 : TEntry → Bool) (g2 : TEntry → Bool) (f3 : Int → Int → Int) (n : Nat) (a0 : Int) (a1 : Int) (a2 : TEntry) (a3 : TProof) : absF tab sigs (OP_spec_CheckEntry f0 g0 f1 f2 g2 f3) A_spec_CheckEntry Try.f32 [(.bool, .no)] n [.val (.int .i64) a0, .val (.int .i64) a1, .val TyEntry a2, .val (.pair (.int .i64) (.slice 3 (.int .i64))) a3] = spec_CheckEntry_P f0 g0 f1 f2 g2 f3 (fun r0 => some [⟨.bool, r0⟩])  a0 a1 a2 a3 := by kernel_rfl
theorem said_spec_CheckEntry (a0 : Int) (a1 : Int) (a2 : TEntry) (a3 : TProof) (g : G.spec_CheckEntry a0 a1 a2 a3 = true) : Said Try.prog sigs_32 32 [.val (.int .i64) a0, .val (.int .i64) a1, .val TyEntry a2, .val (.pair (.int .i64) (.slice 3 (.int .i64))) a3] [⟨.bool, N.spec_CheckEntry a0 a1 a2 a3⟩] := said_len (T := tab) (A := A_spec_CheckEntry) tabOk ok_spec_CheckEntry tabOk.follows Try.func32 (by kernel_rfl) (by kernel_rfl) (fun hl => ⟨0, (aP_spec_CheckEntry N.spec_LeafOf G.spec_LeafOf N.spec_TopFrom N.spec_IsEntry G.spec_IsEntry N.spec_l10Root 0 a0 a1 a2 a3).trans (spec_CheckEntry_ok (ρ := Ret) (fun r0 => some [⟨.bool, r0⟩]) a0 a1 a2 a3 hl.2.2.1 hl.2.2.2.1 g)⟩)
abbrev N.internal_bytealg_CompareString (a b : ByteArray) : Int := cmpStr a b
-- HAND
open Go.Proofs.Ythgbcbnmdioknaa in
theorem calls_cmp (a b : ByteArray) (w : World) : Calls Try.prog 134 #[.string a, .string b] w fun e w' => e = .returned (.int .i64 (Lib.compareBytes a.data.toList b.data.toList)) ∧ w' = w := by
  go_enter Try.func134, Try.ntmps134
  go_wp2
  rw [run_callFunc_extern Try.func143 (by kernel_rfl) (by kernel_rfl) (by kernel_rfl) (e := Extern.BytealgCompare.compare) (by kernel_rfl), Lib.run_compareString]
  simp only [Result.andThen]
  rw [Oper.upon_value]
  go_wp2
  go_ret
  exact ⟨rfl, rfl⟩
theorem said_internal_bytealg_CompareString (a0 a1 : ByteArray) : Said Try.prog sigs_134 134 [.val .str a0, .val .str a1] [⟨.int .i64, N.internal_bytealg_CompareString a0 a1⟩] :=
  said_int Try.func134 (by kernel_rfl) (by kernel_rfl) (fun w ok vs h => by
    obtain ⟨v0, vs0, rfl, h0, v1, vs1, rfl, h1, rfl⟩ := h
    rw [avr_str h0, avr_str h1, show N.internal_bytealg_CompareString a0 a1 = _ from (cmp_data a0 a1).symm]
    exact calls_cmp a0 a1 w)

abbrev N.strings_Compare (a b : ByteArray) : Int := cmpStr a b
def strings_Compare {ρ : Type} (k : Int → Option ρ) (a0 : ByteArray) (a1 : ByteArray) : Option ρ := (k (N.internal_bytealg_CompareString a0 a1))
theorem strings_Compare_ok {ρ : Type} (k : Int → Option ρ) (a0 : ByteArray) (a1 : ByteArray) : strings_Compare k  a0 a1 = k (N.strings_Compare a0 a1) := by
  rfl
def OP_strings_Compare (f0 : ByteArray → ByteArray → Int) : Orac := (orcX 134 [.val .str, .val .str] (fun d => true) (fun d => [⟨(.int .i64), f0 d.1 d.2.1⟩]) nilO)
def O_strings_Compare : Orac := OP_strings_Compare N.internal_bytealg_CompareString
def strings_Compare_P {ρ : Type} (f0 : ByteArray → ByteArray → Int) (k : Int → Option ρ) (a0 : ByteArray) (a1 : ByteArray) : Option ρ := (k (f0 a0 a1))
theorem ok_strings_Compare : OracOk Try.prog sigs O_strings_Compare := (orcX_ok rfl rfl (fun d g => said_internal_bytealg_CompareString d.1 d.2.1) nilO_ok)
def A_strings_Compare : Ann := fun b => ⟨[], []⟩
theorem aP_strings_Compare (f0 : ByteArray → ByteArray → Int) (n : Nat) (a0 : ByteArray) (a1 : ByteArray) : absF tab sigs (OP_strings_Compare f0) A_strings_Compare Try.f114 [((.int .i64), .no)] n [.val .str a0, .val .str a1] = strings_Compare_P f0 (fun r0 => some [⟨(.int .i64), r0⟩])  a0 a1 := by kernel_rfl
theorem said_strings_Compare (a0 : ByteArray) (a1 : ByteArray) : Said Try.prog sigs_114 114 [.val .str a0, .val .str a1] [⟨(.int .i64), N.strings_Compare a0 a1⟩] := said_len (T := tab) (A := A_strings_Compare) tabOk ok_strings_Compare tabOk.follows Try.func114 (by kernel_rfl) (by kernel_rfl) (fun hl => ⟨0, (aP_strings_Compare N.internal_bytealg_CompareString 0 a0 a1).trans (strings_Compare_ok (ρ := Ret) (fun r0 => some [⟨(.int .i64), r0⟩]) a0 a1)⟩)
abbrev N.impl_CompareLabels (a b : ByteArray) : Int := cmpStr a b
def impl_CompareLabels {ρ : Type} (k : Int → Option ρ) (a0 : ByteArray) (a1 : ByteArray) : Option ρ := (k (N.strings_Compare a0 a1))
theorem impl_CompareLabels_ok {ρ : Type} (k : Int → Option ρ) (a0 : ByteArray) (a1 : ByteArray) : impl_CompareLabels k  a0 a1 = k (N.impl_CompareLabels a0 a1) := by
  rfl
def OP_impl_CompareLabels (f0 : ByteArray → ByteArray → Int) : Orac := (orcX 114 [.val .str, .val .str] (fun d => true) (fun d => [⟨(.int .i64), f0 d.1 d.2.1⟩]) nilO)
def O_impl_CompareLabels : Orac := OP_impl_CompareLabels N.strings_Compare
def impl_CompareLabels_P {ρ : Type} (f0 : ByteArray → ByteArray → Int) (k : Int → Option ρ) (a0 : ByteArray) (a1 : ByteArray) : Option ρ := (k (f0 a0 a1))
theorem ok_impl_CompareLabels : OracOk Try.prog sigs O_impl_CompareLabels := (orcX_ok rfl rfl (fun d g => said_strings_Compare d.1 d.2.1) nilO_ok)
def A_impl_CompareLabels : Ann := fun b => ⟨[], []⟩
theorem aP_impl_CompareLabels (f0 : ByteArray → ByteArray → Int) (n : Nat) (a0 : ByteArray) (a1 : ByteArray) : absF tab sigs (OP_impl_CompareLabels f0) A_impl_CompareLabels Try.f97 [((.int .i64), .no)] n [.val .str a0, .val .str a1] = impl_CompareLabels_P f0 (fun r0 => some [⟨(.int .i64), r0⟩])  a0 a1 := by kernel_rfl
theorem said_impl_CompareLabels (a0 : ByteArray) (a1 : ByteArray) : Said Try.prog sigs_97 97 [.val .str a0, .val .str a1] [⟨(.int .i64), N.impl_CompareLabels a0 a1⟩] := said_len (T := tab) (A := A_impl_CompareLabels) tabOk ok_impl_CompareLabels tabOk.follows Try.func97 (by kernel_rfl) (by kernel_rfl) (fun hl => ⟨0, (aP_impl_CompareLabels N.strings_Compare 0 a0 a1).trans (impl_CompareLabels_ok (ρ := Ret) (fun r0 => some [⟨(.int .i64), r0⟩]) a0 a1)⟩)
abbrev G.impl_AreEntries (l : List TEntry) : Bool := decide (wEs l ≤ 1048576)
abbrev N.impl_AreEntries (l : List TEntry) : Bool := areEntries l
def impl_AreEntries_P_L0 {ρ : Type} (f0 : TEntry → Bool) (g0 : TEntry → Bool) (f1 : ByteArray → ByteArray → Int) (k : Bool → Option ρ) (L0 : (List TEntry) → (List TEntry) → Int → Int → Option ρ) (v0_0 : (List TEntry)) (v0_1 : (List TEntry)) (v0_2 : Int) (v0_3 : Int) : Option ρ := (cond (decide (v0_3 < v0_2)) (cond (inRange v0_3 (List.length v0_1)) (cond (g0 (List.getD v0_1 (Int.toNat v0_3) (ByteArray.empty, ((0 : Int), ((0 : Int), []))))) (cond (!(f0 (List.getD v0_1 (Int.toNat v0_3) (ByteArray.empty, ((0 : Int), ((0 : Int), [])))))) (k false) (cond (decide (v0_3 > (0 : Int))) (cond (inRange (IntKind.wrap .i64 (v0_3 - (1 : Int))) (List.length v0_0)) (cond (decide ((f1 (List.getD v0_1 (Int.toNat v0_3) (ByteArray.empty, ((0 : Int), ((0 : Int), [])))).1 (List.getD v0_0 (Int.toNat (IntKind.wrap .i64 (v0_3 - (1 : Int)))) (ByteArray.empty, ((0 : Int), ((0 : Int), [])))).1) ≤ (0 : Int))) (k false) (L0 v0_0 v0_1 v0_2 (IntKind.wrap .i64 (v0_3 + (1 : Int))))) none) (L0 v0_0 v0_1 v0_2 (IntKind.wrap .i64 (v0_3 + (1 : Int)))))) none) none) (k (decide ((List.length v0_0 : Int) ≤ (12 : Int)))))
def impl_AreEntries_P {ρ : Type} (f0 : TEntry → Bool) (g0 : TEntry → Bool) (f1 : ByteArray → ByteArray → Int) (k : Bool → Option ρ) (L0 : (List TEntry) → (List TEntry) → Int → Int → Option ρ) (a0 : (List TEntry)) : Option ρ := (L0 a0 a0 (List.length a0 : Int) (0 : Int))
def impl_AreEntries_L0 {ρ : Type} (k : Bool → Option ρ) (L0 : (List TEntry) → (List TEntry) → Int → Int → Option ρ) (v0_0 : (List TEntry)) (v0_1 : (List TEntry)) (v0_2 : Int) (v0_3 : Int) : Option ρ := impl_AreEntries_P_L0 N.impl_IsEntry G.impl_IsEntry N.impl_CompareLabels k L0 v0_0 v0_1 v0_2 v0_3
def impl_AreEntries {ρ : Type} (k : Bool → Option ρ) (L0 : (List TEntry) → (List TEntry) → Int → Int → Option ρ) (a0 : (List TEntry)) : Option ρ := impl_AreEntries_P N.impl_IsEntry G.impl_IsEntry N.impl_CompareLabels k L0 a0
theorem impl_AreEntries_ok {ρ : Type} (k : Bool → Option ρ) (a0 : (List TEntry)) (l_a0 : lnL (fun y => (True ∧ (True ∧ (True ∧ lnL (fun _ => True) y.2.2.2)))) a0) (g : G.impl_AreEntries a0 = true) : ∃ n0, ∀ n, n0 ≤ n → ∀ (L0 : Nat → (List TEntry) → (List TEntry) → Int → Int → Option ρ) (h0 : ∀ ( m : Nat) (v0_0 : (List TEntry)) (v0_1 : (List TEntry)) (v0_2 : Int) (v0_3 : Int), L0 (m + 1) v0_0 v0_1 v0_2 v0_3 = impl_AreEntries_L0 k (L0 m) v0_0 v0_1 v0_2 v0_3), impl_AreEntries k (L0 n) a0 = k (N.impl_AreEntries a0) := by
  unfold G.impl_AreEntries at g
  have hw : wEs a0 ≤ 1048576 := of_decide_eq_true g
  have hl : a0.length ≤ 1048576 := by unfold wEs at hw; omega
  refine ⟨a0.length + 1, fun n hn L0 h0 => ?_⟩
  have hrun := raw_run0 (σ := Unit) (s := ()) (L := fun m i _ => L0 m a0 a0 (a0.length : Int) i) (R := fun i _ c => impl_AreEntries_L0 k (fun _ _ _ i => c i ()) a0 a0 (a0.length : Int) i) (fun m i s => h0 m a0 a0 (a0.length : Int) i) a0.length (fun _ _ => True) (fun j _ => cond (areFrom a0 (a0.length - j) j) (k (decide (a0.length ≤ 12))) (k false)) (fun j s c hj _ hc => ?_) (fun s c _ => ?_) hn trivial
  · refine hrun.trans ?_
    show _ = k (areFrom a0 a0.length 0 && decide (a0.length ≤ 12))
    rw [Nat.sub_zero]
    cases areFrom a0 a0.length 0 <;> rfl
  · obtain ⟨m, hm⟩ : ∃ m, a0.length - j = m + 1 := ⟨a0.length - j - 1, by omega⟩
    have hm2 : a0.length - (j + 1) = m := by omega
    have hc' := hc () trivial
    rw [hm2] at hc'
    have hmem := wEs_mem (getD_mem (d := (ByteArray.empty, (0, (0, [])))) hj)
    have g2 : decide (wE (a0.getD j (ByteArray.empty, (0, (0, [])))) ≤ 1048576) = true := by simp only [decide_eq_true_eq]; omega
    rw [hm]
    unfold areFrom
    by_cases h0j : j = 0
    · subst h0j
      simp only [impl_AreEntries_L0, impl_AreEntries_P_L0, lt_nat, inRange_nat, decide_eq_true hj, cond_true, Int.toNat_natCast, G.impl_IsEntry, N.impl_IsEntry, g2, wrap_succ (j := 0) (by unfold big; omega), hc']
      cases isEntry (a0.getD 0 (ByteArray.empty, (0, (0, [])))) <;> simp
    · have e1 : decide ((j : Int) > 0) = true := by simp; omega
      have e2 : IntKind.wrap .i64 ((j : Int) - 1) = ((j - 1 : Nat) : Int) := by rw [wrap_id (by omega) (by omega)]; omega
      have e3 : j - 1 < a0.length := by omega
      simp only [impl_AreEntries_L0, impl_AreEntries_P_L0, lt_nat, inRange_nat, decide_eq_true hj, cond_true, Int.toNat_natCast, G.impl_IsEntry, N.impl_IsEntry, N.impl_CompareLabels, g2, e1, e2, decide_eq_true e3, wrap_succ (j := j) (by unfold big; omega), hc', decide_eq_false h0j, cmpStr_swap]
      cases isEntry (a0.getD j (ByteArray.empty, (0, (0, [])))) <;> cases cmpStr (a0.getD (j - 1) (ByteArray.empty, (0, (0, [])))).1 (a0.getD j (ByteArray.empty, (0, (0, [])))).1 == -1 <;> simp
  · have e1 : decide ((a0.length : Int) ≤ 12) = decide (a0.length ≤ 12) := by simp only [decide_eq_decide]; omega
    rw [Nat.sub_self]
    simp [impl_AreEntries_L0, impl_AreEntries_P_L0, areFrom, e1]
def OP_impl_AreEntries (f0 : TEntry → Bool) (g0 : TEntry → Bool) (f1 : ByteArray → ByteArray → Int) : Orac := (orcX 97 [.val .str, .val .str] (fun d => true) (fun d => [⟨(.int .i64), f1 d.1 d.2.1⟩]) (orcX 64 [.val TyEntry] (fun d => g0 d.1) (fun d => [⟨.bool, f0 d.1⟩]) nilO))
def O_impl_AreEntries : Orac := OP_impl_AreEntries N.impl_IsEntry G.impl_IsEntry N.impl_CompareLabels
theorem ok_impl_AreEntries : OracOk Try.prog sigs O_impl_AreEntries := (orcX_ok rfl rfl (fun d g => said_impl_CompareLabels d.1 d.2.1) (orcX_ok rfl rfl (fun d g => said_impl_IsEntry d.1 g) nilO_ok))
def A_impl_AreEntries : Ann := fun b => cond (Nat.beq b 0) ⟨[(0, false), (5, false), (6, false), (7, false)], []⟩ (⟨[], []⟩)
def S_impl_AreEntries_0 (v0_0 : (List TEntry)) (v0_1 : (List TEntry)) (v0_2 : Int) (v0_3 : Int) : St := [(kT 0, some (.tv (.v (.slice 48 TyEntry) v0_0 .no))), (kT 5, some (.tv (.v (.slice 48 TyEntry) v0_1 .no))), (kT 6, some (.tv (.v (.int .i64) v0_2 .no))), (kT 7, some (.tv (.v (.int .i64) v0_3 .no)))]
noncomputable def L_P_impl_AreEntries_0 (f0 : TEntry → Bool) (g0 : TEntry → Bool) (f1 : ByteArray → ByteArray → Int) (n m : Nat) : St → Option Ret := loopOf tab sigs (OP_impl_AreEntries f0 g0 f1) A_impl_AreEntries Try.f71 [(.bool, .no)] n (fun _ => 0) 0 m
theorem bP_impl_AreEntries_0 (f0 : TEntry → Bool) (g0 : TEntry → Bool) (f1 : ByteArray → ByteArray → Int) (n m : Nat) (v0_0 : (List TEntry)) (v0_1 : (List TEntry)) (v0_2 : Int) (v0_3 : Int) : L_P_impl_AreEntries_0 f0 g0 f1 n (m + 1) (S_impl_AreEntries_0 v0_0 v0_1 v0_2 v0_3) = impl_AreEntries_P_L0 f0 g0 f1 (fun r0 => some [⟨.bool, r0⟩]) (fun v0_0 v0_1 v0_2 v0_3 => L_P_impl_AreEntries_0 f0 g0 f1 n m (S_impl_AreEntries_0 v0_0 v0_1 v0_2 v0_3)) v0_0 v0_1 v0_2 v0_3 := by kernel_rfl
theorem aP_impl_AreEntries (f0 : TEntry → Bool) (g0 : TEntry → Bool) (f1 : ByteArray → ByteArray → Int) (n : Nat) (a0 : (List TEntry)) : absF tab sigs (OP_impl_AreEntries f0 g0 f1) A_impl_AreEntries Try.f71 [(.bool, .no)] n [.val (.slice 48 TyEntry) a0] = impl_AreEntries_P f0 g0 f1 (fun r0 => some [⟨.bool, r0⟩]) (fun v0_0 v0_1 v0_2 v0_3 => L_P_impl_AreEntries_0 f0 g0 f1 n n (S_impl_AreEntries_0 v0_0 v0_1 v0_2 v0_3)) a0 := by kernel_rfl
theorem said_impl_AreEntries (a0 : (List TEntry)) (g : G.impl_AreEntries a0 = true) : Said Try.prog sigs_71 71 [.val (.slice 48 TyEntry) a0] [⟨.bool, N.impl_AreEntries a0⟩] := said_len (T := tab) (A := A_impl_AreEntries) tabOk ok_impl_AreEntries tabOk.follows Try.func71 (by kernel_rfl) (by kernel_rfl) (fun hl => let ⟨n, hn⟩ := impl_AreEntries_ok (ρ := Ret) (fun r0 => some [⟨.bool, r0⟩]) a0 hl.1 g; ⟨n, (aP_impl_AreEntries N.impl_IsEntry G.impl_IsEntry N.impl_CompareLabels n a0).trans (hn n (Nat.le_refl n) (fun  m v0_0 v0_1 v0_2 v0_3 => L_P_impl_AreEntries_0 N.impl_IsEntry G.impl_IsEntry N.impl_CompareLabels n  m (S_impl_AreEntries_0 v0_0 v0_1 v0_2 v0_3)) (fun  m v0_0 v0_1 v0_2 v0_3 => bP_impl_AreEntries_0 N.impl_IsEntry G.impl_IsEntry N.impl_CompareLabels n  m v0_0 v0_1 v0_2 v0_3))⟩)
abbrev G.impl_CheckAll (root : Int) (l : List TEntry) : Bool := decide (wEs l ≤ 1048576)
abbrev N.impl_CheckAll (root : Int) (l : List TEntry) : Bool := checkAll root l
def impl_CheckAll {ρ : Type} (k : Bool → Option ρ) (a0 : Int) (a1 : (List TEntry)) : Option ρ := (cond (G.impl_AreEntries a1) (cond (N.impl_AreEntries a1) (cond (G.impl_RootOf a1) (k ((N.impl_RootOf a1) == a0)) none) (k false)) none)
theorem impl_CheckAll_ok {ρ : Type} (k : Bool → Option ρ) (a0 : Int) (a1 : (List TEntry)) (l_a1 : lnL (fun y => (True ∧ (True ∧ (True ∧ lnL (fun _ => True) y.2.2.2)))) a1) (g : G.impl_CheckAll a0 a1 = true) : impl_CheckAll k  a0 a1 = k (N.impl_CheckAll a0 a1) := by
  unfold G.impl_CheckAll at g
  simp only [impl_CheckAll, G.impl_AreEntries, N.impl_AreEntries, G.impl_RootOf, N.impl_RootOf, N.impl_CheckAll, g, cond_true, checkAll]
  exact cond_and k _ _
def OP_impl_CheckAll (f0 : (List TEntry) → Bool) (g0 : (List TEntry) → Bool) (f1 : (List TEntry) → Int) (g1 : (List TEntry) → Bool) : Orac := (orcX 17 [.val (.slice 48 TyEntry)] (fun d => g1 d.1) (fun d => [⟨(.int .i64), f1 d.1⟩]) (orcX 71 [.val (.slice 48 TyEntry)] (fun d => g0 d.1) (fun d => [⟨.bool, f0 d.1⟩]) nilO))
def O_impl_CheckAll : Orac := OP_impl_CheckAll N.impl_AreEntries G.impl_AreEntries N.impl_RootOf G.impl_RootOf
def impl_CheckAll_P {ρ : Type} (f0 : (List TEntry) → Bool) (g0 : (List TEntry) → Bool) (f1 : (List TEntry) → Int) (g1 : (List TEntry) → Bool) (k : Bool → Option ρ) (a0 : Int) (a1 : (List TEntry)) : Option ρ := (cond (g0 a1) (cond (f0 a1) (cond (g1 a1) (k ((f1 a1) == a0)) none) (k false)) none)
theorem ok_impl_CheckAll : OracOk Try.prog sigs O_impl_CheckAll := (orcX_ok rfl rfl (fun d g => said_impl_RootOf d.1 g) (orcX_ok rfl rfl (fun d g => said_impl_AreEntries d.1 g) nilO_ok))
def A_impl_CheckAll : Ann := fun b => ⟨[], []⟩
theorem aP_impl_CheckAll (f0 : (List TEntry) → Bool) (g0 : (List TEntry) → Bool) (f1 : (List TEntry) → Int) (g1 : (List TEntry) → Bool) (n : Nat) (a0 : Int) (a1 : (List TEntry)) : absF tab sigs (OP_impl_CheckAll f0 g0 f1 g1) A_impl_CheckAll Try.f33 [(.bool, .no)] n [.val (.int .i64) a0, .val (.slice 48 TyEntry) a1] = impl_CheckAll_P f0 g0 f1 g1 (fun r0 => some [⟨.bool, r0⟩])  a0 a1 := by kernel_rfl
theorem said_impl_CheckAll (a0 : Int) (a1 : (List TEntry)) (g : G.impl_CheckAll a0 a1 = true) : Said Try.prog sigs_33 33 [.val (.int .i64) a0, .val (.slice 48 TyEntry) a1] [⟨.bool, N.impl_CheckAll a0 a1⟩] := said_len (T := tab) (A := A_impl_CheckAll) tabOk ok_impl_CheckAll tabOk.follows Try.func33 (by kernel_rfl) (by kernel_rfl) (fun hl => ⟨0, (aP_impl_CheckAll N.impl_AreEntries G.impl_AreEntries N.impl_RootOf G.impl_RootOf 0 a0 a1).trans (impl_CheckAll_ok (ρ := Ret) (fun r0 => some [⟨.bool, r0⟩]) a0 a1 hl.2.1 g)⟩)
end Go.Proofs.Ythgbcbnmdioknaa.Ref
