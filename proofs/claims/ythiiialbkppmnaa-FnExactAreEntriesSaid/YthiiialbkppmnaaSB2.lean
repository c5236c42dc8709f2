/- Functions of the program: what each computes, and that it does so.
   Conditions: as each theorem states. -/
import Derived.Test.YthiiialbkppmnaaSB1
import Derived.WalkKit
import Derived.Lib.Bytealg
set_option linter.unusedVariables false
set_option linter.unusedSimpArgs false
set_option maxRecDepth 100000
namespace Go.Proofs.Ythiiialbkppmnaa.Ref
open Go.RowKit Go.Proofs.YthiiialbkppmnaaW.PrintWords Go.Proofs.YthiiialbkppmnaaW.PrintLast
/-! impl.isDigest -/
abbrev N.impl_isDigest (n : Int) : Bool := isDigest n
def impl_isDigest {ρ : Type} (k : Bool → Option ρ) (a0 : Int) : Option ρ := (k (N.impl_InRange a0 (0 : Int) (2147483646 : Int)))
theorem impl_isDigest_ok {ρ : Type} (k : Bool → Option ρ) (a0 : Int) : impl_isDigest k  a0 = k (N.impl_isDigest a0) := by
  rfl
def OP_impl_isDigest (f_impl_InRange : Int → Int → Int → Bool) : Orac := (orcX 49 [.val (.int .i64), .val (.int .i64), .val (.int .i64)] (fun d => true) (fun d => [⟨.bool, f_impl_InRange d.1 d.2.1 d.2.2.1⟩]) nilO)
def O_impl_isDigest : Orac := OP_impl_isDigest N.impl_InRange
def impl_isDigest_P {ρ : Type} (f_impl_InRange : Int → Int → Int → Bool) (k : Bool → Option ρ) (a0 : Int) : Option ρ := (k (f_impl_InRange a0 (0 : Int) (2147483646 : Int)))
theorem ok_impl_isDigest : OracOk Try.prog sigs O_impl_isDigest := (orcX_ok rfl (fun d g => said_impl_InRange d.1 d.2.1 d.2.2.1) nilO_ok)
def A_impl_isDigest : Ann := fun b => ⟨[], []⟩
theorem aP_impl_isDigest (f_impl_InRange : Int → Int → Int → Bool) (n : Nat) (a0 : Int) : absF tab sigs (OP_impl_isDigest f_impl_InRange) A_impl_isDigest Try.f50 [(.bool, .no)] n [.val (.int .i64) a0] = impl_isDigest_P f_impl_InRange (fun r0 => some [⟨.bool, r0⟩])  a0 := by kernel_rfl
theorem a_impl_isDigest (n : Nat) (a0 : Int) : absF tab sigs O_impl_isDigest A_impl_isDigest Try.f50 [(.bool, .no)] n [.val (.int .i64) a0] = impl_isDigest (fun r0 => some [⟨.bool, r0⟩])  a0 := aP_impl_isDigest N.impl_InRange n a0
theorem said_impl_isDigest (a0 : Int) : Said Try.prog sigs_50 50 [.val (.int .i64) a0] [⟨.bool, N.impl_isDigest a0⟩] := said_len (T := tab) (A := A_impl_isDigest) tabOk ok_impl_isDigest tabOk.follows Try.func50 (by kernel_rfl) (by kernel_rfl) (fun hl => ⟨0, (a_impl_isDigest 0 a0).trans (impl_isDigest_ok (ρ := Ret) (fun r0 => some [⟨.bool, r0⟩]) a0)⟩)
/-! impl.IsPath$1 -/
abbrev G.impl_IsPath_s1 (s : ByteArray) : Bool := decide (s.size ≤ 1048576)
abbrev N.impl_IsPath_s1 (s : ByteArray) : Bool := !(isLabel s)
def impl_IsPath_s1 {ρ : Type} (k : Bool → Option ρ) (a0 : ByteArray) : Option ρ := (cond (G.impl_IsLabel a0) (k (!(N.impl_IsLabel a0))) none)
theorem impl_IsPath_s1_ok {ρ : Type} (k : Bool → Option ρ) (a0 : ByteArray) (g : G.impl_IsPath_s1 a0 = true) : impl_IsPath_s1 k  a0 = k (N.impl_IsPath_s1 a0) := by
  unfold G.impl_IsPath_s1 at g
  show cond (decide (a0.size ≤ 1048576)) _ none = _
  rw [g]
  rfl
def OP_impl_IsPath_s1 (f_impl_IsLabel : ByteArray → Bool) (g_impl_IsLabel : ByteArray → Bool) : Orac := (orcX 48 [.val .str] (fun d => g_impl_IsLabel d.1) (fun d => [⟨.bool, f_impl_IsLabel d.1⟩]) nilO)
def O_impl_IsPath_s1 : Orac := OP_impl_IsPath_s1 N.impl_IsLabel G.impl_IsLabel
def impl_IsPath_s1_P {ρ : Type} (f_impl_IsLabel : ByteArray → Bool) (g_impl_IsLabel : ByteArray → Bool) (k : Bool → Option ρ) (a0 : ByteArray) : Option ρ := (cond (g_impl_IsLabel a0) (k (!(f_impl_IsLabel a0))) none)
theorem ok_impl_IsPath_s1 : OracOk Try.prog sigs O_impl_IsPath_s1 := (orcX_ok rfl (fun d g => said_impl_IsLabel d.1 g) nilO_ok)
def A_impl_IsPath_s1 : Ann := fun b => ⟨[], []⟩
theorem aP_impl_IsPath_s1 (f_impl_IsLabel : ByteArray → Bool) (g_impl_IsLabel : ByteArray → Bool) (n : Nat) (a0 : ByteArray) : absF tab sigs (OP_impl_IsPath_s1 f_impl_IsLabel g_impl_IsLabel) A_impl_IsPath_s1 Try.f62 [(.bool, .no)] n [.val .str a0] = impl_IsPath_s1_P f_impl_IsLabel g_impl_IsLabel (fun r0 => some [⟨.bool, r0⟩])  a0 := by kernel_rfl
theorem a_impl_IsPath_s1 (n : Nat) (a0 : ByteArray) : absF tab sigs O_impl_IsPath_s1 A_impl_IsPath_s1 Try.f62 [(.bool, .no)] n [.val .str a0] = impl_IsPath_s1 (fun r0 => some [⟨.bool, r0⟩])  a0 := aP_impl_IsPath_s1 N.impl_IsLabel G.impl_IsLabel n a0
theorem said_impl_IsPath_s1 (a0 : ByteArray) (g : G.impl_IsPath_s1 a0 = true) : Said Try.prog sigs_62 62 [.val .str a0] [⟨.bool, N.impl_IsPath_s1 a0⟩] := said_len (T := tab) (A := A_impl_IsPath_s1) tabOk ok_impl_IsPath_s1 tabOk.follows Try.func62 (by kernel_rfl) (by kernel_rfl) (fun hl => ⟨0, (a_impl_IsPath_s1 0 a0).trans (impl_IsPath_s1_ok (ρ := Ret) (fun r0 => some [⟨.bool, r0⟩]) a0 g)⟩)
/-! slices.IndexFunc[[]string,string] -/
abbrev G.slices_IndexFunc_string__impl_IsPath_s1 (p : List ByteArray) : Bool := decide (wP p ≤ 1048576)
abbrev N.slices_IndexFunc_string__impl_IsPath_s1 (p : List ByteArray) : Int := idxFrom (fun s => !(isLabel s)) 0 p
def slices_IndexFunc_string__impl_IsPath_s1_L0 {ρ : Type} (k : Int → Option ρ) (L0 : (List ByteArray) → Int → Int → Option ρ) (v0_0 : (List ByteArray)) (v0_1 : Int) (v0_2 : Int) : Option ρ := (cond (decide (v0_2 < v0_1)) (cond (inRange v0_2 (List.length v0_0)) (cond (G.impl_IsPath_s1 (List.getD v0_0 (Int.toNat v0_2) ByteArray.empty)) (cond (N.impl_IsPath_s1 (List.getD v0_0 (Int.toNat v0_2) ByteArray.empty)) (k v0_2) (L0 v0_0 v0_1 (IntKind.wrap .i64 (v0_2 + (1 : Int))))) none) none) (k (-1 : Int)))
def slices_IndexFunc_string__impl_IsPath_s1 {ρ : Type} (k : Int → Option ρ) (L0 : (List ByteArray) → Int → Int → Option ρ) (a0 : (List ByteArray)) : Option ρ := (L0 a0 (List.length a0 : Int) (0 : Int))
theorem slices_IndexFunc_string__impl_IsPath_s1_ok {ρ : Type} (k : Int → Option ρ) (a0 : (List ByteArray)) (l_a0 : lnL (fun _ => True) a0) (g : G.slices_IndexFunc_string__impl_IsPath_s1 a0 = true) : ∃ n0, ∀ n, n0 ≤ n → ∀ (L0 : Nat → (List ByteArray) → Int → Int → Option ρ) (h0 : ∀ ( m : Nat) (v0_0 : (List ByteArray)) (v0_1 : Int) (v0_2 : Int), L0 (m + 1) v0_0 v0_1 v0_2 = slices_IndexFunc_string__impl_IsPath_s1_L0 k (L0 m) v0_0 v0_1 v0_2), slices_IndexFunc_string__impl_IsPath_s1 k (L0 n) a0 = k (N.slices_IndexFunc_string__impl_IsPath_s1 a0) := by
  unfold G.slices_IndexFunc_string__impl_IsPath_s1 at g
  have hw : wP a0 ≤ 1048576 := of_decide_eq_true g
  have hl : a0.length ≤ 1048576 := by unfold wP at hw; omega
  refine ⟨a0.length + 1, fun n hn L0 h0 => ?_⟩
  refine raw_idx (a := a0) ByteArray.empty (fun s => !(isLabel s)) (k := k) (σ := Unit) (s := ()) (L := fun m i _ => L0 m a0 (a0.length : Int) i) (R := fun i s c => slices_IndexFunc_string__impl_IsPath_s1_L0 k (fun _ _ i => c i ()) a0 (a0.length : Int) i) (fun m i s => h0 m a0 (a0.length : Int) i) (fun j s c hj => ?_) (fun s c => ?_) hn
  · have hm := wP_mem (getD_mem (d := ByteArray.empty) hj)
    have g2 : decide ((a0.getD j ByteArray.empty).size ≤ 1048576) = true := by simp only [decide_eq_true_eq]; omega
    simp only [slices_IndexFunc_string__impl_IsPath_s1_L0, lt_nat, inRange_nat, decide_eq_true hj, cond_true, Int.toNat_natCast, G.impl_IsPath_s1, N.impl_IsPath_s1, g2, wrap_succ (j := j) (by unfold big; omega)]
  · simp [slices_IndexFunc_string__impl_IsPath_s1_L0]
def OP_slices_IndexFunc_string__impl_IsPath_s1 (f_impl_IsPath_s1 : ByteArray → Bool) (g_impl_IsPath_s1 : ByteArray → Bool) : Orac := (orcX 62 [.val .str] (fun d => g_impl_IsPath_s1 d.1) (fun d => [⟨.bool, f_impl_IsPath_s1 d.1⟩]) nilO)
def O_slices_IndexFunc_string__impl_IsPath_s1 : Orac := OP_slices_IndexFunc_string__impl_IsPath_s1 N.impl_IsPath_s1 G.impl_IsPath_s1
def slices_IndexFunc_string__impl_IsPath_s1_P_L0 {ρ : Type} (f_impl_IsPath_s1 : ByteArray → Bool) (g_impl_IsPath_s1 : ByteArray → Bool) (k : Int → Option ρ) (L0 : (List ByteArray) → Int → Int → Option ρ) (v0_0 : (List ByteArray)) (v0_1 : Int) (v0_2 : Int) : Option ρ := (cond (decide (v0_2 < v0_1)) (cond (inRange v0_2 (List.length v0_0)) (cond (g_impl_IsPath_s1 (List.getD v0_0 (Int.toNat v0_2) ByteArray.empty)) (cond (f_impl_IsPath_s1 (List.getD v0_0 (Int.toNat v0_2) ByteArray.empty)) (k v0_2) (L0 v0_0 v0_1 (IntKind.wrap .i64 (v0_2 + (1 : Int))))) none) none) (k (-1 : Int)))
def slices_IndexFunc_string__impl_IsPath_s1_P {ρ : Type} (f_impl_IsPath_s1 : ByteArray → Bool) (g_impl_IsPath_s1 : ByteArray → Bool) (k : Int → Option ρ) (L0 : (List ByteArray) → Int → Int → Option ρ) (a0 : (List ByteArray)) : Option ρ := (L0 a0 (List.length a0 : Int) (0 : Int))
theorem ok_slices_IndexFunc_string__impl_IsPath_s1 : OracOk Try.prog sigs O_slices_IndexFunc_string__impl_IsPath_s1 := (orcX_ok rfl (fun d g => said_impl_IsPath_s1 d.1 g) nilO_ok)
def A_slices_IndexFunc_string__impl_IsPath_s1 : Ann := fun b => cond (Nat.beq b 0) ⟨[(0, false), (1, false), (7, false), (8, false)], []⟩ (⟨[], []⟩)
def S_slices_IndexFunc_string__impl_IsPath_s1_0 (v0_0 : (List ByteArray)) (v0_1 : Int) (v0_2 : Int) : St := [(kT 0, some (.tv (.v (.slice 9 .str) v0_0 .no))), (kT 1, some (.tv (.clo 62 []))), (kT 7, some (.tv (.v (.int .i64) v0_1 .no))), (kT 8, some (.tv (.v (.int .i64) v0_2 .no)))]
noncomputable def L_P_slices_IndexFunc_string__impl_IsPath_s1_0 (f_impl_IsPath_s1 : ByteArray → Bool) (g_impl_IsPath_s1 : ByteArray → Bool) (n m : Nat) : St → Option Ret := loopOf tab sigs (OP_slices_IndexFunc_string__impl_IsPath_s1 f_impl_IsPath_s1 g_impl_IsPath_s1) A_slices_IndexFunc_string__impl_IsPath_s1 Try.f66 [((.int .i64), .no)] n (fun _ => 0) 0 m
noncomputable def L_slices_IndexFunc_string__impl_IsPath_s1_0 (n m : Nat) : St → Option Ret := L_P_slices_IndexFunc_string__impl_IsPath_s1_0 N.impl_IsPath_s1 G.impl_IsPath_s1 n m
theorem bP_slices_IndexFunc_string__impl_IsPath_s1_0 (f_impl_IsPath_s1 : ByteArray → Bool) (g_impl_IsPath_s1 : ByteArray → Bool) (n m : Nat) (v0_0 : (List ByteArray)) (v0_1 : Int) (v0_2 : Int) : L_P_slices_IndexFunc_string__impl_IsPath_s1_0 f_impl_IsPath_s1 g_impl_IsPath_s1 n (m + 1) (S_slices_IndexFunc_string__impl_IsPath_s1_0 v0_0 v0_1 v0_2) = slices_IndexFunc_string__impl_IsPath_s1_P_L0 f_impl_IsPath_s1 g_impl_IsPath_s1 (fun r0 => some [⟨(.int .i64), r0⟩]) (fun v0_0 v0_1 v0_2 => L_P_slices_IndexFunc_string__impl_IsPath_s1_0 f_impl_IsPath_s1 g_impl_IsPath_s1 n m (S_slices_IndexFunc_string__impl_IsPath_s1_0 v0_0 v0_1 v0_2)) v0_0 v0_1 v0_2 := by kernel_rfl
theorem b_slices_IndexFunc_string__impl_IsPath_s1_0 (n m : Nat) (v0_0 : (List ByteArray)) (v0_1 : Int) (v0_2 : Int) : L_slices_IndexFunc_string__impl_IsPath_s1_0 n (m + 1) (S_slices_IndexFunc_string__impl_IsPath_s1_0 v0_0 v0_1 v0_2) = slices_IndexFunc_string__impl_IsPath_s1_L0 (fun r0 => some [⟨(.int .i64), r0⟩]) (fun v0_0 v0_1 v0_2 => L_slices_IndexFunc_string__impl_IsPath_s1_0 n m (S_slices_IndexFunc_string__impl_IsPath_s1_0 v0_0 v0_1 v0_2)) v0_0 v0_1 v0_2 := bP_slices_IndexFunc_string__impl_IsPath_s1_0 N.impl_IsPath_s1 G.impl_IsPath_s1 n m v0_0 v0_1 v0_2
theorem aP_slices_IndexFunc_string__impl_IsPath_s1 (f_impl_IsPath_s1 : ByteArray → Bool) (g_impl_IsPath_s1 : ByteArray → Bool) (n : Nat) (a0 : (List ByteArray)) : absF tab sigs (OP_slices_IndexFunc_string__impl_IsPath_s1 f_impl_IsPath_s1 g_impl_IsPath_s1) A_slices_IndexFunc_string__impl_IsPath_s1 Try.f66 [((.int .i64), .no)] n [.val (.slice 9 .str) a0, .clo 62 []] = slices_IndexFunc_string__impl_IsPath_s1_P f_impl_IsPath_s1 g_impl_IsPath_s1 (fun r0 => some [⟨(.int .i64), r0⟩]) (fun v0_0 v0_1 v0_2 => L_P_slices_IndexFunc_string__impl_IsPath_s1_0 f_impl_IsPath_s1 g_impl_IsPath_s1 n n (S_slices_IndexFunc_string__impl_IsPath_s1_0 v0_0 v0_1 v0_2)) a0 := by kernel_rfl
theorem a_slices_IndexFunc_string__impl_IsPath_s1 (n : Nat) (a0 : (List ByteArray)) : absF tab sigs O_slices_IndexFunc_string__impl_IsPath_s1 A_slices_IndexFunc_string__impl_IsPath_s1 Try.f66 [((.int .i64), .no)] n [.val (.slice 9 .str) a0, .clo 62 []] = slices_IndexFunc_string__impl_IsPath_s1 (fun r0 => some [⟨(.int .i64), r0⟩]) (fun v0_0 v0_1 v0_2 => L_slices_IndexFunc_string__impl_IsPath_s1_0 n n (S_slices_IndexFunc_string__impl_IsPath_s1_0 v0_0 v0_1 v0_2)) a0 := aP_slices_IndexFunc_string__impl_IsPath_s1 N.impl_IsPath_s1 G.impl_IsPath_s1 n a0
theorem said_slices_IndexFunc_string__impl_IsPath_s1 (a0 : (List ByteArray)) (g : G.slices_IndexFunc_string__impl_IsPath_s1 a0 = true) : Said Try.prog sigs_66 66 [.val (.slice 9 .str) a0, .clo 62 []] [⟨(.int .i64), N.slices_IndexFunc_string__impl_IsPath_s1 a0⟩] := said_len (T := tab) (A := A_slices_IndexFunc_string__impl_IsPath_s1) tabOk ok_slices_IndexFunc_string__impl_IsPath_s1 tabOk.follows Try.func66 (by kernel_rfl) (by kernel_rfl) (fun hl => let ⟨n, hn⟩ := slices_IndexFunc_string__impl_IsPath_s1_ok (ρ := Ret) (fun r0 => some [⟨(.int .i64), r0⟩]) a0 hl.1 g; ⟨n, (a_slices_IndexFunc_string__impl_IsPath_s1 n a0).trans (hn n (Nat.le_refl n) (fun  m v0_0 v0_1 v0_2 => L_slices_IndexFunc_string__impl_IsPath_s1_0 n  m (S_slices_IndexFunc_string__impl_IsPath_s1_0 v0_0 v0_1 v0_2)) (fun  m v0_0 v0_1 v0_2 => b_slices_IndexFunc_string__impl_IsPath_s1_0 n  m v0_0 v0_1 v0_2))⟩)
/-! slices.ContainsFunc[[]string,string] -/
abbrev G.slices_ContainsFunc_string__impl_IsPath_s1 (p : List ByteArray) : Bool := decide (wP p ≤ 1048576)
abbrev N.slices_ContainsFunc_string__impl_IsPath_s1 (p : List ByteArray) : Bool := p.any (fun s => !(isLabel s))
def slices_ContainsFunc_string__impl_IsPath_s1 {ρ : Type} (k : Bool → Option ρ) (a0 : (List ByteArray)) : Option ρ := (cond (G.slices_IndexFunc_string__impl_IsPath_s1 a0) (k (decide ((N.slices_IndexFunc_string__impl_IsPath_s1 a0) ≥ (0 : Int)))) none)
theorem slices_ContainsFunc_string__impl_IsPath_s1_ok {ρ : Type} (k : Bool → Option ρ) (a0 : (List ByteArray)) (l_a0 : lnL (fun _ => True) a0) (g : G.slices_ContainsFunc_string__impl_IsPath_s1 a0 = true) : slices_ContainsFunc_string__impl_IsPath_s1 k  a0 = k (N.slices_ContainsFunc_string__impl_IsPath_s1 a0) := by
  unfold G.slices_ContainsFunc_string__impl_IsPath_s1 at g
  show cond (decide (wP a0 ≤ 1048576)) _ none = _
  rw [g]
  show k (decide (idxFrom (fun s => !(isLabel s)) 0 a0 ≥ 0)) = _
  rw [idxFrom_any]
def OP_slices_ContainsFunc_string__impl_IsPath_s1 (f_slices_IndexFunc_string__impl_IsPath_s1 : (List ByteArray) → Int) (g_slices_IndexFunc_string__impl_IsPath_s1 : (List ByteArray) → Bool) : Orac := (orcX 66 [.val (.slice 9 .str), .clo 62 []] (fun d => g_slices_IndexFunc_string__impl_IsPath_s1 d.1) (fun d => [⟨(.int .i64), f_slices_IndexFunc_string__impl_IsPath_s1 d.1⟩]) nilO)
def O_slices_ContainsFunc_string__impl_IsPath_s1 : Orac := OP_slices_ContainsFunc_string__impl_IsPath_s1 N.slices_IndexFunc_string__impl_IsPath_s1 G.slices_IndexFunc_string__impl_IsPath_s1
def slices_ContainsFunc_string__impl_IsPath_s1_P {ρ : Type} (f_slices_IndexFunc_string__impl_IsPath_s1 : (List ByteArray) → Int) (g_slices_IndexFunc_string__impl_IsPath_s1 : (List ByteArray) → Bool) (k : Bool → Option ρ) (a0 : (List ByteArray)) : Option ρ := (cond (g_slices_IndexFunc_string__impl_IsPath_s1 a0) (k (decide ((f_slices_IndexFunc_string__impl_IsPath_s1 a0) ≥ (0 : Int)))) none)
theorem ok_slices_ContainsFunc_string__impl_IsPath_s1 : OracOk Try.prog sigs O_slices_ContainsFunc_string__impl_IsPath_s1 := (orcX_ok rfl (fun d g => said_slices_IndexFunc_string__impl_IsPath_s1 d.1 g) nilO_ok)
def A_slices_ContainsFunc_string__impl_IsPath_s1 : Ann := fun b => ⟨[], []⟩
theorem aP_slices_ContainsFunc_string__impl_IsPath_s1 (f_slices_IndexFunc_string__impl_IsPath_s1 : (List ByteArray) → Int) (g_slices_IndexFunc_string__impl_IsPath_s1 : (List ByteArray) → Bool) (n : Nat) (a0 : (List ByteArray)) : absF tab sigs (OP_slices_ContainsFunc_string__impl_IsPath_s1 f_slices_IndexFunc_string__impl_IsPath_s1 g_slices_IndexFunc_string__impl_IsPath_s1) A_slices_ContainsFunc_string__impl_IsPath_s1 Try.f61 [(.bool, .no)] n [.val (.slice 9 .str) a0, .clo 62 []] = slices_ContainsFunc_string__impl_IsPath_s1_P f_slices_IndexFunc_string__impl_IsPath_s1 g_slices_IndexFunc_string__impl_IsPath_s1 (fun r0 => some [⟨.bool, r0⟩])  a0 := by kernel_rfl
theorem a_slices_ContainsFunc_string__impl_IsPath_s1 (n : Nat) (a0 : (List ByteArray)) : absF tab sigs O_slices_ContainsFunc_string__impl_IsPath_s1 A_slices_ContainsFunc_string__impl_IsPath_s1 Try.f61 [(.bool, .no)] n [.val (.slice 9 .str) a0, .clo 62 []] = slices_ContainsFunc_string__impl_IsPath_s1 (fun r0 => some [⟨.bool, r0⟩])  a0 := aP_slices_ContainsFunc_string__impl_IsPath_s1 N.slices_IndexFunc_string__impl_IsPath_s1 G.slices_IndexFunc_string__impl_IsPath_s1 n a0
theorem said_slices_ContainsFunc_string__impl_IsPath_s1 (a0 : (List ByteArray)) (g : G.slices_ContainsFunc_string__impl_IsPath_s1 a0 = true) : Said Try.prog sigs_61 61 [.val (.slice 9 .str) a0, .clo 62 []] [⟨.bool, N.slices_ContainsFunc_string__impl_IsPath_s1 a0⟩] := said_len (T := tab) (A := A_slices_ContainsFunc_string__impl_IsPath_s1) tabOk ok_slices_ContainsFunc_string__impl_IsPath_s1 tabOk.follows Try.func61 (by kernel_rfl) (by kernel_rfl) (fun hl => ⟨0, (a_slices_ContainsFunc_string__impl_IsPath_s1 0 a0).trans (slices_ContainsFunc_string__impl_IsPath_s1_ok (ρ := Ret) (fun r0 => some [⟨.bool, r0⟩]) a0 hl.1 g)⟩)
/-! impl.IsPath -/
abbrev G.impl_IsPath (p : List ByteArray) : Bool := decide (wP p ≤ 1048576)
abbrev N.impl_IsPath (p : List ByteArray) : Bool := isPath p
def impl_IsPath {ρ : Type} (k : Bool → Option ρ) (a0 : (List ByteArray)) : Option ρ := (cond (N.impl_InRange (List.length a0 : Int) (1 : Int) (4 : Int)) (cond (G.slices_ContainsFunc_string__impl_IsPath_s1 a0) (k (!(N.slices_ContainsFunc_string__impl_IsPath_s1 a0))) none) (k false))
theorem impl_IsPath_ok {ρ : Type} (k : Bool → Option ρ) (a0 : (List ByteArray)) (l_a0 : lnL (fun _ => True) a0) (g : G.impl_IsPath a0 = true) : impl_IsPath k  a0 = k (N.impl_IsPath a0) := by
  unfold G.impl_IsPath at g
  show cond (inR (a0.length : Int) 1 4) (cond (decide (wP a0 ≤ 1048576)) (k (!(a0.any (fun s => !(isLabel s))))) none) (k false) = k (inR (a0.length : Int) 1 4 && a0.all isLabel)
  rw [g, any_not]
  cases inR (a0.length : Int) 1 4 <;> rfl
def OP_impl_IsPath (f_impl_InRange : Int → Int → Int → Bool) (f_slices_ContainsFunc_string__impl_IsPath_s1 : (List ByteArray) → Bool) (g_slices_ContainsFunc_string__impl_IsPath_s1 : (List ByteArray) → Bool) : Orac := (orcX 61 [.val (.slice 9 .str), .clo 62 []] (fun d => g_slices_ContainsFunc_string__impl_IsPath_s1 d.1) (fun d => [⟨.bool, f_slices_ContainsFunc_string__impl_IsPath_s1 d.1⟩]) (orcX 49 [.val (.int .i64), .val (.int .i64), .val (.int .i64)] (fun d => true) (fun d => [⟨.bool, f_impl_InRange d.1 d.2.1 d.2.2.1⟩]) nilO))
def O_impl_IsPath : Orac := OP_impl_IsPath N.impl_InRange N.slices_ContainsFunc_string__impl_IsPath_s1 G.slices_ContainsFunc_string__impl_IsPath_s1
def impl_IsPath_P {ρ : Type} (f_impl_InRange : Int → Int → Int → Bool) (f_slices_ContainsFunc_string__impl_IsPath_s1 : (List ByteArray) → Bool) (g_slices_ContainsFunc_string__impl_IsPath_s1 : (List ByteArray) → Bool) (k : Bool → Option ρ) (a0 : (List ByteArray)) : Option ρ := (cond (f_impl_InRange (List.length a0 : Int) (1 : Int) (4 : Int)) (cond (g_slices_ContainsFunc_string__impl_IsPath_s1 a0) (k (!(f_slices_ContainsFunc_string__impl_IsPath_s1 a0))) none) (k false))
theorem ok_impl_IsPath : OracOk Try.prog sigs O_impl_IsPath := (orcX_ok rfl (fun d g => said_slices_ContainsFunc_string__impl_IsPath_s1 d.1 g) (orcX_ok rfl (fun d g => said_impl_InRange d.1 d.2.1 d.2.2.1) nilO_ok))
def A_impl_IsPath : Ann := fun b => ⟨[], []⟩
theorem aP_impl_IsPath (f_impl_InRange : Int → Int → Int → Bool) (f_slices_ContainsFunc_string__impl_IsPath_s1 : (List ByteArray) → Bool) (g_slices_ContainsFunc_string__impl_IsPath_s1 : (List ByteArray) → Bool) (n : Nat) (a0 : (List ByteArray)) : absF tab sigs (OP_impl_IsPath f_impl_InRange f_slices_ContainsFunc_string__impl_IsPath_s1 g_slices_ContainsFunc_string__impl_IsPath_s1) A_impl_IsPath Try.f51 [(.bool, .no)] n [.val (.slice 9 .str) a0] = impl_IsPath_P f_impl_InRange f_slices_ContainsFunc_string__impl_IsPath_s1 g_slices_ContainsFunc_string__impl_IsPath_s1 (fun r0 => some [⟨.bool, r0⟩])  a0 := by kernel_rfl
theorem a_impl_IsPath (n : Nat) (a0 : (List ByteArray)) : absF tab sigs O_impl_IsPath A_impl_IsPath Try.f51 [(.bool, .no)] n [.val (.slice 9 .str) a0] = impl_IsPath (fun r0 => some [⟨.bool, r0⟩])  a0 := aP_impl_IsPath N.impl_InRange N.slices_ContainsFunc_string__impl_IsPath_s1 G.slices_ContainsFunc_string__impl_IsPath_s1 n a0
theorem said_impl_IsPath (a0 : (List ByteArray)) (g : G.impl_IsPath a0 = true) : Said Try.prog sigs_51 51 [.val (.slice 9 .str) a0] [⟨.bool, N.impl_IsPath a0⟩] := said_len (T := tab) (A := A_impl_IsPath) tabOk ok_impl_IsPath tabOk.follows Try.func51 (by kernel_rfl) (by kernel_rfl) (fun hl => ⟨0, (a_impl_IsPath 0 a0).trans (impl_IsPath_ok (ρ := Ret) (fun r0 => some [⟨.bool, r0⟩]) a0 hl.1 g)⟩)
/-! impl.IsEntry -/
abbrev G.impl_IsEntry (e : TEntry) : Bool := decide (wE e ≤ 1048576)
abbrev N.impl_IsEntry (e : TEntry) : Bool := isEntry e
def impl_IsEntry {ρ : Type} (k : Bool → Option ρ) (a0 : TEntry) : Option ρ := (cond (G.impl_IsLabel a0.1) (cond (!(N.impl_IsLabel a0.1)) (k false) (cond (a0.2.1 == (1 : Int)) (cond (N.impl_InRange a0.2.2.1 (0 : Int) (999999 : Int)) (k ((List.length a0.2.2.2 : Int) == (0 : Int))) (k false)) (cond (a0.2.1 == (2 : Int)) (cond (N.impl_isDigest a0.2.2.1) (k ((List.length a0.2.2.2 : Int) == (0 : Int))) (k false)) (cond (a0.2.1 == (3 : Int)) (cond (N.impl_isDigest a0.2.2.1) (cond (G.impl_IsPath a0.2.2.2) (k (N.impl_IsPath a0.2.2.2)) none) (k false)) (k false))))) none)
theorem impl_IsEntry_ok {ρ : Type} (k : Bool → Option ρ) (a0 : TEntry) (l_a0 : (True ∧ (True ∧ (True ∧ lnL (fun _ => True) a0.2.2.2)))) (g : G.impl_IsEntry a0 = true) : impl_IsEntry k  a0 = k (N.impl_IsEntry a0) := by
  unfold G.impl_IsEntry at g
  have hw : wE a0 ≤ 1048576 := of_decide_eq_true g
  have g1 : decide (a0.1.size ≤ 1048576) = true := by unfold wE at hw; simp; omega
  have g2 : decide (wP a0.2.2.2 ≤ 1048576) = true := by unfold wE at hw; simp; omega
  simp only [impl_IsEntry, G.impl_IsLabel, N.impl_IsLabel, G.impl_IsPath, N.impl_IsPath, N.impl_InRange, N.impl_isDigest, g1, g2, cond_true, isEntry]
  by_cases h1 : a0.2.1 = 1
  · have e1 : (a0.2.1 == 1) = true := by simp [h1]
    have e2 : (a0.2.1 == 2) = false := by simp [h1]
    have e3 : (a0.2.1 == 3) = false := by simp [h1]
    simp only [e1, e2, e3]
    cases isLabel a0.1 <;> cases inR a0.2.2.1 0 999999 <;> simp
  by_cases h2 : a0.2.1 = 2
  · have e1 : (a0.2.1 == 1) = false := by simp [h2]
    have e2 : (a0.2.1 == 2) = true := by simp [h2]
    have e3 : (a0.2.1 == 3) = false := by simp [h2]
    simp only [e1, e2, e3]
    cases isLabel a0.1 <;> cases isDigest a0.2.2.1 <;> simp
  have e1 : (a0.2.1 == 1) = false := by simp [h1]
  have e2 : (a0.2.1 == 2) = false := by simp [h2]
  simp only [e1, e2]
  cases a0.2.1 == 3 <;> cases isLabel a0.1 <;> cases isDigest a0.2.2.1 <;> simp
def OP_impl_IsEntry (f_impl_IsLabel : ByteArray → Bool) (g_impl_IsLabel : ByteArray → Bool) (f_impl_InRange : Int → Int → Int → Bool) (f_impl_isDigest : Int → Bool) (f_impl_IsPath : (List ByteArray) → Bool) (g_impl_IsPath : (List ByteArray) → Bool) : Orac := (orcX 51 [.val (.slice 9 .str)] (fun d => g_impl_IsPath d.1) (fun d => [⟨.bool, f_impl_IsPath d.1⟩]) (orcX 50 [.val (.int .i64)] (fun d => true) (fun d => [⟨.bool, f_impl_isDigest d.1⟩]) (orcX 49 [.val (.int .i64), .val (.int .i64), .val (.int .i64)] (fun d => true) (fun d => [⟨.bool, f_impl_InRange d.1 d.2.1 d.2.2.1⟩]) (orcX 48 [.val .str] (fun d => g_impl_IsLabel d.1) (fun d => [⟨.bool, f_impl_IsLabel d.1⟩]) nilO))))
def O_impl_IsEntry : Orac := OP_impl_IsEntry N.impl_IsLabel G.impl_IsLabel N.impl_InRange N.impl_isDigest N.impl_IsPath G.impl_IsPath
def impl_IsEntry_P {ρ : Type} (f_impl_IsLabel : ByteArray → Bool) (g_impl_IsLabel : ByteArray → Bool) (f_impl_InRange : Int → Int → Int → Bool) (f_impl_isDigest : Int → Bool) (f_impl_IsPath : (List ByteArray) → Bool) (g_impl_IsPath : (List ByteArray) → Bool) (k : Bool → Option ρ) (a0 : TEntry) : Option ρ := (cond (g_impl_IsLabel a0.1) (cond (!(f_impl_IsLabel a0.1)) (k false) (cond (a0.2.1 == (1 : Int)) (cond (f_impl_InRange a0.2.2.1 (0 : Int) (999999 : Int)) (k ((List.length a0.2.2.2 : Int) == (0 : Int))) (k false)) (cond (a0.2.1 == (2 : Int)) (cond (f_impl_isDigest a0.2.2.1) (k ((List.length a0.2.2.2 : Int) == (0 : Int))) (k false)) (cond (a0.2.1 == (3 : Int)) (cond (f_impl_isDigest a0.2.2.1) (cond (g_impl_IsPath a0.2.2.2) (k (f_impl_IsPath a0.2.2.2)) none) (k false)) (k false))))) none)
theorem ok_impl_IsEntry : OracOk Try.prog sigs O_impl_IsEntry := (orcX_ok rfl (fun d g => said_impl_IsPath d.1 g) (orcX_ok rfl (fun d g => said_impl_isDigest d.1) (orcX_ok rfl (fun d g => said_impl_InRange d.1 d.2.1 d.2.2.1) (orcX_ok rfl (fun d g => said_impl_IsLabel d.1 g) nilO_ok))))
def A_impl_IsEntry : Ann := fun b => ⟨[], []⟩
theorem aP_impl_IsEntry (f_impl_IsLabel : ByteArray → Bool) (g_impl_IsLabel : ByteArray → Bool) (f_impl_InRange : Int → Int → Int → Bool) (f_impl_isDigest : Int → Bool) (f_impl_IsPath : (List ByteArray) → Bool) (g_impl_IsPath : (List ByteArray) → Bool) (n : Nat) (a0 : TEntry) : absF tab sigs (OP_impl_IsEntry f_impl_IsLabel g_impl_IsLabel f_impl_InRange f_impl_isDigest f_impl_IsPath g_impl_IsPath) A_impl_IsEntry Try.f29 [(.bool, .no)] n [.val (.pair .str (.pair (.int .i64) (.pair (.int .i64) (.slice 9 .str)))) a0] = impl_IsEntry_P f_impl_IsLabel g_impl_IsLabel f_impl_InRange f_impl_isDigest f_impl_IsPath g_impl_IsPath (fun r0 => some [⟨.bool, r0⟩])  a0 := by kernel_rfl
theorem a_impl_IsEntry (n : Nat) (a0 : TEntry) : absF tab sigs O_impl_IsEntry A_impl_IsEntry Try.f29 [(.bool, .no)] n [.val (.pair .str (.pair (.int .i64) (.pair (.int .i64) (.slice 9 .str)))) a0] = impl_IsEntry (fun r0 => some [⟨.bool, r0⟩])  a0 := aP_impl_IsEntry N.impl_IsLabel G.impl_IsLabel N.impl_InRange N.impl_isDigest N.impl_IsPath G.impl_IsPath n a0
theorem said_impl_IsEntry (a0 : TEntry) (g : G.impl_IsEntry a0 = true) : Said Try.prog sigs_29 29 [.val (.pair .str (.pair (.int .i64) (.pair (.int .i64) (.slice 9 .str)))) a0] [⟨.bool, N.impl_IsEntry a0⟩] := said_len (T := tab) (A := A_impl_IsEntry) tabOk ok_impl_IsEntry tabOk.follows Try.func29 (by kernel_rfl) (by kernel_rfl) (fun hl => ⟨0, (a_impl_IsEntry 0 a0).trans (impl_IsEntry_ok (ρ := Ret) (fun r0 => some [⟨.bool, r0⟩]) a0 hl.1 g)⟩)
/-! spec.CompareLabels -/
abbrev N.spec_CompareLabels (a b : ByteArray) : Int := cmpStr a b
def spec_CompareLabels {ρ : Type} (k : Int → Option ρ) (a0 : ByteArray) (a1 : ByteArray) : Option ρ := (cond (Op.bytesLess (ByteArray.toList a0) (ByteArray.toList a1)) (k (-1 : Int)) (cond (!(Op.bytesLess (ByteArray.toList a0) (ByteArray.toList a1) || ((ByteArray.toList a0) == (ByteArray.toList a1)))) (k (1 : Int)) (k (0 : Int))))
theorem spec_CompareLabels_ok {ρ : Type} (k : Int → Option ρ) (a0 : ByteArray) (a1 : ByteArray) : spec_CompareLabels k  a0 a1 = k (N.spec_CompareLabels a0 a1) := by
  simp only [spec_CompareLabels, cmpStr]
  cases Op.bytesLess a0.toList a1.toList <;> cases a0.toList == a1.toList <;> rfl
def O_spec_CompareLabels : Orac := nilO
theorem ok_spec_CompareLabels : OracOk Try.prog sigs O_spec_CompareLabels := nilO_ok
def A_spec_CompareLabels : Ann := fun b => ⟨[], []⟩
theorem a_spec_CompareLabels (n : Nat) (a0 : ByteArray) (a1 : ByteArray) : absF tab sigs O_spec_CompareLabels A_spec_CompareLabels Try.f52 [((.int .i64), .no)] n [.val .str a0, .val .str a1] = spec_CompareLabels (fun r0 => some [⟨(.int .i64), r0⟩])  a0 a1 := by kernel_rfl
theorem said_spec_CompareLabels (a0 : ByteArray) (a1 : ByteArray) : Said Try.prog sigs_52 52 [.val .str a0, .val .str a1] [⟨(.int .i64), N.spec_CompareLabels a0 a1⟩] := said_len (T := tab) (A := A_spec_CompareLabels) tabOk ok_spec_CompareLabels tabOk.follows Try.func52 (by kernel_rfl) (by kernel_rfl) (fun hl => ⟨0, (a_spec_CompareLabels 0 a0 a1).trans (spec_CompareLabels_ok (ρ := Ret) (fun r0 => some [⟨(.int .i64), r0⟩]) a0 a1)⟩)
/-! spec.AreEntries -/
abbrev G.spec_AreEntries (l : List TEntry) : Bool := decide (wEs l ≤ 1048576)
abbrev N.spec_AreEntries (l : List TEntry) : Bool := areEntries l
def spec_AreEntries_L0 {ρ : Type} (k : Bool → Option ρ) (L0 : (List TEntry) → Int → Option ρ) (v0_0 : (List TEntry)) (v0_1 : Int) : Option ρ := (cond (decide (v0_1 < (List.length v0_0 : Int))) (cond (inRange v0_1 (List.length v0_0)) (cond (G.spec_IsEntry (List.getD v0_0 (Int.toNat v0_1) (ByteArray.empty, ((0 : Int), ((0 : Int), []))))) (cond (!(N.spec_IsEntry (List.getD v0_0 (Int.toNat v0_1) (ByteArray.empty, ((0 : Int), ((0 : Int), [])))))) (k false) (cond (decide (v0_1 > (0 : Int))) (cond (inRange (IntKind.wrap .i64 (v0_1 - (1 : Int))) (List.length v0_0)) (cond (inRange v0_1 (List.length v0_0)) (cond ((N.spec_CompareLabels (List.getD v0_0 (Int.toNat (IntKind.wrap .i64 (v0_1 - (1 : Int)))) (ByteArray.empty, ((0 : Int), ((0 : Int), [])))).1 (List.getD v0_0 (Int.toNat v0_1) (ByteArray.empty, ((0 : Int), ((0 : Int), [])))).1) != (-1 : Int)) (k false) (L0 v0_0 (IntKind.wrap .i64 (v0_1 + (1 : Int))))) none) none) (L0 v0_0 (IntKind.wrap .i64 (v0_1 + (1 : Int)))))) none) none) (k (decide ((List.length v0_0 : Int) ≤ (12 : Int)))))
def spec_AreEntries {ρ : Type} (k : Bool → Option ρ) (L0 : (List TEntry) → Int → Option ρ) (a0 : (List TEntry)) : Option ρ := (L0 a0 (0 : Int))
theorem spec_AreEntries_ok {ρ : Type} (k : Bool → Option ρ) (a0 : (List TEntry)) (l_a0 : lnL (fun y => (True ∧ (True ∧ (True ∧ lnL (fun _ => True) y.2.2.2)))) a0) (g : G.spec_AreEntries a0 = true) : ∃ n0, ∀ n, n0 ≤ n → ∀ (L0 : Nat → (List TEntry) → Int → Option ρ) (h0 : ∀ ( m : Nat) (v0_0 : (List TEntry)) (v0_1 : Int), L0 (m + 1) v0_0 v0_1 = spec_AreEntries_L0 k (L0 m) v0_0 v0_1), spec_AreEntries k (L0 n) a0 = k (N.spec_AreEntries a0) := by
  unfold G.spec_AreEntries at g
  have hw : wEs a0 ≤ 1048576 := of_decide_eq_true g
  have hl : a0.length ≤ 1048576 := by unfold wEs at hw; omega
  refine ⟨a0.length + 1, fun n hn L0 h0 => ?_⟩
  have hrun := raw_run0 (σ := Unit) (s := ()) (L := fun m i _ => L0 m a0 i) (R := fun i _ c => spec_AreEntries_L0 k (fun _ i => c i ()) a0 i) (fun m i s => h0 m a0 i) a0.length (fun _ _ => True) (fun j _ => cond (areFrom a0 (a0.length - j) j) (k (decide (a0.length ≤ 12))) (k false)) (fun j s c hj _ hc => ?_) (fun s c _ => ?_) hn trivial
  · refine hrun.trans ?_
    show _ = k (areFrom a0 a0.length 0 && decide (a0.length ≤ 12))
    rw [Nat.sub_zero]
    cases areFrom a0 a0.length 0 <;> rfl
  · obtain ⟨m, hm⟩ : ∃ m, a0.length - j = m + 1 := ⟨a0.length - j - 1, by omega⟩
    have hm2 : a0.length - (j + 1) = m := by omega
    have hc' := hc () trivial
    rw [hm2] at hc'
    have hmem := wEs_mem (getD_mem (d := (ByteArray.empty, (0, (0, [])))) hj)
    have g2 : decide (wE (a0.getD j (ByteArray.empty, (0, (0, [])))) ≤ 1048576) = true := by simp only [decide_eq_true_eq]; omega
    rw [hm]
    unfold areFrom
    by_cases h0j : j = 0
    · subst h0j
      simp only [spec_AreEntries_L0, lt_nat, inRange_nat, decide_eq_true hj, cond_true, Int.toNat_natCast, G.spec_IsEntry, N.spec_IsEntry, g2, wrap_succ (j := 0) (by unfold big; omega), hc']
      cases isEntry (a0.getD 0 (ByteArray.empty, (0, (0, [])))) <;> simp
    · have e1 : decide ((j : Int) > 0) = true := by simp; omega
      have e2 : IntKind.wrap .i64 ((j : Int) - 1) = ((j - 1 : Nat) : Int) := by rw [wrap_id (by omega) (by omega)]; omega
      have e3 : j - 1 < a0.length := by omega
      simp only [spec_AreEntries_L0, lt_nat, inRange_nat, decide_eq_true hj, cond_true, Int.toNat_natCast, G.spec_IsEntry, N.spec_IsEntry, N.spec_CompareLabels, g2, e1, e2, decide_eq_true e3, wrap_succ (j := j) (by unfold big; omega), hc', decide_eq_false h0j, bne]
      cases isEntry (a0.getD j (ByteArray.empty, (0, (0, [])))) <;> cases cmpStr (a0.getD (j - 1) (ByteArray.empty, (0, (0, [])))).1 (a0.getD j (ByteArray.empty, (0, (0, [])))).1 == -1 <;> simp
  · have e1 : decide ((a0.length : Int) ≤ 12) = decide (a0.length ≤ 12) := by simp only [decide_eq_decide]; omega
    rw [Nat.sub_self]
    simp [spec_AreEntries_L0, areFrom, e1]
def OP_spec_AreEntries (f_spec_IsEntry : TEntry → Bool) (g_spec_IsEntry : TEntry → Bool) (f_spec_CompareLabels : ByteArray → ByteArray → Int) : Orac := (orcX 52 [.val .str, .val .str] (fun d => true) (fun d => [⟨(.int .i64), f_spec_CompareLabels d.1 d.2.1⟩]) (orcX 28 [.val (.pair .str (.pair (.int .i64) (.pair (.int .i64) (.slice 9 .str))))] (fun d => g_spec_IsEntry d.1) (fun d => [⟨.bool, f_spec_IsEntry d.1⟩]) nilO))
def O_spec_AreEntries : Orac := OP_spec_AreEntries N.spec_IsEntry G.spec_IsEntry N.spec_CompareLabels
def spec_AreEntries_P_L0 {ρ : Type} (f_spec_IsEntry : TEntry → Bool) (g_spec_IsEntry : TEntry → Bool) (f_spec_CompareLabels : ByteArray → ByteArray → Int) (k : Bool → Option ρ) (L0 : (List TEntry) → Int → Option ρ) (v0_0 : (List TEntry)) (v0_1 : Int) : Option ρ := (cond (decide (v0_1 < (List.length v0_0 : Int))) (cond (inRange v0_1 (List.length v0_0)) (cond (g_spec_IsEntry (List.getD v0_0 (Int.toNat v0_1) (ByteArray.empty, ((0 : Int), ((0 : Int), []))))) (cond (!(f_spec_IsEntry (List.getD v0_0 (Int.toNat v0_1) (ByteArray.empty, ((0 : Int), ((0 : Int), [])))))) (k false) (cond (decide (v0_1 > (0 : Int))) (cond (inRange (IntKind.wrap .i64 (v0_1 - (1 : Int))) (List.length v0_0)) (cond (inRange v0_1 (List.length v0_0)) (cond ((f_spec_CompareLabels (List.getD v0_0 (Int.toNat (IntKind.wrap .i64 (v0_1 - (1 : Int)))) (ByteArray.empty, ((0 : Int), ((0 : Int), [])))).1 (List.getD v0_0 (Int.toNat v0_1) (ByteArray.empty, ((0 : Int), ((0 : Int), [])))).1) != (-1 : Int)) (k false) (L0 v0_0 (IntKind.wrap .i64 (v0_1 + (1 : Int))))) none) none) (L0 v0_0 (IntKind.wrap .i64 (v0_1 + (1 : Int)))))) none) none) (k (decide ((List.length v0_0 : Int) ≤ (12 : Int)))))
def spec_AreEntries_P {ρ : Type} (f_spec_IsEntry : TEntry → Bool) (g_spec_IsEntry : TEntry → Bool) (f_spec_CompareLabels : ByteArray → ByteArray → Int) (k : Bool → Option ρ) (L0 : (List TEntry) → Int → Option ρ) (a0 : (List TEntry)) : Option ρ := (L0 a0 (0 : Int))
theorem ok_spec_AreEntries : OracOk Try.prog sigs O_spec_AreEntries := (orcX_ok rfl (fun d g => said_spec_CompareLabels d.1 d.2.1) (orcX_ok rfl (fun d g => said_spec_IsEntry d.1 g) nilO_ok))
def A_spec_AreEntries : Ann := fun b => cond (Nat.beq b 0) ⟨[(0, false), (3, false)], []⟩ (⟨[], []⟩)
def S_spec_AreEntries_0 (v0_0 : (List TEntry)) (v0_1 : Int) : St := [(kT 0, some (.tv (.v (.slice 28 (.pair .str (.pair (.int .i64) (.pair (.int .i64) (.slice 9 .str))))) v0_0 .no))), (kT 3, some (.tv (.v (.int .i64) v0_1 .no)))]
noncomputable def L_P_spec_AreEntries_0 (f_spec_IsEntry : TEntry → Bool) (g_spec_IsEntry : TEntry → Bool) (f_spec_CompareLabels : ByteArray → ByteArray → Int) (n m : Nat) : St → Option Ret := loopOf tab sigs (OP_spec_AreEntries f_spec_IsEntry g_spec_IsEntry f_spec_CompareLabels) A_spec_AreEntries Try.f30 [(.bool, .no)] n (fun _ => 0) 0 m
noncomputable def L_spec_AreEntries_0 (n m : Nat) : St → Option Ret := L_P_spec_AreEntries_0 N.spec_IsEntry G.spec_IsEntry N.spec_CompareLabels n m
theorem bP_spec_AreEntries_0 (f_spec_IsEntry : TEntry → Bool) (g_spec_IsEntry : TEntry → Bool) (f_spec_CompareLabels : ByteArray → ByteArray → Int) (n m : Nat) (v0_0 : (List TEntry)) (v0_1 : Int) : L_P_spec_AreEntries_0 f_spec_IsEntry g_spec_IsEntry f_spec_CompareLabels n (m + 1) (S_spec_AreEntries_0 v0_0 v0_1) = spec_AreEntries_P_L0 f_spec_IsEntry g_spec_IsEntry f_spec_CompareLabels (fun r0 => some [⟨.bool, r0⟩]) (fun v0_0 v0_1 => L_P_spec_AreEntries_0 f_spec_IsEntry g_spec_IsEntry f_spec_CompareLabels n m (S_spec_AreEntries_0 v0_0 v0_1)) v0_0 v0_1 := by kernel_rfl
theorem b_spec_AreEntries_0 (n m : Nat) (v0_0 : (List TEntry)) (v0_1 : Int) : L_spec_AreEntries_0 n (m + 1) (S_spec_AreEntries_0 v0_0 v0_1) = spec_AreEntries_L0 (fun r0 => some [⟨.bool, r0⟩]) (fun v0_0 v0_1 => L_spec_AreEntries_0 n m (S_spec_AreEntries_0 v0_0 v0_1)) v0_0 v0_1 := bP_spec_AreEntries_0 N.spec_IsEntry G.spec_IsEntry N.spec_CompareLabels n m v0_0 v0_1
theorem aP_spec_AreEntries (f_spec_IsEntry : TEntry → Bool) (g_spec_IsEntry : TEntry → Bool) (f_spec_CompareLabels : ByteArray → ByteArray → Int) (n : Nat) (a0 : (List TEntry)) : absF tab sigs (OP_spec_AreEntries f_spec_IsEntry g_spec_IsEntry f_spec_CompareLabels) A_spec_AreEntries Try.f30 [(.bool, .no)] n [.val (.slice 28 (.pair .str (.pair (.int .i64) (.pair (.int .i64) (.slice 9 .str))))) a0] = spec_AreEntries_P f_spec_IsEntry g_spec_IsEntry f_spec_CompareLabels (fun r0 => some [⟨.bool, r0⟩]) (fun v0_0 v0_1 => L_P_spec_AreEntries_0 f_spec_IsEntry g_spec_IsEntry f_spec_CompareLabels n n (S_spec_AreEntries_0 v0_0 v0_1)) a0 := by kernel_rfl
theorem a_spec_AreEntries (n : Nat) (a0 : (List TEntry)) : absF tab sigs O_spec_AreEntries A_spec_AreEntries Try.f30 [(.bool, .no)] n [.val (.slice 28 (.pair .str (.pair (.int .i64) (.pair (.int .i64) (.slice 9 .str))))) a0] = spec_AreEntries (fun r0 => some [⟨.bool, r0⟩]) (fun v0_0 v0_1 => L_spec_AreEntries_0 n n (S_spec_AreEntries_0 v0_0 v0_1)) a0 := aP_spec_AreEntries N.spec_IsEntry G.spec_IsEntry N.spec_CompareLabels n a0
theorem said_spec_AreEntries (a0 : (List TEntry)) (g : G.spec_AreEntries a0 = true) : Said Try.prog sigs_30 30 [.val (.slice 28 (.pair .str (.pair (.int .i64) (.pair (.int .i64) (.slice 9 .str))))) a0] [⟨.bool, N.spec_AreEntries a0⟩] := said_len (T := tab) (A := A_spec_AreEntries) tabOk ok_spec_AreEntries tabOk.follows Try.func30 (by kernel_rfl) (by kernel_rfl) (fun hl => let ⟨n, hn⟩ := spec_AreEntries_ok (ρ := Ret) (fun r0 => some [⟨.bool, r0⟩]) a0 hl.1 g; ⟨n, (a_spec_AreEntries n a0).trans (hn n (Nat.le_refl n) (fun  m v0_0 v0_1 => L_spec_AreEntries_0 n  m (S_spec_AreEntries_0 v0_0 v0_1)) (fun  m v0_0 v0_1 => b_spec_AreEntries_0 n  m v0_0 v0_1))⟩)
/-! internal.bytealg.CompareString -/
abbrev N.internal_bytealg_CompareString (a b : ByteArray) : Int := cmpStr a b
-- HAND
open Go.Proofs.Ythiiialbkppmnaa in
theorem calls_cmp (a b : ByteArray) (w : World) : Calls Try.prog 67 #[.string a, .string b] w fun e w' => e = .returned (.int .i64 (Lib.compareBytes a.data.toList b.data.toList)) ∧ w' = w := by
  go_enter Try.func67, Try.ntmps67
  go_wp2
  rw [run_callFunc_extern Try.func68 (by kernel_rfl) (by kernel_rfl) (by kernel_rfl) (e := Extern.BytealgCompare.compare) (by kernel_rfl), Lib.run_compareString]
  simp only [Result.andThen]
  rw [Oper.upon_value]
  go_wp2
  go_ret
  exact ⟨rfl, rfl⟩
theorem said_internal_bytealg_CompareString (a0 a1 : ByteArray) : Said Try.prog sigs_67 67 [.val .str a0, .val .str a1] [⟨.int .i64, N.internal_bytealg_CompareString a0 a1⟩] :=
  said_int Try.func67 (by kernel_rfl) (by kernel_rfl) (fun w ok vs h => by
    obtain ⟨v0, vs0, rfl, h0, v1, vs1, rfl, h1, rfl⟩ := h
    rw [avr_str h0, avr_str h1, show N.internal_bytealg_CompareString a0 a1 = _ from (cmp_data a0 a1).symm]
    exact calls_cmp a0 a1 w)

/-! strings.Compare -/
abbrev N.strings_Compare (a b : ByteArray) : Int := cmpStr a b
def strings_Compare {ρ : Type} (k : Int → Option ρ) (a0 : ByteArray) (a1 : ByteArray) : Option ρ := (k (N.internal_bytealg_CompareString a0 a1))
theorem strings_Compare_ok {ρ : Type} (k : Int → Option ρ) (a0 : ByteArray) (a1 : ByteArray) : strings_Compare k  a0 a1 = k (N.strings_Compare a0 a1) := by
  rfl
def OP_strings_Compare (f_internal_bytealg_CompareString : ByteArray → ByteArray → Int) : Orac := (orcX 67 [.val .str, .val .str] (fun d => true) (fun d => [⟨(.int .i64), f_internal_bytealg_CompareString d.1 d.2.1⟩]) nilO)
def O_strings_Compare : Orac := OP_strings_Compare N.internal_bytealg_CompareString
def strings_Compare_P {ρ : Type} (f_internal_bytealg_CompareString : ByteArray → ByteArray → Int) (k : Int → Option ρ) (a0 : ByteArray) (a1 : ByteArray) : Option ρ := (k (f_internal_bytealg_CompareString a0 a1))
theorem ok_strings_Compare : OracOk Try.prog sigs O_strings_Compare := (orcX_ok rfl (fun d g => said_internal_bytealg_CompareString d.1 d.2.1) nilO_ok)
def A_strings_Compare : Ann := fun b => ⟨[], []⟩
theorem aP_strings_Compare (f_internal_bytealg_CompareString : ByteArray → ByteArray → Int) (n : Nat) (a0 : ByteArray) (a1 : ByteArray) : absF tab sigs (OP_strings_Compare f_internal_bytealg_CompareString) A_strings_Compare Try.f63 [((.int .i64), .no)] n [.val .str a0, .val .str a1] = strings_Compare_P f_internal_bytealg_CompareString (fun r0 => some [⟨(.int .i64), r0⟩])  a0 a1 := by kernel_rfl
theorem a_strings_Compare (n : Nat) (a0 : ByteArray) (a1 : ByteArray) : absF tab sigs O_strings_Compare A_strings_Compare Try.f63 [((.int .i64), .no)] n [.val .str a0, .val .str a1] = strings_Compare (fun r0 => some [⟨(.int .i64), r0⟩])  a0 a1 := aP_strings_Compare N.internal_bytealg_CompareString n a0 a1
theorem said_strings_Compare (a0 : ByteArray) (a1 : ByteArray) : Said Try.prog sigs_63 63 [.val .str a0, .val .str a1] [⟨(.int .i64), N.strings_Compare a0 a1⟩] := said_len (T := tab) (A := A_strings_Compare) tabOk ok_strings_Compare tabOk.follows Try.func63 (by kernel_rfl) (by kernel_rfl) (fun hl => ⟨0, (a_strings_Compare 0 a0 a1).trans (strings_Compare_ok (ρ := Ret) (fun r0 => some [⟨(.int .i64), r0⟩]) a0 a1)⟩)
/-! impl.CompareLabels -/
abbrev N.impl_CompareLabels (a b : ByteArray) : Int := cmpStr a b
def impl_CompareLabels {ρ : Type} (k : Int → Option ρ) (a0 : ByteArray) (a1 : ByteArray) : Option ρ := (k (N.strings_Compare a0 a1))
theorem impl_CompareLabels_ok {ρ : Type} (k : Int → Option ρ) (a0 : ByteArray) (a1 : ByteArray) : impl_CompareLabels k  a0 a1 = k (N.impl_CompareLabels a0 a1) := by
  rfl
def OP_impl_CompareLabels (f_strings_Compare : ByteArray → ByteArray → Int) : Orac := (orcX 63 [.val .str, .val .str] (fun d => true) (fun d => [⟨(.int .i64), f_strings_Compare d.1 d.2.1⟩]) nilO)
def O_impl_CompareLabels : Orac := OP_impl_CompareLabels N.strings_Compare
def impl_CompareLabels_P {ρ : Type} (f_strings_Compare : ByteArray → ByteArray → Int) (k : Int → Option ρ) (a0 : ByteArray) (a1 : ByteArray) : Option ρ := (k (f_strings_Compare a0 a1))
theorem ok_impl_CompareLabels : OracOk Try.prog sigs O_impl_CompareLabels := (orcX_ok rfl (fun d g => said_strings_Compare d.1 d.2.1) nilO_ok)
def A_impl_CompareLabels : Ann := fun b => ⟨[], []⟩
theorem aP_impl_CompareLabels (f_strings_Compare : ByteArray → ByteArray → Int) (n : Nat) (a0 : ByteArray) (a1 : ByteArray) : absF tab sigs (OP_impl_CompareLabels f_strings_Compare) A_impl_CompareLabels Try.f53 [((.int .i64), .no)] n [.val .str a0, .val .str a1] = impl_CompareLabels_P f_strings_Compare (fun r0 => some [⟨(.int .i64), r0⟩])  a0 a1 := by kernel_rfl
theorem a_impl_CompareLabels (n : Nat) (a0 : ByteArray) (a1 : ByteArray) : absF tab sigs O_impl_CompareLabels A_impl_CompareLabels Try.f53 [((.int .i64), .no)] n [.val .str a0, .val .str a1] = impl_CompareLabels (fun r0 => some [⟨(.int .i64), r0⟩])  a0 a1 := aP_impl_CompareLabels N.strings_Compare n a0 a1
theorem said_impl_CompareLabels (a0 : ByteArray) (a1 : ByteArray) : Said Try.prog sigs_53 53 [.val .str a0, .val .str a1] [⟨(.int .i64), N.impl_CompareLabels a0 a1⟩] := said_len (T := tab) (A := A_impl_CompareLabels) tabOk ok_impl_CompareLabels tabOk.follows Try.func53 (by kernel_rfl) (by kernel_rfl) (fun hl => ⟨0, (a_impl_CompareLabels 0 a0 a1).trans (impl_CompareLabels_ok (ρ := Ret) (fun r0 => some [⟨(.int .i64), r0⟩]) a0 a1)⟩)
/-! impl.AreEntries -/
abbrev G.impl_AreEntries (l : List TEntry) : Bool := decide (wEs l ≤ 1048576)
abbrev N.impl_AreEntries (l : List TEntry) : Bool := areEntries l
def impl_AreEntries_L0 {ρ : Type} (k : Bool → Option ρ) (L0 : (List TEntry) → (List TEntry) → Int → Int → Option ρ) (v0_0 : (List TEntry)) (v0_1 : (List TEntry)) (v0_2 : Int) (v0_3 : Int) : Option ρ := (cond (decide (v0_3 < v0_2)) (cond (inRange v0_3 (List.length v0_1)) (cond (G.impl_IsEntry (List.getD v0_1 (Int.toNat v0_3) (ByteArray.empty, ((0 : Int), ((0 : Int), []))))) (cond (!(N.impl_IsEntry (List.getD v0_1 (Int.toNat v0_3) (ByteArray.empty, ((0 : Int), ((0 : Int), [])))))) (k false) (cond (decide (v0_3 > (0 : Int))) (cond (inRange (IntKind.wrap .i64 (v0_3 - (1 : Int))) (List.length v0_0)) (cond (decide ((N.impl_CompareLabels (List.getD v0_1 (Int.toNat v0_3) (ByteArray.empty, ((0 : Int), ((0 : Int), [])))).1 (List.getD v0_0 (Int.toNat (IntKind.wrap .i64 (v0_3 - (1 : Int)))) (ByteArray.empty, ((0 : Int), ((0 : Int), [])))).1) ≤ (0 : Int))) (k false) (L0 v0_0 v0_1 v0_2 (IntKind.wrap .i64 (v0_3 + (1 : Int))))) none) (L0 v0_0 v0_1 v0_2 (IntKind.wrap .i64 (v0_3 + (1 : Int)))))) none) none) (k (decide ((List.length v0_0 : Int) ≤ (12 : Int)))))
def impl_AreEntries {ρ : Type} (k : Bool → Option ρ) (L0 : (List TEntry) → (List TEntry) → Int → Int → Option ρ) (a0 : (List TEntry)) : Option ρ := (L0 a0 a0 (List.length a0 : Int) (0 : Int))
theorem impl_AreEntries_ok {ρ : Type} (k : Bool → Option ρ) (a0 : (List TEntry)) (l_a0 : lnL (fun y => (True ∧ (True ∧ (True ∧ lnL (fun _ => True) y.2.2.2)))) a0) (g : G.impl_AreEntries a0 = true) : ∃ n0, ∀ n, n0 ≤ n → ∀ (L0 : Nat → (List TEntry) → (List TEntry) → Int → Int → Option ρ) (h0 : ∀ ( m : Nat) (v0_0 : (List TEntry)) (v0_1 : (List TEntry)) (v0_2 : Int) (v0_3 : Int), L0 (m + 1) v0_0 v0_1 v0_2 v0_3 = impl_AreEntries_L0 k (L0 m) v0_0 v0_1 v0_2 v0_3), impl_AreEntries k (L0 n) a0 = k (N.impl_AreEntries a0) := by
  unfold G.impl_AreEntries at g
  have hw : wEs a0 ≤ 1048576 := of_decide_eq_true g
  have hl : a0.length ≤ 1048576 := by unfold wEs at hw; omega
  refine ⟨a0.length + 1, fun n hn L0 h0 => ?_⟩
  have hrun := raw_run0 (σ := Unit) (s := ()) (L := fun m i _ => L0 m a0 a0 (a0.length : Int) i) (R := fun i _ c => impl_AreEntries_L0 k (fun _ _ _ i => c i ()) a0 a0 (a0.length : Int) i) (fun m i s => h0 m a0 a0 (a0.length : Int) i) a0.length (fun _ _ => True) (fun j _ => cond (areFrom a0 (a0.length - j) j) (k (decide (a0.length ≤ 12))) (k false)) (fun j s c hj _ hc => ?_) (fun s c _ => ?_) hn trivial
  · refine hrun.trans ?_
    show _ = k (areFrom a0 a0.length 0 && decide (a0.length ≤ 12))
    rw [Nat.sub_zero]
    cases areFrom a0 a0.length 0 <;> rfl
  · obtain ⟨m, hm⟩ : ∃ m, a0.length - j = m + 1 := ⟨a0.length - j - 1, by omega⟩
    have hm2 : a0.length - (j + 1) = m := by omega
    have hc' := hc () trivial
    rw [hm2] at hc'
    have hmem := wEs_mem (getD_mem (d := (ByteArray.empty, (0, (0, [])))) hj)
    have g2 : decide (wE (a0.getD j (ByteArray.empty, (0, (0, [])))) ≤ 1048576) = true := by simp only [decide_eq_true_eq]; omega
    rw [hm]
    unfold areFrom
    by_cases h0j : j = 0
    · subst h0j
      simp only [impl_AreEntries_L0, lt_nat, inRange_nat, decide_eq_true hj, cond_true, Int.toNat_natCast, G.impl_IsEntry, N.impl_IsEntry, g2, wrap_succ (j := 0) (by unfold big; omega), hc']
      cases isEntry (a0.getD 0 (ByteArray.empty, (0, (0, [])))) <;> simp
    · have e1 : decide ((j : Int) > 0) = true := by simp; omega
      have e2 : IntKind.wrap .i64 ((j : Int) - 1) = ((j - 1 : Nat) : Int) := by rw [wrap_id (by omega) (by omega)]; omega
      have e3 : j - 1 < a0.length := by omega
      simp only [impl_AreEntries_L0, lt_nat, inRange_nat, decide_eq_true hj, cond_true, Int.toNat_natCast, G.impl_IsEntry, N.impl_IsEntry, N.impl_CompareLabels, g2, e1, e2, decide_eq_true e3, wrap_succ (j := j) (by unfold big; omega), hc', decide_eq_false h0j, cmpStr_swap]
      cases isEntry (a0.getD j (ByteArray.empty, (0, (0, [])))) <;> cases cmpStr (a0.getD (j - 1) (ByteArray.empty, (0, (0, [])))).1 (a0.getD j (ByteArray.empty, (0, (0, [])))).1 == -1 <;> simp
  · have e1 : decide ((a0.length : Int) ≤ 12) = decide (a0.length ≤ 12) := by simp only [decide_eq_decide]; omega
    rw [Nat.sub_self]
    simp [impl_AreEntries_L0, areFrom, e1]
def OP_impl_AreEntries (f_impl_IsEntry : TEntry → Bool) (g_impl_IsEntry : TEntry → Bool) (f_impl_CompareLabels : ByteArray → ByteArray → Int) : Orac := (orcX 53 [.val .str, .val .str] (fun d => true) (fun d => [⟨(.int .i64), f_impl_CompareLabels d.1 d.2.1⟩]) (orcX 29 [.val (.pair .str (.pair (.int .i64) (.pair (.int .i64) (.slice 9 .str))))] (fun d => g_impl_IsEntry d.1) (fun d => [⟨.bool, f_impl_IsEntry d.1⟩]) nilO))
def O_impl_AreEntries : Orac := OP_impl_AreEntries N.impl_IsEntry G.impl_IsEntry N.impl_CompareLabels
def impl_AreEntries_P_L0 {ρ : Type} (f_impl_IsEntry : TEntry → Bool) (g_impl_IsEntry : TEntry → Bool) (f_impl_CompareLabels : ByteArray → ByteArray → Int) (k : Bool → Option ρ) (L0 : (List TEntry) → (List TEntry) → Int → Int → Option ρ) (v0_0 : (List TEntry)) (v0_1 : (List TEntry)) (v0_2 : Int) (v0_3 : Int) : Option ρ := (cond (decide (v0_3 < v0_2)) (cond (inRange v0_3 (List.length v0_1)) (cond (g_impl_IsEntry (List.getD v0_1 (Int.toNat v0_3) (ByteArray.empty, ((0 : Int), ((0 : Int), []))))) (cond (!(f_impl_IsEntry (List.getD v0_1 (Int.toNat v0_3) (ByteArray.empty, ((0 : Int), ((0 : Int), [])))))) (k false) (cond (decide (v0_3 > (0 : Int))) (cond (inRange (IntKind.wrap .i64 (v0_3 - (1 : Int))) (List.length v0_0)) (cond (decide ((f_impl_CompareLabels (List.getD v0_1 (Int.toNat v0_3) (ByteArray.empty, ((0 : Int), ((0 : Int), [])))).1 (List.getD v0_0 (Int.toNat (IntKind.wrap .i64 (v0_3 - (1 : Int)))) (ByteArray.empty, ((0 : Int), ((0 : Int), [])))).1) ≤ (0 : Int))) (k false) (L0 v0_0 v0_1 v0_2 (IntKind.wrap .i64 (v0_3 + (1 : Int))))) none) (L0 v0_0 v0_1 v0_2 (IntKind.wrap .i64 (v0_3 + (1 : Int)))))) none) none) (k (decide ((List.length v0_0 : Int) ≤ (12 : Int)))))
def impl_AreEntries_P {ρ : Type} (f_impl_IsEntry : TEntry → Bool) (g_impl_IsEntry : TEntry → Bool) (f_impl_CompareLabels : ByteArray → ByteArray → Int) (k : Bool → Option ρ) (L0 : (List TEntry) → (List TEntry) → Int → Int → Option ρ) (a0 : (List TEntry)) : Option ρ := (L0 a0 a0 (List.length a0 : Int) (0 : Int))
theorem ok_impl_AreEntries : OracOk Try.prog sigs O_impl_AreEntries := (orcX_ok rfl (fun d g => said_impl_CompareLabels d.1 d.2.1) (orcX_ok rfl (fun d g => said_impl_IsEntry d.1 g) nilO_ok))
def A_impl_AreEntries : Ann := fun b => cond (Nat.beq b 0) ⟨[(0, false), (5, false), (6, false), (7, false)], []⟩ (⟨[], []⟩)
def S_impl_AreEntries_0 (v0_0 : (List TEntry)) (v0_1 : (List TEntry)) (v0_2 : Int) (v0_3 : Int) : St := [(kT 0, some (.tv (.v (.slice 28 (.pair .str (.pair (.int .i64) (.pair (.int .i64) (.slice 9 .str))))) v0_0 .no))), (kT 5, some (.tv (.v (.slice 28 (.pair .str (.pair (.int .i64) (.pair (.int .i64) (.slice 9 .str))))) v0_1 .no))), (kT 6, some (.tv (.v (.int .i64) v0_2 .no))), (kT 7, some (.tv (.v (.int .i64) v0_3 .no)))]
noncomputable def L_P_impl_AreEntries_0 (f_impl_IsEntry : TEntry → Bool) (g_impl_IsEntry : TEntry → Bool) (f_impl_CompareLabels : ByteArray → ByteArray → Int) (n m : Nat) : St → Option Ret := loopOf tab sigs (OP_impl_AreEntries f_impl_IsEntry g_impl_IsEntry f_impl_CompareLabels) A_impl_AreEntries Try.f31 [(.bool, .no)] n (fun _ => 0) 0 m
noncomputable def L_impl_AreEntries_0 (n m : Nat) : St → Option Ret := L_P_impl_AreEntries_0 N.impl_IsEntry G.impl_IsEntry N.impl_CompareLabels n m
theorem bP_impl_AreEntries_0 (f_impl_IsEntry : TEntry → Bool) (g_impl_IsEntry : TEntry → Bool) (f_impl_CompareLabels : ByteArray → ByteArray → Int) (n m : Nat) (v0_0 : (List TEntry)) (v0_1 : (List TEntry)) (v0_2 : Int) (v0_3 : Int) : L_P_impl_AreEntries_0 f_impl_IsEntry g_impl_IsEntry f_impl_CompareLabels n (m + 1) (S_impl_AreEntries_0 v0_0 v0_1 v0_2 v0_3) = impl_AreEntries_P_L0 f_impl_IsEntry g_impl_IsEntry f_impl_CompareLabels (fun r0 => some [⟨.bool, r0⟩]) (fun v0_0 v0_1 v0_2 v0_3 => L_P_impl_AreEntries_0 f_impl_IsEntry g_impl_IsEntry f_impl_CompareLabels n m (S_impl_AreEntries_0 v0_0 v0_1 v0_2 v0_3)) v0_0 v0_1 v0_2 v0_3 := by kernel_rfl
theorem b_impl_AreEntries_0 (n m : Nat) (v0_0 : (List TEntry)) (v0_1 : (List TEntry)) (v0_2 : Int) (v0_3 : Int) : L_impl_AreEntries_0 n (m + 1) (S_impl_AreEntries_0 v0_0 v0_1 v0_2 v0_3) = impl_AreEntries_L0 (fun r0 => some [⟨.bool, r0⟩]) (fun v0_0 v0_1 v0_2 v0_3 => L_impl_AreEntries_0 n m (S_impl_AreEntries_0 v0_0 v0_1 v0_2 v0_3)) v0_0 v0_1 v0_2 v0_3 := bP_impl_AreEntries_0 N.impl_IsEntry G.impl_IsEntry N.impl_CompareLabels n m v0_0 v0_1 v0_2 v0_3
theorem aP_impl_AreEntries (f_impl_IsEntry : TEntry → Bool) (g_impl_IsEntry : TEntry → Bool) (f_impl_CompareLabels : ByteArray → ByteArray → Int) (n : Nat) (a0 : (List TEntry)) : absF tab sigs (OP_impl_AreEntries f_impl_IsEntry g_impl_IsEntry f_impl_CompareLabels) A_impl_AreEntries Try.f31 [(.bool, .no)] n [.val (.slice 28 (.pair .str (.pair (.int .i64) (.pair (.int .i64) (.slice 9 .str))))) a0] = impl_AreEntries_P f_impl_IsEntry g_impl_IsEntry f_impl_CompareLabels (fun r0 => some [⟨.bool, r0⟩]) (fun v0_0 v0_1 v0_2 v0_3 => L_P_impl_AreEntries_0 f_impl_IsEntry g_impl_IsEntry f_impl_CompareLabels n n (S_impl_AreEntries_0 v0_0 v0_1 v0_2 v0_3)) a0 := by kernel_rfl
theorem a_impl_AreEntries (n : Nat) (a0 : (List TEntry)) : absF tab sigs O_impl_AreEntries A_impl_AreEntries Try.f31 [(.bool, .no)] n [.val (.slice 28 (.pair .str (.pair (.int .i64) (.pair (.int .i64) (.slice 9 .str))))) a0] = impl_AreEntries (fun r0 => some [⟨.bool, r0⟩]) (fun v0_0 v0_1 v0_2 v0_3 => L_impl_AreEntries_0 n n (S_impl_AreEntries_0 v0_0 v0_1 v0_2 v0_3)) a0 := aP_impl_AreEntries N.impl_IsEntry G.impl_IsEntry N.impl_CompareLabels n a0
theorem said_impl_AreEntries (a0 : (List TEntry)) (g : G.impl_AreEntries a0 = true) : Said Try.prog sigs_31 31 [.val (.slice 28 (.pair .str (.pair (.int .i64) (.pair (.int .i64) (.slice 9 .str))))) a0] [⟨.bool, N.impl_AreEntries a0⟩] := said_len (T := tab) (A := A_impl_AreEntries) tabOk ok_impl_AreEntries tabOk.follows Try.func31 (by kernel_rfl) (by kernel_rfl) (fun hl => let ⟨n, hn⟩ := impl_AreEntries_ok (ρ := Ret) (fun r0 => some [⟨.bool, r0⟩]) a0 hl.1 g; ⟨n, (a_impl_AreEntries n a0).trans (hn n (Nat.le_refl n) (fun  m v0_0 v0_1 v0_2 v0_3 => L_impl_AreEntries_0 n  m (S_impl_AreEntries_0 v0_0 v0_1 v0_2 v0_3)) (fun  m v0_0 v0_1 v0_2 v0_3 => b_impl_AreEntries_0 n  m v0_0 v0_1 v0_2 v0_3))⟩)
end Go.Proofs.Ythiiialbkppmnaa.Ref
