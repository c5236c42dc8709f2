/- Functions of the program: what each computes, and that it does so.
   Conditions: as each theorem states. -/
import Derived.Test.YthiiialbkppmnaaSB1
set_option linter.unusedVariables false
set_option linter.unusedSimpArgs false
set_option maxRecDepth 100000
namespace Go.Proofs.Ythiiialbkppmnaa.Ref
open Go.RowKit Go.Proofs.YthiiialbkppmnaaW.PrintWords Go.Proofs.YthiiialbkppmnaaW.PrintLast
/-! impl.isDigest -/
abbrev N.impl_isDigest (n : Int) : Bool := isDigest n
def impl_isDigest {ρ : Type} (k : Bool → Option ρ) (a0 : Int) : Option ρ := (k (N.impl_InRange a0 (0 : Int) (2147483646 : Int)))
theorem impl_isDigest_ok {ρ : Type} (k : Bool → Option ρ) (a0 : Int) : impl_isDigest k  a0 = k (N.impl_isDigest a0) := by
  rfl
def OP_impl_isDigest (f_impl_InRange : Int → Int → Int → Bool) : Orac := (orcX 49 [.val (.int .i64), .val (.int .i64), .val (.int .i64)] (fun d => true) (fun d => [⟨.bool, f_impl_InRange d.1 d.2.1 d.2.2.1⟩]) nilO)
def O_impl_isDigest : Orac := OP_impl_isDigest N.impl_InRange
def impl_isDigest_P {ρ : Type} (f_impl_InRange : Int → Int → Int → Bool) (k : Bool → Option ρ) (a0 : Int) : Option ρ := (k (f_impl_InRange a0 (0 : Int) (2147483646 : Int)))
theorem ok_impl_isDigest : OracOk Try.prog sigs O_impl_isDigest := (orcX_ok rfl (fun d g => said_impl_InRange d.1 d.2.1 d.2.2.1) nilO_ok)
def A_impl_isDigest : Ann := fun b => ⟨[], []⟩
theorem aP_impl_isDigest (f_impl_InRange : Int → Int → Int → Bool) (n : Nat) (a0 : Int) : absF tab sigs (OP_impl_isDigest f_impl_InRange) A_impl_isDigest Try.f50 [(.bool, .no)] n [.val (.int .i64) a0] = impl_isDigest_P f_impl_InRange (fun r0 => some [⟨.bool, r0⟩])  a0 := by kernel_rfl
theorem a_impl_isDigest (n : Nat) (a0 : Int) : absF tab sigs O_impl_isDigest A_impl_isDigest Try.f50 [(.bool, .no)] n [.val (.int .i64) a0] = impl_isDigest (fun r0 => some [⟨.bool, r0⟩])  a0 := aP_impl_isDigest N.impl_InRange n a0
theorem said_impl_isDigest (a0 : Int) : Said Try.prog sigs_50 50 [.val (.int .i64) a0] [⟨.bool, N.impl_isDigest a0⟩] := said_len (T := tab) (A := A_impl_isDigest) tabOk ok_impl_isDigest tabOk.follows Try.func50 (by kernel_rfl) (by kernel_rfl) (fun hl => ⟨0, (a_impl_isDigest 0 a0).trans (impl_isDigest_ok (ρ := Ret) (fun r0 => some [⟨.bool, r0⟩]) a0)⟩)
/-! impl.IsPath$1 -/
abbrev G.impl_IsPath_s1 (s : ByteArray) : Bool := decide (s.size ≤ 1048576)
abbrev N.impl_IsPath_s1 (s : ByteArray) : Bool := !(isLabel s)
def impl_IsPath_s1 {ρ : Type} (k : Bool → Option ρ) (a0 : ByteArray) : Option ρ := (cond (G.impl_IsLabel a0) (k (!(N.impl_IsLabel a0))) none)
theorem impl_IsPath_s1_ok {ρ : Type} (k : Bool → Option ρ) (a0 : ByteArray) (g : G.impl_IsPath_s1 a0 = true) : impl_IsPath_s1 k  a0 = k (N.impl_IsPath_s1 a0) := by
  unfold G.impl_IsPath_s1 at g
  show cond (decide (a0.size ≤ 1048576)) _ none = _
  rw [g]
  rfl
def OP_impl_IsPath_s1 (f_impl_IsLabel : ByteArray → Bool) (g_impl_IsLabel : ByteArray → Bool) : Orac := (orcX 48 [.val .str] (fun d => g_impl_IsLabel d.1) (fun d => [⟨.bool, f_impl_IsLabel d.1⟩]) nilO)
def O_impl_IsPath_s1 : Orac := OP_impl_IsPath_s1 N.impl_IsLabel G.impl_IsLabel
def impl_IsPath_s1_P {ρ : Type} (f_impl_IsLabel : ByteArray → Bool) (g_impl_IsLabel : ByteArray → Bool) (k : Bool → Option ρ) (a0 : ByteArray) : Option ρ := (cond (g_impl_IsLabel a0) (k (!(f_impl_IsLabel a0))) none)
theorem ok_impl_IsPath_s1 : OracOk Try.prog sigs O_impl_IsPath_s1 := (orcX_ok rfl (fun d g => said_impl_IsLabel d.1 g) nilO_ok)
def A_impl_IsPath_s1 : Ann := fun b => ⟨[], []⟩
theorem aP_impl_IsPath_s1 (f_impl_IsLabel : ByteArray → Bool) (g_impl_IsLabel : ByteArray → Bool) (n : Nat) (a0 : ByteArray) : absF tab sigs (OP_impl_IsPath_s1 f_impl_IsLabel g_impl_IsLabel) A_impl_IsPath_s1 Try.f62 [(.bool, .no)] n [.val .str a0] = impl_IsPath_s1_P f_impl_IsLabel g_impl_IsLabel (fun r0 => some [⟨.bool, r0⟩])  a0 := by kernel_rfl
theorem a_impl_IsPath_s1 (n : Nat) (a0 : ByteArray) : absF tab sigs O_impl_IsPath_s1 A_impl_IsPath_s1 Try.f62 [(.bool, .no)] n [.val .str a0] = impl_IsPath_s1 (fun r0 => some [⟨.bool, r0⟩])  a0 := aP_impl_IsPath_s1 N.impl_IsLabel G.impl_IsLabel n a0
theorem said_impl_IsPath_s1 (a0 : ByteArray) (g : G.impl_IsPath_s1 a0 = true) : Said Try.prog sigs_62 62 [.val .str a0] [⟨.bool, N.impl_IsPath_s1 a0⟩] := said_len (T := tab) (A := A_impl_IsPath_s1) tabOk ok_impl_IsPath_s1 tabOk.follows Try.func62 (by kernel_rfl) (by kernel_rfl) (fun hl => ⟨0, (a_impl_IsPath_s1 0 a0).trans (impl_IsPath_s1_ok (ρ := Ret) (fun r0 => some [⟨.bool, r0⟩]) a0 g)⟩)
/-! slices.IndexFunc[[]string,string] -/
abbrev G.slices_IndexFunc_string__impl_IsPath_s1 (p : List ByteArray) : Bool := decide (wP p ≤ 1048576)
abbrev N.slices_IndexFunc_string__impl_IsPath_s1 (p : List ByteArray) : Int := idxFrom (fun s => !(isLabel s)) 0 p
def slices_IndexFunc_string__impl_IsPath_s1_L0 {ρ : Type} (k : Int → Option ρ) (L0 : (List ByteArray) → Int → Int → Option ρ) (v0_0 : (List ByteArray)) (v0_1 : Int) (v0_2 : Int) : Option ρ := (cond (decide (v0_2 < v0_1)) (cond (inRange v0_2 (List.length v0_0)) (cond (G.impl_IsPath_s1 (List.getD v0_0 (Int.toNat v0_2) ByteArray.empty)) (cond (N.impl_IsPath_s1 (List.getD v0_0 (Int.toNat v0_2) ByteArray.empty)) (k v0_2) (L0 v0_0 v0_1 (IntKind.wrap .i64 (v0_2 + (1 : Int))))) none) none) (k (-1 : Int)))
def slices_IndexFunc_string__impl_IsPath_s1 {ρ : Type} (k : Int → Option ρ) (L0 : (List ByteArray) → Int → Int → Option ρ) (a0 : (List ByteArray)) : Option ρ := (L0 a0 (List.length a0 : Int) (0 : Int))
theorem slices_IndexFunc_string__impl_IsPath_s1_ok {ρ : Type} (k : Int → Option ρ) (a0 : (List ByteArray)) (l_a0 : lnL (fun _ => True) a0) (g : G.slices_IndexFunc_string__impl_IsPath_s1 a0 = true) : ∃ n0, ∀ n, n0 ≤ n → ∀ (L0 : Nat → (List ByteArray) → Int → Int → Option ρ) (h0 : ∀ ( m : Nat) (v0_0 : (List ByteArray)) (v0_1 : Int) (v0_2 : Int), L0 (m + 1) v0_0 v0_1 v0_2 = slices_IndexFunc_string__impl_IsPath_s1_L0 k (L0 m) v0_0 v0_1 v0_2), slices_IndexFunc_string__impl_IsPath_s1 k (L0 n) a0 = k (N.slices_IndexFunc_string__impl_IsPath_s1 a0) := by
  unfold G.slices_IndexFunc_string__impl_IsPath_s1 at g
  have hw : wP a0 ≤ 1048576 := of_decide_eq_true g
  have hl : a0.length ≤ 1048576 := by unfold wP at hw; omega
  refine ⟨a0.length + 1, fun n hn L0 h0 => ?_⟩
  refine raw_idx (a := a0) ByteArray.empty (fun s => !(isLabel s)) (k := k) (σ := Unit) (s := ()) (L := fun m i _ => L0 m a0 (a0.length : Int) i) (R := fun i s c => slices_IndexFunc_string__impl_IsPath_s1_L0 k (fun _ _ i => c i ()) a0 (a0.length : Int) i) (fun m i s => h0 m a0 (a0.length : Int) i) (fun j s c hj => ?_) (fun s c => ?_) hn
  · have hm := wP_mem (getD_mem (d := ByteArray.empty) hj)
    have g2 : decide ((a0.getD j ByteArray.empty).size ≤ 1048576) = true := by simp only [decide_eq_true_eq]; omega
    simp only [slices_IndexFunc_string__impl_IsPath_s1_L0, lt_nat, inRange_nat, decide_eq_true hj, cond_true, Int.toNat_natCast, G.impl_IsPath_s1, N.impl_IsPath_s1, g2, wrap_succ (j := j) (by unfold big; omega)]
  · simp [slices_IndexFunc_string__impl_IsPath_s1_L0]
def OP_slices_IndexFunc_string__impl_IsPath_s1 (f_impl_IsPath_s1 : ByteArray → Bool) (g_impl_IsPath_s1 : ByteArray → Bool) : Orac := (orcX 62 [.val .str] (fun d => g_impl_IsPath_s1 d.1) (fun d => [⟨.bool, f_impl_IsPath_s1 d.1⟩]) nilO)
def O_slices_IndexFunc_string__impl_IsPath_s1 : Orac := OP_slices_IndexFunc_string__impl_IsPath_s1 N.impl_IsPath_s1 G.impl_IsPath_s1
def slices_IndexFunc_string__impl_IsPath_s1_P_L0 {ρ : Type} (f_impl_IsPath_s1 : ByteArray → Bool) (g_impl_IsPath_s1 : ByteArray → Bool) (k : Int → Option ρ) (L0 : (List ByteArray) → Int → Int → Option ρ) (v0_0 : (List ByteArray)) (v0_1 : Int) (v0_2 : Int) : Option ρ := (cond (decide (v0_2 < v0_1)) (cond (inRange v0_2 (List.length v0_0)) (cond (g_impl_IsPath_s1 (List.getD v0_0 (Int.toNat v0_2) ByteArray.empty)) (cond (f_impl_IsPath_s1 (List.getD v0_0 (Int.toNat v0_2) ByteArray.empty)) (k v0_2) (L0 v0_0 v0_1 (IntKind.wrap .i64 (v0_2 + (1 : Int))))) none) none) (k (-1 : Int)))
def slices_IndexFunc_string__impl_IsPath_s1_P {ρ : Type} (f_impl_IsPath_s1 : ByteArray → Bool) (g_impl_IsPath_s1 : ByteArray → Bool) (k : Int → Option ρ) (L0 : (List ByteArray) → Int → Int → Option ρ) (a0 : (List ByteArray)) : Option ρ := (L0 a0 (List.length a0 : Int) (0 : Int))
theorem ok_slices_IndexFunc_string__impl_IsPath_s1 : OracOk Try.prog sigs O_slices_IndexFunc_string__impl_IsPath_s1 := (orcX_ok rfl (fun d g => said_impl_IsPath_s1 d.1 g) nilO_ok)
def A_slices_IndexFunc_string__impl_IsPath_s1 : Ann := fun b => cond (Nat.beq b 0) ⟨[(0, false), (1, false), (7, false), (8, false)], []⟩ (⟨[], []⟩)
def S_slices_IndexFunc_string__impl_IsPath_s1_0 (v0_0 : (List ByteArray)) (v0_1 : Int) (v0_2 : Int) : St := [(kT 0, some (.tv (.v (.slice 9 .str) v0_0 .no))), (kT 1, some (.tv (.clo 62 []))), (kT 7, some (.tv (.v (.int .i64) v0_1 .no))), (kT 8, some (.tv (.v (.int .i64) v0_2 .no)))]
noncomputable def L_P_slices_IndexFunc_string__impl_IsPath_s1_0 (f_impl_IsPath_s1 : ByteArray → Bool) (g_impl_IsPath_s1 : ByteArray → Bool) (n m : Nat) : St → Option Ret := loopOf tab sigs (OP_slices_IndexFunc_string__impl_IsPath_s1 f_impl_IsPath_s1 g_impl_IsPath_s1) A_slices_IndexFunc_string__impl_IsPath_s1 Try.f66 [((.int .i64), .no)] n (fun _ => 0) 0 m
noncomputable def L_slices_IndexFunc_string__impl_IsPath_s1_0 (n m : Nat) : St → Option Ret := L_P_slices_IndexFunc_string__impl_IsPath_s1_0 N.impl_IsPath_s1 G.impl_IsPath_s1 n m
theorem bP_slices_IndexFunc_string__impl_IsPath_s1_0 (f_impl_IsPath_s1 : ByteArray → Bool) (g_impl_IsPath_s1 : ByteArray → Bool) (n m : Nat) (v0_0 : (List ByteArray)) (v0_1 : Int) (v0_2 : Int) : L_P_slices_IndexFunc_string__impl_IsPath_s1_0 f_impl_IsPath_s1 g_impl_IsPath_s1 n (m + 1) (S_slices_IndexFunc_string__impl_IsPath_s1_0 v0_0 v0_1 v0_2) = slices_IndexFunc_string__impl_IsPath_s1_P_L0 f_impl_IsPath_s1 g_impl_IsPath_s1 (fun r0 => some [⟨(.int .i64), r0⟩]) (fun v0_0 v0_1 v0_2 => L_P_slices_IndexFunc_string__impl_IsPath_s1_0 f_impl_IsPath_s1 g_impl_IsPath_s1 n m (S_slices_IndexFunc_string__impl_IsPath_s1_0 v0_0 v0_1 v0_2)) v0_0 v0_1 v0_2 := by kernel_rfl
theorem b_slices_IndexFunc_string__impl_IsPath_s1_0 (n m : Nat) (v0_0 : (List ByteArray)) (v0_1 : Int) (v0_2 : Int) : L_slices_IndexFunc_string__impl_IsPath_s1_0 n (m + 1) (S_slices_IndexFunc_string__impl_IsPath_s1_0 v0_0 v0_1 v0_2) = slices_IndexFunc_string__impl_IsPath_s1_L0 (fun r0 => some [⟨(.int .i64), r0⟩]) (fun v0_0 v0_1 v0_2 => L_slices_IndexFunc_string__impl_IsPath_s1_0 n m (S_slices_IndexFunc_string__impl_IsPath_s1_0 v0_0 v0_1 v0_2)) v0_0 v0_1 v0_2 := bP_slices_IndexFunc_string__impl_IsPath_s1_0 N.impl_IsPath_s1 G.impl_IsPath_s1 n m v0_0 v0_1 v0_2
theorem aP_slices_IndexFunc_string__impl_IsPath_s1 (f_impl_IsPath_s1 : ByteArray → Bool) (g_impl_IsPath_s1 : ByteArray → Bool) (n : Nat) (a0 : (List ByteArray)) : absF tab sigs (OP_slices_IndexFunc_string__impl_IsPath_s1 f_impl_IsPath_s1 g_impl_IsPath_s1) A_slices_IndexFunc_string__impl_IsPath_s1 Try.f66 [((.int .i64), .no)] n [.val (.slice 9 .str) a0, .clo 62 []] = slices_IndexFunc_string__impl_IsPath_s1_P f_impl_IsPath_s1 g_impl_IsPath_s1 (fun r0 => some [⟨(.int .i64), r0⟩]) (fun v0_0 v0_1 v0_2 => L_P_slices_IndexFunc_string__impl_IsPath_s1_0 f_impl_IsPath_s1 g_impl_IsPath_s1 n n (S_slices_IndexFunc_string__impl_IsPath_s1_0 v0_0 v0_1 v0_2)) a0 := by kernel_rfl
theorem a_slices_IndexFunc_string__impl_IsPath_s1 (n : Nat) (a0 : (List ByteArray)) : absF tab sigs O_slices_IndexFunc_string__impl_IsPath_s1 A_slices_IndexFunc_string__impl_IsPath_s1 Try.f66 [((.int .i64), .no)] n [.val (.slice 9 .str) a0, .clo 62 []] = slices_IndexFunc_string__impl_IsPath_s1 (fun r0 => some [⟨(.int .i64), r0⟩]) (fun v0_0 v0_1 v0_2 => L_slices_IndexFunc_string__impl_IsPath_s1_0 n n (S_slices_IndexFunc_string__impl_IsPath_s1_0 v0_0 v0_1 v0_2)) a0 := aP_slices_IndexFunc_string__impl_IsPath_s1 N.impl_IsPath_s1 G.impl_IsPath_s1 n a0
theorem said_slices_IndexFunc_string__impl_IsPath_s1 (a0 : (List ByteArray)) (g : G.slices_IndexFunc_string__impl_IsPath_s1 a0 = true) : Said Try.prog sigs_66 66 [.val (.slice 9 .str) a0, .clo 62 []] [⟨(.int .i64), N.slices_IndexFunc_string__impl_IsPath_s1 a0⟩] := said_len (T := tab) (A := A_slices_IndexFunc_string__impl_IsPath_s1) tabOk ok_slices_IndexFunc_string__impl_IsPath_s1 tabOk.follows Try.func66 (by kernel_rfl) (by kernel_rfl) (fun hl => let ⟨n, hn⟩ := slices_IndexFunc_string__impl_IsPath_s1_ok (ρ := Ret) (fun r0 => some [⟨(.int .i64), r0⟩]) a0 hl.1 g; ⟨n, (a_slices_IndexFunc_string__impl_IsPath_s1 n a0).trans (hn n (Nat.le_refl n) (fun  m v0_0 v0_1 v0_2 => L_slices_IndexFunc_string__impl_IsPath_s1_0 n  m (S_slices_IndexFunc_string__impl_IsPath_s1_0 v0_0 v0_1 v0_2)) (fun  m v0_0 v0_1 v0_2 => b_slices_IndexFunc_string__impl_IsPath_s1_0 n  m v0_0 v0_1 v0_2))⟩)
/-! slices.ContainsFunc[[]string,string] -/
abbrev G.slices_ContainsFunc_string__impl_IsPath_s1 (p : List ByteArray) : Bool := decide (wP p ≤ 1048576)
abbrev N.slices_ContainsFunc_string__impl_IsPath_s1 (p : List ByteArray) : Bool := p.any (fun s => !(isLabel s))
def slices_ContainsFunc_string__impl_IsPath_s1 {ρ : Type} (k : Bool → Option ρ) (a0 : (List ByteArray)) : Option ρ := (cond (G.slices_IndexFunc_string__impl_IsPath_s1 a0) (k (decide ((N.slices_IndexFunc_string__impl_IsPath_s1 a0) ≥ (0 : Int)))) none)
theorem slices_ContainsFunc_string__impl_IsPath_s1_ok {ρ : Type} (k : Bool → Option ρ) (a0 : (List ByteArray)) (l_a0 : lnL (fun _ => True) a0) (g : G.slices_ContainsFunc_string__impl_IsPath_s1 a0 = true) : slices_ContainsFunc_string__impl_IsPath_s1 k  a0 = k (N.slices_ContainsFunc_string__impl_IsPath_s1 a0) := by
  unfold G.slices_ContainsFunc_string__impl_IsPath_s1 at g
  show cond (decide (wP a0 ≤ 1048576)) _ none = _
  rw [g]
  show k (decide (idxFrom (fun s => !(isLabel s)) 0 a0 ≥ 0)) = _
  rw [idxFrom_any]
def OP_slices_ContainsFunc_string__impl_IsPath_s1 (f_slices_IndexFunc_string__impl_IsPath_s1 : (List ByteArray) → Int) (g_slices_IndexFunc_string__impl_IsPath_s1 : (List ByteArray) → Bool) : Orac := (orcX 66 [.val (.slice 9 .str), .clo 62 []] (fun d => g_slices_IndexFunc_string__impl_IsPath_s1 d.1) (fun d => [⟨(.int .i64), f_slices_IndexFunc_string__impl_IsPath_s1 d.1⟩]) nilO)
def O_slices_ContainsFunc_string__impl_IsPath_s1 : Orac := OP_slices_ContainsFunc_string__impl_IsPath_s1 N.slices_IndexFunc_string__impl_IsPath_s1 G.slices_IndexFunc_string__impl_IsPath_s1
def slices_ContainsFunc_string__impl_IsPath_s1_P {ρ : Type} (f_slices_IndexFunc_string__impl_IsPath_s1 : (List ByteArray) → Int) (g_slices_IndexFunc_string__impl_IsPath_s1 : (List ByteArray) → Bool) (k : Bool → Option ρ) (a0 : (List ByteArray)) : Option ρ := (cond (g_slices_IndexFunc_string__impl_IsPath_s1 a0) (k (decide ((f_slices_IndexFunc_string__impl_IsPath_s1 a0) ≥ (0 : Int)))) none)
theorem ok_slices_ContainsFunc_string__impl_IsPath_s1 : OracOk Try.prog sigs O_slices_ContainsFunc_string__impl_IsPath_s1 := (orcX_ok rfl (fun d g => said_slices_IndexFunc_string__impl_IsPath_s1 d.1 g) nilO_ok)
def A_slices_ContainsFunc_string__impl_IsPath_s1 : Ann := fun b => ⟨[], []⟩
theorem aP_slices_ContainsFunc_string__impl_IsPath_s1 (f_slices_IndexFunc_string__impl_IsPath_s1 : (List ByteArray) → Int) (g_slices_IndexFunc_string__impl_IsPath_s1 : (List ByteArray) → Bool) (n : Nat) (a0 : (List ByteArray)) : absF tab sigs (OP_slices_ContainsFunc_string__impl_IsPath_s1 f_slices_IndexFunc_string__impl_IsPath_s1 g_slices_IndexFunc_string__impl_IsPath_s1) A_slices_ContainsFunc_string__impl_IsPath_s1 Try.f61 [(.bool, .no)] n [.val (.slice 9 .str) a0, .clo 62 []] = slices_ContainsFunc_string__impl_IsPath_s1_P f_slices_IndexFunc_string__impl_IsPath_s1 g_slices_IndexFunc_string__impl_IsPath_s1 (fun r0 => some [⟨.bool, r0⟩])  a0 := by kernel_rfl
theorem a_slices_ContainsFunc_string__impl_IsPath_s1 (n : Nat) (a0 : (List ByteArray)) : absF tab sigs O_slices_ContainsFunc_string__impl_IsPath_s1 A_slices_ContainsFunc_string__impl_IsPath_s1 Try.f61 [(.bool, .no)] n [.val (.slice 9 .str) a0, .clo 62 []] = slices_ContainsFunc_string__impl_IsPath_s1 (fun r0 => some [⟨.bool, r0⟩])  a0 := aP_slices_ContainsFunc_string__impl_IsPath_s1 N.slices_IndexFunc_string__impl_IsPath_s1 G.slices_IndexFunc_string__impl_IsPath_s1 n a0
theorem said_slices_ContainsFunc_string__impl_IsPath_s1 (a0 : (List ByteArray)) (g : G.slices_ContainsFunc_string__impl_IsPath_s1 a0 = true) : Said Try.prog sigs_61 61 [.val (.slice 9 .str) a0, .clo 62 []] [⟨.bool, N.slices_ContainsFunc_string__impl_IsPath_s1 a0⟩] := said_len (T := tab) (A := A_slices_ContainsFunc_string__impl_IsPath_s1) tabOk ok_slices_ContainsFunc_string__impl_IsPath_s1 tabOk.follows Try.func61 (by kernel_rfl) (by kernel_rfl) (fun hl => ⟨0, (a_slices_ContainsFunc_string__impl_IsPath_s1 0 a0).trans (slices_ContainsFunc_string__impl_IsPath_s1_ok (ρ := Ret) (fun r0 => some [⟨.bool, r0⟩]) a0 hl.1 g)⟩)
/-! impl.IsPath -/
abbrev G.impl_IsPath (p : List ByteArray) : Bool := decide (wP p ≤ 1048576)
abbrev N.impl_IsPath (p : List ByteArray) : Bool := isPath p
def impl_IsPath {ρ : Type} (k : Bool → Option ρ) (a0 : (List ByteArray)) : Option ρ := (cond (N.impl_InRange (List.length a0 : Int) (1 : Int) (4 : Int)) (cond (G.slices_ContainsFunc_string__impl_IsPath_s1 a0) (k (!(N.slices_ContainsFunc_string__impl_IsPath_s1 a0))) none) (k false))
theorem impl_IsPath_ok {ρ : Type} (k : Bool → Option ρ) (a0 : (List ByteArray)) (l_a0 : lnL (fun _ => True) a0) (g : G.impl_IsPath a0 = true) : impl_IsPath k  a0 = k (N.impl_IsPath a0) := by
  unfold G.impl_IsPath at g
  show cond (inR (a0.length : Int) 1 4) (cond (decide (wP a0 ≤ 1048576)) (k (!(a0.any (fun s => !(isLabel s))))) none) (k false) = k (inR (a0.length : Int) 1 4 && a0.all isLabel)
  rw [g, any_not]
  cases inR (a0.length : Int) 1 4 <;> rfl
def OP_impl_IsPath (f_impl_InRange : Int → Int → Int → Bool) (f_slices_ContainsFunc_string__impl_IsPath_s1 : (List ByteArray) → Bool) (g_slices_ContainsFunc_string__impl_IsPath_s1 : (List ByteArray) → Bool) : Orac := (orcX 61 [.val (.slice 9 .str), .clo 62 []] (fun d => g_slices_ContainsFunc_string__impl_IsPath_s1 d.1) (fun d => [⟨.bool, f_slices_ContainsFunc_string__impl_IsPath_s1 d.1⟩]) (orcX 49 [.val (.int .i64), .val (.int .i64), .val (.int .i64)] (fun d => true) (fun d => [⟨.bool, f_impl_InRange d.1 d.2.1 d.2.2.1⟩]) nilO))
def O_impl_IsPath : Orac := OP_impl_IsPath N.impl_InRange N.slices_ContainsFunc_string__impl_IsPath_s1 G.slices_ContainsFunc_string__impl_IsPath_s1
def impl_IsPath_P {ρ : Type} (f_impl_InRange : Int → Int → Int → Bool) (f_slices_ContainsFunc_string__impl_IsPath_s1 : (List ByteArray) → Bool) (g_slices_ContainsFunc_string__impl_IsPath_s1 : (List ByteArray) → Bool) (k : Bool → Option ρ) (a0 : (List ByteArray)) : Option ρ := (cond (f_impl_InRange (List.length a0 : Int) (1 : Int) (4 : Int)) (cond (g_slices_ContainsFunc_string__impl_IsPath_s1 a0) (k (!(f_slices_ContainsFunc_string__impl_IsPath_s1 a0))) none) (k false))
theorem ok_impl_IsPath : OracOk Try.prog sigs O_impl_IsPath := (orcX_ok rfl (fun d g => said_slices_ContainsFunc_string__impl_IsPath_s1 d.1 g) (orcX_ok rfl (fun d g => said_impl_InRange d.1 d.2.1 d.2.2.1) nilO_ok))
def A_impl_IsPath : Ann := fun b => ⟨[], []⟩
theorem aP_impl_IsPath (f_impl_InRange : Int → Int → Int → Bool) (f_slices_ContainsFunc_string__impl_IsPath_s1 : (List ByteArray) → Bool) (g_slices_ContainsFunc_string__impl_IsPath_s1 : (List ByteArray) → Bool) (n : Nat) (a0 : (List ByteArray)) : absF tab sigs (OP_impl_IsPath f_impl_InRange f_slices_ContainsFunc_string__impl_IsPath_s1 g_slices_ContainsFunc_string__impl_IsPath_s1) A_impl_IsPath Try.f51 [(.bool, .no)] n [.val (.slice 9 .str) a0] = impl_IsPath_P f_impl_InRange f_slices_ContainsFunc_string__impl_IsPath_s1 g_slices_ContainsFunc_string__impl_IsPath_s1 (fun r0 => some [⟨.bool, r0⟩])  a0 := by kernel_rfl
theorem a_impl_IsPath (n : Nat) (a0 : (List ByteArray)) : absF tab sigs O_impl_IsPath A_impl_IsPath Try.f51 [(.bool, .no)] n [.val (.slice 9 .str) a0] = impl_IsPath (fun r0 => some [⟨.bool, r0⟩])  a0 := aP_impl_IsPath N.impl_InRange N.slices_ContainsFunc_string__impl_IsPath_s1 G.slices_ContainsFunc_string__impl_IsPath_s1 n a0
theorem said_impl_IsPath (a0 : (List ByteArray)) (g : G.impl_IsPath a0 = true) : Said Try.prog sigs_51 51 [.val (.slice 9 .str) a0] [⟨.bool, N.impl_IsPath a0⟩] := said_len (T := tab) (A := A_impl_IsPath) tabOk ok_impl_IsPath tabOk.follows Try.func51 (by kernel_rfl) (by kernel_rfl) (fun hl => ⟨0, (a_impl_IsPath 0 a0).trans (impl_IsPath_ok (ρ := Ret) (fun r0 => some [⟨.bool, r0⟩]) a0 hl.1 g)⟩)
/-! impl.IsEntry -/
abbrev G.impl_IsEntry (e : TEntry) : Bool := decide (wE e ≤ 1048576)
abbrev N.impl_IsEntry (e : TEntry) : Bool := isEntry e
def impl_IsEntry {ρ : Type} (k : Bool → Option ρ) (a0 : TEntry) : Option ρ := (cond (G.impl_IsLabel a0.1) (cond (!(N.impl_IsLabel a0.1)) (k false) (cond (a0.2.1 == (1 : Int)) (cond (N.impl_InRange a0.2.2.1 (0 : Int) (999999 : Int)) (k ((List.length a0.2.2.2 : Int) == (0 : Int))) (k false)) (cond (a0.2.1 == (2 : Int)) (cond (N.impl_isDigest a0.2.2.1) (k ((List.length a0.2.2.2 : Int) == (0 : Int))) (k false)) (cond (a0.2.1 == (3 : Int)) (cond (N.impl_isDigest a0.2.2.1) (cond (G.impl_IsPath a0.2.2.2) (k (N.impl_IsPath a0.2.2.2)) none) (k false)) (k false))))) none)
theorem impl_IsEntry_ok {ρ : Type} (k : Bool → Option ρ) (a0 : TEntry) (l_a0 : (True ∧ (True ∧ (True ∧ lnL (fun _ => True) a0.2.2.2)))) (g : G.impl_IsEntry a0 = true) : impl_IsEntry k  a0 = k (N.impl_IsEntry a0) := by
  unfold G.impl_IsEntry at g
  have hw : wE a0 ≤ 1048576 := of_decide_eq_true g
  have g1 : decide (a0.1.size ≤ 1048576) = true := by unfold wE at hw; simp; omega
  have g2 : decide (wP a0.2.2.2 ≤ 1048576) = true := by unfold wE at hw; simp; omega
  simp only [impl_IsEntry, G.impl_IsLabel, N.impl_IsLabel, G.impl_IsPath, N.impl_IsPath, N.impl_InRange, N.impl_isDigest, g1, g2, cond_true, isEntry]
  by_cases h1 : a0.2.1 = 1
  · have e1 : (a0.2.1 == 1) = true := by simp [h1]
    have e2 : (a0.2.1 == 2) = false := by simp [h1]
    have e3 : (a0.2.1 == 3) = false := by simp [h1]
    simp only [e1, e2, e3]
    cases isLabel a0.1 <;> cases inR a0.2.2.1 0 999999 <;> simp
  by_cases h2 : a0.2.1 = 2
  · have e1 : (a0.2.1 == 1) = false := by simp [h2]
    have e2 : (a0.2.1 == 2) = true := by simp [h2]
    have e3 : (a0.2.1 == 3) = false := by simp [h2]
    simp only [e1, e2, e3]
    cases isLabel a0.1 <;> cases isDigest a0.2.2.1 <;> simp
  have e1 : (a0.2.1 == 1) = false := by simp [h1]
  have e2 : (a0.2.1 == 2) = false := by simp [h2]
  simp only [e1, e2]
  cases a0.2.1 == 3 <;> cases isLabel a0.1 <;> cases isDigest a0.2.2.1 <;> simp
def OP_impl_IsEntry (f_impl_IsLabel : ByteArray → Bool) (g_impl_IsLabel : ByteArray → Bool) (f_impl_InRange : Int → Int → Int → Bool) (f_impl_isDigest : Int → Bool) (f_impl_IsPath : (List ByteArray) → Bool) (g_impl_IsPath : (List ByteArray) → Bool) : Orac := (orcX 51 [.val (.slice 9 .str)] (fun d => g_impl_IsPath d.1) (fun d => [⟨.bool, f_impl_IsPath d.1⟩]) (orcX 50 [.val (.int .i64)] (fun d => true) (fun d => [⟨.bool, f_impl_isDigest d.1⟩]) (orcX 49 [.val (.int .i64), .val (.int .i64), .val (.int .i64)] (fun d => true) (fun d => [⟨.bool, f_impl_InRange d.1 d.2.1 d.2.2.1⟩]) (orcX 48 [.val .str] (fun d => g_impl_IsLabel d.1) (fun d => [⟨.bool, f_impl_IsLabel d.1⟩]) nilO))))
def O_impl_IsEntry : Orac := OP_impl_IsEntry N.impl_IsLabel G.impl_IsLabel N.impl_InRange N.impl_isDigest N.impl_IsPath G.impl_IsPath
def impl_IsEntry_P {ρ : Type} (f_impl_IsLabel : ByteArray → Bool) (g_impl_IsLabel : ByteArray → Bool) (f_impl_InRange : Int → Int → Int → Bool) (f_impl_isDigest : Int → Bool) (f_impl_IsPath : (List ByteArray) → Bool) (g_impl_IsPath : (List ByteArray) → Bool) (k : Bool → Option ρ) (a0 : TEntry) : Option ρ := (cond (g_impl_IsLabel a0.1) (cond (!(f_impl_IsLabel a0.1)) (k false) (cond (a0.2.1 == (1 : Int)) (cond (f_impl_InRange a0.2.2.1 (0 : Int) (999999 : Int)) (k ((List.length a0.2.2.2 : Int) == (0 : Int))) (k false)) (cond (a0.2.1 == (2 : Int)) (cond (f_impl_isDigest a0.2.2.1) (k ((List.length a0.2.2.2 : Int) == (0 : Int))) (k false)) (cond (a0.2.1 == (3 : Int)) (cond (f_impl_isDigest a0.2.2.1) (cond (g_impl_IsPath a0.2.2.2) (k (f_impl_IsPath a0.2.2.2)) none) (k false)) (k false))))) none)
theorem ok_impl_IsEntry : OracOk Try.prog sigs O_impl_IsEntry := (orcX_ok rfl (fun d g => said_impl_IsPath d.1 g) (orcX_ok rfl (fun d g => said_impl_isDigest d.1) (orcX_ok rfl (fun d g => said_impl_InRange d.1 d.2.1 d.2.2.1) (orcX_ok rfl (fun d g => said_impl_IsLabel d.1 g) nilO_ok))))
def A_impl_IsEntry : Ann := fun b => ⟨[], []⟩
theorem aP_impl_IsEntry (f_impl_IsLabel : ByteArray → Bool) (g_impl_IsLabel : ByteArray → Bool) (f_impl_InRange : Int → Int → Int → Bool) (f_impl_isDigest : Int → Bool) (f_impl_IsPath : (List ByteArray) → Bool) (g_impl_IsPath : (List ByteArray) → Bool) (n : Nat) (a0 : TEntry) : absF tab sigs (OP_impl_IsEntry f_impl_IsLabel g_impl_IsLabel f_impl_InRange f_impl_isDigest f_impl_IsPath g_impl_IsPath) A_impl_IsEntry Try.f29 [(.bool, .no)] n [.val (.pair .str (.pair (.int .i64) (.pair (.int .i64) (.slice 9 .str)))) a0] = impl_IsEntry_P f_impl_IsLabel g_impl_IsLabel f_impl_InRange f_impl_isDigest f_impl_IsPath g_impl_IsPath (fun r0 => some [⟨.bool, r0⟩])  a0 := by kernel_rfl
theorem a_impl_IsEntry (n : Nat) (a0 : TEntry) : absF tab sigs O_impl_IsEntry A_impl_IsEntry Try.f29 [(.bool, .no)] n [.val (.pair .str (.pair (.int .i64) (.pair (.int .i64) (.slice 9 .str)))) a0] = impl_IsEntry (fun r0 => some [⟨.bool, r0⟩])  a0 := aP_impl_IsEntry N.impl_IsLabel G.impl_IsLabel N.impl_InRange N.impl_isDigest N.impl_IsPath G.impl_IsPath n a0
theorem said_impl_IsEntry (a0 : TEntry) (g : G.impl_IsEntry a0 = true) : Said Try.prog sigs_29 29 [.val (.pair .str (.pair (.int .i64) (.pair (.int .i64) (.slice 9 .str)))) a0] [⟨.bool, N.impl_IsEntry a0⟩] := said_len (T := tab) (A := A_impl_IsEntry) tabOk ok_impl_IsEntry tabOk.follows Try.func29 (by kernel_rfl) (by kernel_rfl) (fun hl => ⟨0, (a_impl_IsEntry 0 a0).trans (impl_IsEntry_ok (ρ := Ret) (fun r0 => some [⟨.bool, r0⟩]) a0 hl.1 g)⟩)
end Go.Proofs.Ythiiialbkppmnaa.Ref
