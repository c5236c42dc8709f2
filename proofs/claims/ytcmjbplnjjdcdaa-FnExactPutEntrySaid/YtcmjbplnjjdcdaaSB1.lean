/- Functions of the program: what each computes, and that it does so.
   Conditions: as each theorem states. -/
import Derived.Test.YtcmjbplnjjdcdaaSB0
import Derived.WalkKit
import Derived.Lib.Bytealg
set_option linter.unusedVariables false
set_option linter.unusedSimpArgs false
set_option maxRecDepth 100000
namespace Go.Proofs.Ytcmjbplnjjdcdaa.Ref
open Go.RowKit Go.Proofs.YtcmjbplnjjdcdaaW.PrintWords Go.Proofs.YtcmjbplnjjdcdaaW.PrintLast
abbrev N.impl_isDigest (n : Int) : Bool := isDigest n
def impl_isDigest {ρ : Type} (k : Bool → Option ρ) (a0 : Int) : Option ρ := (k (N.impl_InRange a0 (0 : Int) (2147483646 : Int)))
theorem impl_isDigest_ok {ρ : Type} (k : Bool → Option ρ) (a0 : Int) : impl_isDigest k  a0 = k (N.impl_isDigest a0) := by
  rfl
def OP_impl_isDigest (f0 : Int → Int → Int → Bool) : Orac := (orcX 52 [.val (.int .i64), .val (.int .i64), .val (.int .i64)] (fun d => true) (fun d => [⟨.bool, f0 d.1 d.2.1 d.2.2.1⟩]) nilO)
def O_impl_isDigest : Orac := OP_impl_isDigest N.impl_InRange
def impl_isDigest_P {ρ : Type} (f0 : Int → Int → Int → Bool) (k : Bool → Option ρ) (a0 : Int) : Option ρ := (k (f0 a0 (0 : Int) (2147483646 : Int)))
theorem ok_impl_isDigest : OracOk Try.prog sigs O_impl_isDigest := (orcX_ok rfl rfl (fun d g => said_impl_InRange d.1 d.2.1 d.2.2.1) nilO_ok)
def A_impl_isDigest : Ann := fun b => ⟨[], []⟩
theorem aP_impl_isDigest (f0 : Int → Int → Int → Bool) (n : Nat) (a0 : Int) : absF tab sigs (OP_impl_isDigest f0) A_impl_isDigest Try.f53 [(.bool, .no)] n [.val (.int .i64) a0] = impl_isDigest_P f0 (fun r0 => some [⟨.bool, r0⟩])  a0 := by kernel_rfl
theorem said_impl_isDigest (a0 : Int) : Said Try.prog sigs_53 53 [.val (.int .i64) a0] [⟨.bool, N.impl_isDigest a0⟩] := said_len (T := tab) (A := A_impl_isDigest) tabOk ok_impl_isDigest tabOk.follows Try.func53 (by kernel_rfl) (by kernel_rfl) (fun hl => ⟨0, (aP_impl_isDigest N.impl_InRange 0 a0).trans (impl_isDigest_ok (ρ := Ret) (fun r0 => some [⟨.bool, r0⟩]) a0)⟩)
abbrev G.impl_IsPath_s1 (s : ByteArray) : Bool := decide (s.size ≤ 1048576)
abbrev N.impl_IsPath_s1 (s : ByteArray) : Bool := !(isLabel s)
def impl_IsPath_s1 {ρ : Type} (k : Bool → Option ρ) (a0 : ByteArray) : Option ρ := (cond (G.impl_IsLabel a0) (k (!(N.impl_IsLabel a0))) none)
theorem impl_IsPath_s1_ok {ρ : Type} (k : Bool → Option ρ) (a0 : ByteArray) (g : G.impl_IsPath_s1 a0 = true) : impl_IsPath_s1 k  a0 = k (N.impl_IsPath_s1 a0) := by
  unfold G.impl_IsPath_s1 at g
  show cond (decide (a0.size ≤ 1048576)) _ none = _
  rw [g]
  rfl
def OP_impl_IsPath_s1 (f0 : ByteArray → Bool) (g0 : ByteArray → Bool) : Orac := (orcX 48 [.val .str] (fun d => g0 d.1) (fun d => [⟨.bool, f0 d.1⟩]) nilO)
def O_impl_IsPath_s1 : Orac := OP_impl_IsPath_s1 N.impl_IsLabel G.impl_IsLabel
def impl_IsPath_s1_P {ρ : Type} (f0 : ByteArray → Bool) (g0 : ByteArray → Bool) (k : Bool → Option ρ) (a0 : ByteArray) : Option ρ := (cond (g0 a0) (k (!(f0 a0))) none)
theorem ok_impl_IsPath_s1 : OracOk Try.prog sigs O_impl_IsPath_s1 := (orcX_ok rfl rfl (fun d g => said_impl_IsLabel d.1 g) nilO_ok)
def A_impl_IsPath_s1 : Ann := fun b => ⟨[], []⟩
theorem aP_impl_IsPath_s1 (f0 : ByteArray → Bool) (g0 : ByteArray → Bool) (n : Nat) (a0 : ByteArray) : absF tab sigs (OP_impl_IsPath_s1 f0 g0) A_impl_IsPath_s1 Try.f60 [(.bool, .no)] n [.val .str a0] = impl_IsPath_s1_P f0 g0 (fun r0 => some [⟨.bool, r0⟩])  a0 := by kernel_rfl
theorem said_impl_IsPath_s1 (a0 : ByteArray) (g : G.impl_IsPath_s1 a0 = true) : Said Try.prog sigs_60 60 [.val .str a0] [⟨.bool, N.impl_IsPath_s1 a0⟩] := said_len (T := tab) (A := A_impl_IsPath_s1) tabOk ok_impl_IsPath_s1 tabOk.follows Try.func60 (by kernel_rfl) (by kernel_rfl) (fun hl => ⟨0, (aP_impl_IsPath_s1 N.impl_IsLabel G.impl_IsLabel 0 a0).trans (impl_IsPath_s1_ok (ρ := Ret) (fun r0 => some [⟨.bool, r0⟩]) a0 g)⟩)
abbrev G.slices_IndexFunc_string__impl_IsPath_s1 (p : List ByteArray) : Bool := decide (wP p ≤ 1048576)
abbrev N.slices_IndexFunc_string__impl_IsPath_s1 (p : List ByteArray) : Int := idxFrom (fun s => !(isLabel s)) 0 p
def slices_IndexFunc_string__impl_IsPath_s1_P_L0 {ρ : Type} (f0 : ByteArray → Bool) (g0 : ByteArray → Bool) (k : Int → Option ρ) (L0 : (List ByteArray) → Int → Int → Option ρ) (v0_0 : (List ByteArray)) (v0_1 : Int) (v0_2 : Int) : Option ρ := (cond (decide (v0_2 < v0_1)) (cond (inRange v0_2 (List.length v0_0)) (cond (g0 (List.getD v0_0 (Int.toNat v0_2) ByteArray.empty)) (cond (f0 (List.getD v0_0 (Int.toNat v0_2) ByteArray.empty)) (k v0_2) (L0 v0_0 v0_1 (IntKind.wrap .i64 (v0_2 + (1 : Int))))) none) none) (k (-1 : Int)))
def slices_IndexFunc_string__impl_IsPath_s1_P {ρ : Type} (f0 : ByteArray → Bool) (g0 : ByteArray → Bool) (k : Int → Option ρ) (L0 : (List ByteArray) → Int → Int → Option ρ) (a0 : (List ByteArray)) : Option ρ := (L0 a0 (List.length a0 : Int) (0 : Int))
def slices_IndexFunc_string__impl_IsPath_s1_L0 {ρ : Type} (k : Int → Option ρ) (L0 : (List ByteArray) → Int → Int → Option ρ) (v0_0 : (List ByteArray)) (v0_1 : Int) (v0_2 : Int) : Option ρ := slices_IndexFunc_string__impl_IsPath_s1_P_L0 N.impl_IsPath_s1 G.impl_IsPath_s1 k L0 v0_0 v0_1 v0_2
def slices_IndexFunc_string__impl_IsPath_s1 {ρ : Type} (k : Int → Option ρ) (L0 : (List ByteArray) → Int → Int → Option ρ) (a0 : (List ByteArray)) : Option ρ := slices_IndexFunc_string__impl_IsPath_s1_P N.impl_IsPath_s1 G.impl_IsPath_s1 k L0 a0
theorem slices_IndexFunc_string__impl_IsPath_s1_ok {ρ : Type} (k : Int → Option ρ) (a0 : (List ByteArray)) (l_a0 : lnL (fun _ => True) a0) (g : G.slices_IndexFunc_string__impl_IsPath_s1 a0 = true) : ∃ n0, ∀ n, n0 ≤ n → ∀ (L0 : Nat → (List ByteArray) → Int → Int → Option ρ) (h0 : ∀ ( m : Nat) (v0_0 : (List ByteArray)) (v0_1 : Int) (v0_2 : Int), L0 (m + 1) v0_0 v0_1 v0_2 = slices_IndexFunc_string__impl_IsPath_s1_L0 k (L0 m) v0_0 v0_1 v0_2), slices_IndexFunc_string__impl_IsPath_s1 k (L0 n) a0 = k (N.slices_IndexFunc_string__impl_IsPath_s1 a0) := by
  unfold G.slices_IndexFunc_string__impl_IsPath_s1 at g
  have hw : wP a0 ≤ 1048576 := of_decide_eq_true g
  have hl : a0.length ≤ 1048576 := by unfold wP at hw; omega
  refine ⟨a0.length + 1, fun n hn L0 h0 => ?_⟩
  refine raw_idx (a := a0) ByteArray.empty (fun s => !(isLabel s)) (k := k) (σ := Unit) (s := ()) (L := fun m i _ => L0 m a0 (a0.length : Int) i) (R := fun i s c => slices_IndexFunc_string__impl_IsPath_s1_L0 k (fun _ _ i => c i ()) a0 (a0.length : Int) i) (fun m i s => h0 m a0 (a0.length : Int) i) (fun j s c hj => ?_) (fun s c => ?_) hn
  · have hm := wP_mem (getD_mem (d := ByteArray.empty) hj)
    have g2 : decide ((a0.getD j ByteArray.empty).size ≤ 1048576) = true := by simp only [decide_eq_true_eq]; omega
    simp only [slices_IndexFunc_string__impl_IsPath_s1_L0, slices_IndexFunc_string__impl_IsPath_s1_P_L0, lt_nat, inRange_nat, decide_eq_true hj, cond_true, Int.toNat_natCast, G.impl_IsPath_s1, N.impl_IsPath_s1, g2, wrap_succ (j := j) (by unfold big; omega)]
  · simp [slices_IndexFunc_string__impl_IsPath_s1_L0, slices_IndexFunc_string__impl_IsPath_s1_P_L0]
def OP_slices_IndexFunc_string__impl_IsPath_s1 (f0 : ByteArray → Bool) (g0 : ByteArray → Bool) : Orac := (orcX 60 [.val .str] (fun d => g0 d.1) (fun d => [⟨.bool, f0 d.1⟩]) nilO)
def O_slices_IndexFunc_string__impl_IsPath_s1 : Orac := OP_slices_IndexFunc_string__impl_IsPath_s1 N.impl_IsPath_s1 G.impl_IsPath_s1
theorem ok_slices_IndexFunc_string__impl_IsPath_s1 : OracOk Try.prog sigs O_slices_IndexFunc_string__impl_IsPath_s1 := (orcX_ok rfl rfl (fun d g => said_impl_IsPath_s1 d.1 g) nilO_ok)
def A_slices_IndexFunc_string__impl_IsPath_s1 : Ann := fun b => cond (Nat.beq b 0) ⟨[(0, false), (1, false), (7, false), (8, false)], []⟩ (⟨[], []⟩)
def S_slices_IndexFunc_string__impl_IsPath_s1_0 (v0_0 : (List ByteArray)) (v0_1 : Int) (v0_2 : Int) : St := [(kT 0, some (.tv (.v (.slice 9 .str) v0_0 .no))), (kT 1, some (.tv (.clo 60 []))), (kT 7, some (.tv (.v (.int .i64) v0_1 .no))), (kT 8, some (.tv (.v (.int .i64) v0_2 .no)))]
noncomputable def L_P_slices_IndexFunc_string__impl_IsPath_s1_0 (f0 : ByteArray → Bool) (g0 : ByteArray → Bool) (n m : Nat) : St → Option Ret := loopOf tab sigs (OP_slices_IndexFunc_string__impl_IsPath_s1 f0 g0) A_slices_IndexFunc_string__impl_IsPath_s1 Try.f65 [((.int .i64), .no)] n (fun _ => 0) 0 m
theorem bP_slices_IndexFunc_string__impl_IsPath_s1_0 (f0 : ByteArray → Bool) (g0 : ByteArray → Bool) (n m : Nat) (v0_0 : (List ByteArray)) (v0_1 : Int) (v0_2 : Int) : L_P_slices_IndexFunc_string__impl_IsPath_s1_0 f0 g0 n (m + 1) (S_slices_IndexFunc_string__impl_IsPath_s1_0 v0_0 v0_1 v0_2) = slices_IndexFunc_string__impl_IsPath_s1_P_L0 f0 g0 (fun r0 => some [⟨(.int .i64), r0⟩]) (fun v0_0 v0_1 v0_2 => L_P_slices_IndexFunc_string__impl_IsPath_s1_0 f0 g0 n m (S_slices_IndexFunc_string__impl_IsPath_s1_0 v0_0 v0_1 v0_2)) v0_0 v0_1 v0_2 := by kernel_rfl
theorem aP_slices_IndexFunc_string__impl_IsPath_s1 (f0 : ByteArray → Bool) (g0 : ByteArray → Bool) (n : Nat) (a0 : (List ByteArray)) : absF tab sigs (OP_slices_IndexFunc_string__impl_IsPath_s1 f0 g0) A_slices_IndexFunc_string__impl_IsPath_s1 Try.f65 [((.int .i64), .no)] n [.val (.slice 9 .str) a0, .clo 60 []] = slices_IndexFunc_string__impl_IsPath_s1_P f0 g0 (fun r0 => some [⟨(.int .i64), r0⟩]) (fun v0_0 v0_1 v0_2 => L_P_slices_IndexFunc_string__impl_IsPath_s1_0 f0 g0 n n (S_slices_IndexFunc_string__impl_IsPath_s1_0 v0_0 v0_1 v0_2)) a0 := by kernel_rfl
theorem said_slices_IndexFunc_string__impl_IsPath_s1 (a0 : (List ByteArray)) (g : G.slices_IndexFunc_string__impl_IsPath_s1 a0 = true) : Said Try.prog sigs_65 65 [.val (.slice 9 .str) a0, .clo 60 []] [⟨(.int .i64), N.slices_IndexFunc_string__impl_IsPath_s1 a0⟩] := said_len (T := tab) (A := A_slices_IndexFunc_string__impl_IsPath_s1) tabOk ok_slices_IndexFunc_string__impl_IsPath_s1 tabOk.follows Try.func65 (by kernel_rfl) (by kernel_rfl) (fun hl => let ⟨n, hn⟩ := slices_IndexFunc_string__impl_IsPath_s1_ok (ρ := Ret) (fun r0 => some [⟨(.int .i64), r0⟩]) a0 hl.1 g; ⟨n, (aP_slices_IndexFunc_string__impl_IsPath_s1 N.impl_IsPath_s1 G.impl_IsPath_s1 n a0).trans (hn n (Nat.le_refl n) (fun  m v0_0 v0_1 v0_2 => L_P_slices_IndexFunc_string__impl_IsPath_s1_0 N.impl_IsPath_s1 G.impl_IsPath_s1 n  m (S_slices_IndexFunc_string__impl_IsPath_s1_0 v0_0 v0_1 v0_2)) (fun  m v0_0 v0_1 v0_2 => bP_slices_IndexFunc_string__impl_IsPath_s1_0 N.impl_IsPath_s1 G.impl_IsPath_s1 n  m v0_0 v0_1 v0_2))⟩)
abbrev G.slices_ContainsFunc_string__impl_IsPath_s1 (p : List ByteArray) : Bool := decide (wP p ≤ 1048576)
abbrev N.slices_ContainsFunc_string__impl_IsPath_s1 (p : List ByteArray) : Bool := p.any (fun s => !(isLabel s))
def slices_ContainsFunc_string__impl_IsPath_s1 {ρ : Type} (k : Bool → Option ρ) (a0 : (List ByteArray)) : Option ρ := (cond (G.slices_IndexFunc_string__impl_IsPath_s1 a0) (k (decide ((N.slices_IndexFunc_string__impl_IsPath_s1 a0) ≥ (0 : Int)))) none)
theorem slices_ContainsFunc_string__impl_IsPath_s1_ok {ρ : Type} (k : Bool → Option ρ) (a0 : (List ByteArray)) (l_a0 : lnL (fun _ => True) a0) (g : G.slices_ContainsFunc_string__impl_IsPath_s1 a0 = true) : slices_ContainsFunc_string__impl_IsPath_s1 k  a0 = k (N.slices_ContainsFunc_string__impl_IsPath_s1 a0) := by
  unfold G.slices_ContainsFunc_string__impl_IsPath_s1 at g
  show cond (decide (wP a0 ≤ 1048576)) _ none = _
  rw [g]
  show k (decide (idxFrom (fun s => !(isLabel s)) 0 a0 ≥ 0)) = _
  rw [idxFrom_any]
def OP_slices_ContainsFunc_string__impl_IsPath_s1 (f0 : (List ByteArray) → Int) (g0 : (List ByteArray) → Bool) : Orac := (orcX 65 [.val (.slice 9 .str), .clo 60 []] (fun d => g0 d.1) (fun d => [⟨(.int .i64), f0 d.1⟩]) nilO)
def O_slices_ContainsFunc_string__impl_IsPath_s1 : Orac := OP_slices_ContainsFunc_string__impl_IsPath_s1 N.slices_IndexFunc_string__impl_IsPath_s1 G.slices_IndexFunc_string__impl_IsPath_s1
def slices_ContainsFunc_string__impl_IsPath_s1_P {ρ : Type} (f0 : (List ByteArray) → Int) (g0 : (List ByteArray) → Bool) (k : Bool → Option ρ) (a0 : (List ByteArray)) : Option ρ := (cond (g0 a0) (k (decide ((f0 a0) ≥ (0 : Int)))) none)
theorem ok_slices_ContainsFunc_string__impl_IsPath_s1 : OracOk Try.prog sigs O_slices_ContainsFunc_string__impl_IsPath_s1 := (orcX_ok rfl rfl (fun d g => said_slices_IndexFunc_string__impl_IsPath_s1 d.1 g) nilO_ok)
def A_slices_ContainsFunc_string__impl_IsPath_s1 : Ann := fun b => ⟨[], []⟩
theorem aP_slices_ContainsFunc_string__impl_IsPath_s1 (f0 : (List ByteArray) → Int) (g0 : (List ByteArray) → Bool) (n : Nat) (a0 : (List ByteArray)) : absF tab sigs (OP_slices_ContainsFunc_string__impl_IsPath_s1 f0 g0) A_slices_ContainsFunc_string__impl_IsPath_s1 Try.f59 [(.bool, .no)] n [.val (.slice 9 .str) a0, .clo 60 []] = slices_ContainsFunc_string__impl_IsPath_s1_P f0 g0 (fun r0 => some [⟨.bool, r0⟩])  a0 := by kernel_rfl
theorem said_slices_ContainsFunc_string__impl_IsPath_s1 (a0 : (List ByteArray)) (g : G.slices_ContainsFunc_string__impl_IsPath_s1 a0 = true) : Said Try.prog sigs_59 59 [.val (.slice 9 .str) a0, .clo 60 []] [⟨.bool, N.slices_ContainsFunc_string__impl_IsPath_s1 a0⟩] := said_len (T := tab) (A := A_slices_ContainsFunc_string__impl_IsPath_s1) tabOk ok_slices_ContainsFunc_string__impl_IsPath_s1 tabOk.follows Try.func59 (by kernel_rfl) (by kernel_rfl) (fun hl => ⟨0, (aP_slices_ContainsFunc_string__impl_IsPath_s1 N.slices_IndexFunc_string__impl_IsPath_s1 G.slices_IndexFunc_string__impl_IsPath_s1 0 a0).trans (slices_ContainsFunc_string__impl_IsPath_s1_ok (ρ := Ret) (fun r0 => some [⟨.bool, r0⟩]) a0 hl.1 g)⟩)
abbrev G.impl_IsPath (p : List ByteArray) : Bool := decide (wP p ≤ 1048576)
abbrev N.impl_IsPath (p : List ByteArray) : Bool := isPath p
def impl_IsPath {ρ : Type} (k : Bool → Option ρ) (a0 : (List ByteArray)) : Option ρ := (cond (N.impl_InRange (List.length a0 : Int) (1 : Int) (4 : Int)) (cond (G.slices_ContainsFunc_string__impl_IsPath_s1 a0) (k (!(N.slices_ContainsFunc_string__impl_IsPath_s1 a0))) none) (k false))
theorem impl_IsPath_ok {ρ : Type} (k : Bool → Option ρ) (a0 : (List ByteArray)) (l_a0 : lnL (fun _ => True) a0) (g : G.impl_IsPath a0 = true) : impl_IsPath k  a0 = k (N.impl_IsPath a0) := by
  unfold G.impl_IsPath at g
  show cond (inR (a0.length : Int) 1 4) (cond (decide (wP a0 ≤ 1048576)) (k (!(a0.any (fun s => !(isLabel s))))) none) (k false) = k (inR (a0.length : Int) 1 4 && a0.all isLabel)
  rw [g, any_not]
  cases inR (a0.length : Int) 1 4 <;> rfl
def OP_impl_IsPath (f0 : Int → Int → Int → Bool) (f1 : (List ByteArray) → Bool) (g1 : (List ByteArray) → Bool) : Orac := (orcX 59 [.val (.slice 9 .str), .clo 60 []] (fun d => g1 d.1) (fun d => [⟨.bool, f1 d.1⟩]) (orcX 52 [.val (.int .i64), .val (.int .i64), .val (.int .i64)] (fun d => true) (fun d => [⟨.bool, f0 d.1 d.2.1 d.2.2.1⟩]) nilO))
def O_impl_IsPath : Orac := OP_impl_IsPath N.impl_InRange N.slices_ContainsFunc_string__impl_IsPath_s1 G.slices_ContainsFunc_string__impl_IsPath_s1
def impl_IsPath_P {ρ : Type} (f0 : Int → Int → Int → Bool) (f1 : (List ByteArray) → Bool) (g1 : (List ByteArray) → Bool) (k : Bool → Option ρ) (a0 : (List ByteArray)) : Option ρ := (cond (f0 (List.length a0 : Int) (1 : Int) (4 : Int)) (cond (g1 a0) (k (!(f1 a0))) none) (k false))
theorem ok_impl_IsPath : OracOk Try.prog sigs O_impl_IsPath := (orcX_ok rfl rfl (fun d g => said_slices_ContainsFunc_string__impl_IsPath_s1 d.1 g) (orcX_ok rfl rfl (fun d g => said_impl_InRange d.1 d.2.1 d.2.2.1) nilO_ok))
def A_impl_IsPath : Ann := fun b => ⟨[], []⟩
theorem aP_impl_IsPath (f0 : Int → Int → Int → Bool) (f1 : (List ByteArray) → Bool) (g1 : (List ByteArray) → Bool) (n : Nat) (a0 : (List ByteArray)) : absF tab sigs (OP_impl_IsPath f0 f1 g1) A_impl_IsPath Try.f54 [(.bool, .no)] n [.val (.slice 9 .str) a0] = impl_IsPath_P f0 f1 g1 (fun r0 => some [⟨.bool, r0⟩])  a0 := by kernel_rfl
theorem said_impl_IsPath (a0 : (List ByteArray)) (g : G.impl_IsPath a0 = true) : Said Try.prog sigs_54 54 [.val (.slice 9 .str) a0] [⟨.bool, N.impl_IsPath a0⟩] := said_len (T := tab) (A := A_impl_IsPath) tabOk ok_impl_IsPath tabOk.follows Try.func54 (by kernel_rfl) (by kernel_rfl) (fun hl => ⟨0, (aP_impl_IsPath N.impl_InRange N.slices_ContainsFunc_string__impl_IsPath_s1 G.slices_ContainsFunc_string__impl_IsPath_s1 0 a0).trans (impl_IsPath_ok (ρ := Ret) (fun r0 => some [⟨.bool, r0⟩]) a0 hl.1 g)⟩)
abbrev G.impl_IsEntry (e : TEntry) : Bool := decide (wE e ≤ 1048576)
abbrev N.impl_IsEntry (e : TEntry) : Bool := isEntry e
def impl_IsEntry_P {ρ : Type} (f0 : ByteArray → Bool) (g0 : ByteArray → Bool) (f1 : Int → Int → Int → Bool) (f2 : Int → Bool) (f3 : (List ByteArray) → Bool) (g3 : (List ByteArray) → Bool) (k : Bool → Option ρ) (a0 : TEntry) : Option ρ := (cond (g0 a0.1) (cond (!(f0 a0.1)) (k false) (cond (a0.2.1 == (1 : Int)) (cond (f1 a0.2.2.1 (0 : Int) (999999 : Int)) (k ((List.length a0.2.2.2 : Int) == (0 : Int))) (k false)) (cond (a0.2.1 == (2 : Int)) (cond (f2 a0.2.2.1) (k ((List.length a0.2.2.2 : Int) == (0 : Int))) (k false)) (cond (a0.2.1 == (3 : Int)) (cond (f2 a0.2.2.1) (cond (g3 a0.2.2.2) (k (f3 a0.2.2.2)) none) (k false)) (k false))))) none)
def impl_IsEntry {ρ : Type} (k : Bool → Option ρ) (a0 : TEntry) : Option ρ := impl_IsEntry_P N.impl_IsLabel G.impl_IsLabel N.impl_InRange N.impl_isDigest N.impl_IsPath G.impl_IsPath k a0
theorem impl_IsEntry_ok {ρ : Type} (k : Bool → Option ρ) (a0 : TEntry) (l_a0 : (True ∧ (True ∧ (True ∧ lnL (fun _ => True) a0.2.2.2)))) (g : G.impl_IsEntry a0 = true) : impl_IsEntry k  a0 = k (N.impl_IsEntry a0) := by
  unfold G.impl_IsEntry at g
  have hw : wE a0 ≤ 1048576 := of_decide_eq_true g
  have g1 : decide (a0.1.size ≤ 1048576) = true := by unfold wE at hw; simp; omega
  have g2 : decide (wP a0.2.2.2 ≤ 1048576) = true := by unfold wE at hw; simp; omega
  simp only [impl_IsEntry, impl_IsEntry_P, G.impl_IsLabel, N.impl_IsLabel, G.impl_IsPath, N.impl_IsPath, N.impl_InRange, N.impl_isDigest, g1, g2, cond_true, isEntry]
  by_cases h1 : a0.2.1 = 1
  · have e1 : (a0.2.1 == 1) = true := by simp [h1]
    have e2 : (a0.2.1 == 2) = false := by simp [h1]
    have e3 : (a0.2.1 == 3) = false := by simp [h1]
    simp only [e1, e2, e3]
    cases isLabel a0.1 <;> cases inR a0.2.2.1 0 999999 <;> simp
  by_cases h2 : a0.2.1 = 2
  · have e1 : (a0.2.1 == 1) = false := by simp [h2]
    have e2 : (a0.2.1 == 2) = true := by simp [h2]
    have e3 : (a0.2.1 == 3) = false := by simp [h2]
    simp only [e1, e2, e3]
    cases isLabel a0.1 <;> cases isDigest a0.2.2.1 <;> simp
  have e1 : (a0.2.1 == 1) = false := by simp [h1]
  have e2 : (a0.2.1 == 2) = false := by simp [h2]
  simp only [e1, e2]
  cases a0.2.1 == 3 <;> cases isLabel a0.1 <;> cases isDigest a0.2.2.1 <;> simp
def OP_impl_IsEntry (f0 : ByteArray → Bool) (g0 : ByteArray → Bool) (f1 : Int → Int → Int → Bool) (f2 : Int → Bool) (f3 : (List ByteArray) → Bool) (g3 : (List ByteArray) → Bool) : Orac := (orcX 54 [.val (.slice 9 .str)] (fun d => g3 d.1) (fun d => [⟨.bool, f3 d.1⟩]) (orcX 53 [.val (.int .i64)] (fun d => true) (fun d => [⟨.bool, f2 d.1⟩]) (orcX 52 [.val (.int .i64), .val (.int .i64), .val (.int .i64)] (fun d => true) (fun d => [⟨.bool, f1 d.1 d.2.1 d.2.2.1⟩]) (orcX 48 [.val .str] (fun d => g0 d.1) (fun d => [⟨.bool, f0 d.1⟩]) nilO))))
def O_impl_IsEntry : Orac := OP_impl_IsEntry N.impl_IsLabel G.impl_IsLabel N.impl_InRange N.impl_isDigest N.impl_IsPath G.impl_IsPath
theorem ok_impl_IsEntry : OracOk Try.prog sigs O_impl_IsEntry := (orcX_ok rfl rfl (fun d g => said_impl_IsPath d.1 g) (orcX_ok rfl rfl (fun d g => said_impl_isDigest d.1) (orcX_ok rfl rfl (fun d g => said_impl_InRange d.1 d.2.1 d.2.2.1) (orcX_ok rfl rfl (fun d g => said_impl_IsLabel d.1 g) nilO_ok))))
def A_impl_IsEntry : Ann := fun b => ⟨[], []⟩
theorem aP_impl_IsEntry (f0 : ByteArray → Bool) (g0 : ByteArray → Bool) (f1 : Int → Int → Int → Bool) (f2 : Int → Bool) (f3 : (List ByteArray) → Bool) (g3 : (List ByteArray) → Bool) (n : Nat) (a0 : TEntry) : absF tab sigs (OP_impl_IsEntry f0 g0 f1 f2 f3 g3) A_impl_IsEntry Try.f41 [(.bool, .no)] n [.val TyEntry a0] = impl_IsEntry_P f0 g0 f1 f2 f3 g3 (fun r0 => some [⟨.bool, r0⟩])  a0 := by kernel_rfl
theorem said_impl_IsEntry (a0 : TEntry) (g : G.impl_IsEntry a0 = true) : Said Try.prog sigs_41 41 [.val TyEntry a0] [⟨.bool, N.impl_IsEntry a0⟩] := said_len (T := tab) (A := A_impl_IsEntry) tabOk ok_impl_IsEntry tabOk.follows Try.func41 (by kernel_rfl) (by kernel_rfl) (fun hl => ⟨0, (aP_impl_IsEntry N.impl_IsLabel G.impl_IsLabel N.impl_InRange N.impl_isDigest N.impl_IsPath G.impl_IsPath 0 a0).trans (impl_IsEntry_ok (ρ := Ret) (fun r0 => some [⟨.bool, r0⟩]) a0 hl.1 g)⟩)
abbrev N.internal_bytealg_CompareString (a b : ByteArray) : Int := cmpStr a b
-- HAND
open Go.Proofs.Ytcmjbplnjjdcdaa in
theorem calls_cmp (a b : ByteArray) (w : World) : Calls Try.prog 55 #[.string a, .string b] w fun e w' => e = .returned (.int .i64 (Lib.compareBytes a.data.toList b.data.toList)) ∧ w' = w := by
  go_enter Try.func55, Try.ntmps55
  go_wp2
  rw [run_callFunc_extern Try.func61 (by kernel_rfl) (by kernel_rfl) (by kernel_rfl) (e := Extern.BytealgCompare.compare) (by kernel_rfl), Lib.run_compareString]
  simp only [Result.andThen]
  rw [Oper.upon_value]
  go_wp2
  go_ret
  exact ⟨rfl, rfl⟩
theorem said_internal_bytealg_CompareString (a0 a1 : ByteArray) : Said Try.prog sigs_55 55 [.val .str a0, .val .str a1] [⟨.int .i64, N.internal_bytealg_CompareString a0 a1⟩] :=
  said_int Try.func55 (by kernel_rfl) (by kernel_rfl) (fun w ok vs h => by
    obtain ⟨v0, vs0, rfl, h0, v1, vs1, rfl, h1, rfl⟩ := h
    rw [avr_str h0, avr_str h1, show N.internal_bytealg_CompareString a0 a1 = _ from (cmp_data a0 a1).symm]
    exact calls_cmp a0 a1 w)

abbrev N.strings_Compare (a b : ByteArray) : Int := cmpStr a b
def strings_Compare {ρ : Type} (k : Int → Option ρ) (a0 : ByteArray) (a1 : ByteArray) : Option ρ := (k (N.internal_bytealg_CompareString a0 a1))
theorem strings_Compare_ok {ρ : Type} (k : Int → Option ρ) (a0 : ByteArray) (a1 : ByteArray) : strings_Compare k  a0 a1 = k (N.strings_Compare a0 a1) := by
  rfl
def OP_strings_Compare (f0 : ByteArray → ByteArray → Int) : Orac := (orcX 55 [.val .str, .val .str] (fun d => true) (fun d => [⟨(.int .i64), f0 d.1 d.2.1⟩]) nilO)
def O_strings_Compare : Orac := OP_strings_Compare N.internal_bytealg_CompareString
def strings_Compare_P {ρ : Type} (f0 : ByteArray → ByteArray → Int) (k : Int → Option ρ) (a0 : ByteArray) (a1 : ByteArray) : Option ρ := (k (f0 a0 a1))
theorem ok_strings_Compare : OracOk Try.prog sigs O_strings_Compare := (orcX_ok rfl rfl (fun d g => said_internal_bytealg_CompareString d.1 d.2.1) nilO_ok)
def A_strings_Compare : Ann := fun b => ⟨[], []⟩
theorem aP_strings_Compare (f0 : ByteArray → ByteArray → Int) (n : Nat) (a0 : ByteArray) (a1 : ByteArray) : absF tab sigs (OP_strings_Compare f0) A_strings_Compare Try.f42 [((.int .i64), .no)] n [.val .str a0, .val .str a1] = strings_Compare_P f0 (fun r0 => some [⟨(.int .i64), r0⟩])  a0 a1 := by kernel_rfl
theorem said_strings_Compare (a0 : ByteArray) (a1 : ByteArray) : Said Try.prog sigs_42 42 [.val .str a0, .val .str a1] [⟨(.int .i64), N.strings_Compare a0 a1⟩] := said_len (T := tab) (A := A_strings_Compare) tabOk ok_strings_Compare tabOk.follows Try.func42 (by kernel_rfl) (by kernel_rfl) (fun hl => ⟨0, (aP_strings_Compare N.internal_bytealg_CompareString 0 a0 a1).trans (strings_Compare_ok (ρ := Ret) (fun r0 => some [⟨(.int .i64), r0⟩]) a0 a1)⟩)
abbrev N.impl_CompareLabels (a b : ByteArray) : Int := cmpStr a b
def impl_CompareLabels {ρ : Type} (k : Int → Option ρ) (a0 : ByteArray) (a1 : ByteArray) : Option ρ := (k (N.strings_Compare a0 a1))
theorem impl_CompareLabels_ok {ρ : Type} (k : Int → Option ρ) (a0 : ByteArray) (a1 : ByteArray) : impl_CompareLabels k  a0 a1 = k (N.impl_CompareLabels a0 a1) := by
  rfl
def OP_impl_CompareLabels (f0 : ByteArray → ByteArray → Int) : Orac := (orcX 42 [.val .str, .val .str] (fun d => true) (fun d => [⟨(.int .i64), f0 d.1 d.2.1⟩]) nilO)
def O_impl_CompareLabels : Orac := OP_impl_CompareLabels N.strings_Compare
def impl_CompareLabels_P {ρ : Type} (f0 : ByteArray → ByteArray → Int) (k : Int → Option ρ) (a0 : ByteArray) (a1 : ByteArray) : Option ρ := (k (f0 a0 a1))
theorem ok_impl_CompareLabels : OracOk Try.prog sigs O_impl_CompareLabels := (orcX_ok rfl rfl (fun d g => said_strings_Compare d.1 d.2.1) nilO_ok)
def A_impl_CompareLabels : Ann := fun b => ⟨[], []⟩
theorem aP_impl_CompareLabels (f0 : ByteArray → ByteArray → Int) (n : Nat) (a0 : ByteArray) (a1 : ByteArray) : absF tab sigs (OP_impl_CompareLabels f0) A_impl_CompareLabels Try.f31 [((.int .i64), .no)] n [.val .str a0, .val .str a1] = impl_CompareLabels_P f0 (fun r0 => some [⟨(.int .i64), r0⟩])  a0 a1 := by kernel_rfl
theorem said_impl_CompareLabels (a0 : ByteArray) (a1 : ByteArray) : Said Try.prog sigs_31 31 [.val .str a0, .val .str a1] [⟨(.int .i64), N.impl_CompareLabels a0 a1⟩] := said_len (T := tab) (A := A_impl_CompareLabels) tabOk ok_impl_CompareLabels tabOk.follows Try.func31 (by kernel_rfl) (by kernel_rfl) (fun hl => ⟨0, (aP_impl_CompareLabels N.strings_Compare 0 a0 a1).trans (impl_CompareLabels_ok (ρ := Ret) (fun r0 => some [⟨(.int .i64), r0⟩]) a0 a1)⟩)
abbrev G.impl_AreEntries (l : List TEntry) : Bool := decide (wEs l ≤ 1048577)
abbrev N.impl_AreEntries (l : List TEntry) : Bool := areEntries l
def impl_AreEntries_P_L0 {ρ : Type} (f0 : TEntry → Bool) (g0 : TEntry → Bool) (f1 : ByteArray → ByteArray → Int) (k : Bool → Option ρ) (L0 : (List TEntry) → (List TEntry) → Int → Int → Option ρ) (v0_0 : (List TEntry)) (v0_1 : (List TEntry)) (v0_2 : Int) (v0_3 : Int) : Option ρ := (cond (decide (v0_3 < v0_2)) (cond (inRange v0_3 (List.length v0_1)) (cond (g0 (List.getD v0_1 (Int.toNat v0_3) (ByteArray.empty, ((0 : Int), ((0 : Int), []))))) (cond (!(f0 (List.getD v0_1 (Int.toNat v0_3) (ByteArray.empty, ((0 : Int), ((0 : Int), [])))))) (k false) (cond (decide (v0_3 > (0 : Int))) (cond (inRange (IntKind.wrap .i64 (v0_3 - (1 : Int))) (List.length v0_0)) (cond (decide ((f1 (List.getD v0_1 (Int.toNat v0_3) (ByteArray.empty, ((0 : Int), ((0 : Int), [])))).1 (List.getD v0_0 (Int.toNat (IntKind.wrap .i64 (v0_3 - (1 : Int)))) (ByteArray.empty, ((0 : Int), ((0 : Int), [])))).1) ≤ (0 : Int))) (k false) (L0 v0_0 v0_1 v0_2 (IntKind.wrap .i64 (v0_3 + (1 : Int))))) none) (L0 v0_0 v0_1 v0_2 (IntKind.wrap .i64 (v0_3 + (1 : Int)))))) none) none) (k (decide ((List.length v0_0 : Int) ≤ (12 : Int)))))
def impl_AreEntries_P {ρ : Type} (f0 : TEntry → Bool) (g0 : TEntry → Bool) (f1 : ByteArray → ByteArray → Int) (k : Bool → Option ρ) (L0 : (List TEntry) → (List TEntry) → Int → Int → Option ρ) (a0 : (List TEntry)) : Option ρ := (L0 a0 a0 (List.length a0 : Int) (0 : Int))
def impl_AreEntries_L0 {ρ : Type} (k : Bool → Option ρ) (L0 : (List TEntry) → (List TEntry) → Int → Int → Option ρ) (v0_0 : (List TEntry)) (v0_1 : (List TEntry)) (v0_2 : Int) (v0_3 : Int) : Option ρ := impl_AreEntries_P_L0 N.impl_IsEntry G.impl_IsEntry N.impl_CompareLabels k L0 v0_0 v0_1 v0_2 v0_3
def impl_AreEntries {ρ : Type} (k : Bool → Option ρ) (L0 : (List TEntry) → (List TEntry) → Int → Int → Option ρ) (a0 : (List TEntry)) : Option ρ := impl_AreEntries_P N.impl_IsEntry G.impl_IsEntry N.impl_CompareLabels k L0 a0
theorem impl_AreEntries_ok {ρ : Type} (k : Bool → Option ρ) (a0 : (List TEntry)) (l_a0 : lnL (fun y => (True ∧ (True ∧ (True ∧ lnL (fun _ => True) y.2.2.2)))) a0) (g : G.impl_AreEntries a0 = true) : ∃ n0, ∀ n, n0 ≤ n → ∀ (L0 : Nat → (List TEntry) → (List TEntry) → Int → Int → Option ρ) (h0 : ∀ ( m : Nat) (v0_0 : (List TEntry)) (v0_1 : (List TEntry)) (v0_2 : Int) (v0_3 : Int), L0 (m + 1) v0_0 v0_1 v0_2 v0_3 = impl_AreEntries_L0 k (L0 m) v0_0 v0_1 v0_2 v0_3), impl_AreEntries k (L0 n) a0 = k (N.impl_AreEntries a0) := by
  unfold G.impl_AreEntries at g
  have hw : wEs a0 ≤ 1048577 := of_decide_eq_true g
  have hl : a0.length ≤ 1048577 := by unfold wEs at hw; omega
  refine ⟨a0.length + 1, fun n hn L0 h0 => ?_⟩
  have hrun := raw_run0 (σ := Unit) (s := ()) (L := fun m i _ => L0 m a0 a0 (a0.length : Int) i) (R := fun i _ c => impl_AreEntries_L0 k (fun _ _ _ i => c i ()) a0 a0 (a0.length : Int) i) (fun m i s => h0 m a0 a0 (a0.length : Int) i) a0.length (fun _ _ => True) (fun j _ => cond (areFrom a0 (a0.length - j) j) (k (decide (a0.length ≤ 12))) (k false)) (fun j s c hj _ hc => ?_) (fun s c _ => ?_) hn trivial
  · refine hrun.trans ?_
    show _ = k (areFrom a0 a0.length 0 && decide (a0.length ≤ 12))
    rw [Nat.sub_zero]
    cases areFrom a0 a0.length 0 <;> rfl
  · obtain ⟨m, hm⟩ : ∃ m, a0.length - j = m + 1 := ⟨a0.length - j - 1, by omega⟩
    have hm2 : a0.length - (j + 1) = m := by omega
    have hc' := hc () trivial
    rw [hm2] at hc'
    have hmem := wEs_mem1 (getD_mem (d := (ByteArray.empty, (0, (0, [])))) hj)
    have g2 : decide (wE (a0.getD j (ByteArray.empty, (0, (0, [])))) ≤ 1048576) = true := by simp only [decide_eq_true_eq]; omega
    rw [hm]
    unfold areFrom
    by_cases h0j : j = 0
    · subst h0j
      simp only [impl_AreEntries_L0, impl_AreEntries_P_L0, lt_nat, inRange_nat, decide_eq_true hj, cond_true, Int.toNat_natCast, G.impl_IsEntry, N.impl_IsEntry, g2, wrap_succ (j := 0) (by unfold big; omega), hc']
      cases isEntry (a0.getD 0 (ByteArray.empty, (0, (0, [])))) <;> simp
    · have e1 : decide ((j : Int) > 0) = true := by simp; omega
      have e2 : IntKind.wrap .i64 ((j : Int) - 1) = ((j - 1 : Nat) : Int) := by rw [wrap_id (by omega) (by omega)]; omega
      have e3 : j - 1 < a0.length := by omega
      simp only [impl_AreEntries_L0, impl_AreEntries_P_L0, lt_nat, inRange_nat, decide_eq_true hj, cond_true, Int.toNat_natCast, G.impl_IsEntry, N.impl_IsEntry, N.impl_CompareLabels, g2, e1, e2, decide_eq_true e3, wrap_succ (j := j) (by unfold big; omega), hc', decide_eq_false h0j, cmpStr_swap]
      cases isEntry (a0.getD j (ByteArray.empty, (0, (0, [])))) <;> cases cmpStr (a0.getD (j - 1) (ByteArray.empty, (0, (0, [])))).1 (a0.getD j (ByteArray.empty, (0, (0, [])))).1 == -1 <;> simp
  · have e1 : decide ((a0.length : Int) ≤ 12) = decide (a0.length ≤ 12) := by simp only [decide_eq_decide]; omega
    rw [Nat.sub_self]
    simp [impl_AreEntries_L0, impl_AreEntries_P_L0, areFrom, e1]
def OP_impl_AreEntries (f0 : TEntry → Bool) (g0 : TEntry → Bool) (f1 : ByteArray → ByteArray → Int) : Orac := (orcX 31 [.val .str, .val .str] (fun d => true) (fun d => [⟨(.int .i64), f1 d.1 d.2.1⟩]) (orcX 41 [.val TyEntry] (fun d => g0 d.1) (fun d => [⟨.bool, f0 d.1⟩]) nilO))
def O_impl_AreEntries : Orac := OP_impl_AreEntries N.impl_IsEntry G.impl_IsEntry N.impl_CompareLabels
theorem ok_impl_AreEntries : OracOk Try.prog sigs O_impl_AreEntries := (orcX_ok rfl rfl (fun d g => said_impl_CompareLabels d.1 d.2.1) (orcX_ok rfl rfl (fun d g => said_impl_IsEntry d.1 g) nilO_ok))
def A_impl_AreEntries : Ann := fun b => cond (Nat.beq b 0) ⟨[(0, false), (5, false), (6, false), (7, false)], []⟩ (⟨[], []⟩)
def S_impl_AreEntries_0 (v0_0 : (List TEntry)) (v0_1 : (List TEntry)) (v0_2 : Int) (v0_3 : Int) : St := [(kT 0, some (.tv (.v (.slice 32 TyEntry) v0_0 .no))), (kT 5, some (.tv (.v (.slice 32 TyEntry) v0_1 .no))), (kT 6, some (.tv (.v (.int .i64) v0_2 .no))), (kT 7, some (.tv (.v (.int .i64) v0_3 .no)))]
noncomputable def L_P_impl_AreEntries_0 (f0 : TEntry → Bool) (g0 : TEntry → Bool) (f1 : ByteArray → ByteArray → Int) (n m : Nat) : St → Option Ret := loopOf tab sigs (OP_impl_AreEntries f0 g0 f1) A_impl_AreEntries Try.f28 [(.bool, .no)] n (fun _ => 0) 0 m
theorem bP_impl_AreEntries_0 (f0 : TEntry → Bool) (g0 : TEntry → Bool) (f1 : ByteArray → ByteArray → Int) (n m : Nat) (v0_0 : (List TEntry)) (v0_1 : (List TEntry)) (v0_2 : Int) (v0_3 : Int) : L_P_impl_AreEntries_0 f0 g0 f1 n (m + 1) (S_impl_AreEntries_0 v0_0 v0_1 v0_2 v0_3) = impl_AreEntries_P_L0 f0 g0 f1 (fun r0 => some [⟨.bool, r0⟩]) (fun v0_0 v0_1 v0_2 v0_3 => L_P_impl_AreEntries_0 f0 g0 f1 n m (S_impl_AreEntries_0 v0_0 v0_1 v0_2 v0_3)) v0_0 v0_1 v0_2 v0_3 := by kernel_rfl
theorem aP_impl_AreEntries (f0 : TEntry → Bool) (g0 : TEntry → Bool) (f1 : ByteArray → ByteArray → Int) (n : Nat) (a0 : (List TEntry)) : absF tab sigs (OP_impl_AreEntries f0 g0 f1) A_impl_AreEntries Try.f28 [(.bool, .no)] n [.val (.slice 32 TyEntry) a0] = impl_AreEntries_P f0 g0 f1 (fun r0 => some [⟨.bool, r0⟩]) (fun v0_0 v0_1 v0_2 v0_3 => L_P_impl_AreEntries_0 f0 g0 f1 n n (S_impl_AreEntries_0 v0_0 v0_1 v0_2 v0_3)) a0 := by kernel_rfl
theorem said_impl_AreEntries (a0 : (List TEntry)) (g : G.impl_AreEntries a0 = true) : Said Try.prog sigs_28 28 [.val (.slice 32 TyEntry) a0] [⟨.bool, N.impl_AreEntries a0⟩] := said_len (T := tab) (A := A_impl_AreEntries) tabOk ok_impl_AreEntries tabOk.follows Try.func28 (by kernel_rfl) (by kernel_rfl) (fun hl => let ⟨n, hn⟩ := impl_AreEntries_ok (ρ := Ret) (fun r0 => some [⟨.bool, r0⟩]) a0 hl.1 g; ⟨n, (aP_impl_AreEntries N.impl_IsEntry G.impl_IsEntry N.impl_CompareLabels n a0).trans (hn n (Nat.le_refl n) (fun  m v0_0 v0_1 v0_2 v0_3 => L_P_impl_AreEntries_0 N.impl_IsEntry G.impl_IsEntry N.impl_CompareLabels n  m (S_impl_AreEntries_0 v0_0 v0_1 v0_2 v0_3)) (fun  m v0_0 v0_1 v0_2 v0_3 => bP_impl_AreEntries_0 N.impl_IsEntry G.impl_IsEntry N.impl_CompareLabels n  m v0_0 v0_1 v0_2 v0_3))⟩)
abbrev N.impl_PutEntry_s1 (e : TEntry) (s : ByteArray) : Int := cmpStr e.1 s
def impl_PutEntry_s1 {ρ : Type} (k : Int → Option ρ) (a0 : TEntry) (a1 : ByteArray) : Option ρ := (k (N.impl_CompareLabels a0.1 a1))
theorem impl_PutEntry_s1_ok {ρ : Type} (k : Int → Option ρ) (a0 : TEntry) (a1 : ByteArray) (l_a0 : (True ∧ (True ∧ (True ∧ lnL (fun _ => True) a0.2.2.2)))) : impl_PutEntry_s1 k  a0 a1 = k (N.impl_PutEntry_s1 a0 a1) := by
  rfl
def OP_impl_PutEntry_s1 (f0 : ByteArray → ByteArray → Int) : Orac := (orcX 31 [.val .str, .val .str] (fun d => true) (fun d => [⟨(.int .i64), f0 d.1 d.2.1⟩]) nilO)
def O_impl_PutEntry_s1 : Orac := OP_impl_PutEntry_s1 N.impl_CompareLabels
def impl_PutEntry_s1_P {ρ : Type} (f0 : ByteArray → ByteArray → Int) (k : Int → Option ρ) (a0 : TEntry) (a1 : ByteArray) : Option ρ := (k (f0 a0.1 a1))
theorem ok_impl_PutEntry_s1 : OracOk Try.prog sigs O_impl_PutEntry_s1 := (orcX_ok rfl rfl (fun d g => said_impl_CompareLabels d.1 d.2.1) nilO_ok)
def A_impl_PutEntry_s1 : Ann := fun b => ⟨[], []⟩
theorem aP_impl_PutEntry_s1 (f0 : ByteArray → ByteArray → Int) (n : Nat) (a0 : TEntry) (a1 : ByteArray) : absF tab sigs (OP_impl_PutEntry_s1 f0) A_impl_PutEntry_s1 Try.f30 [((.int .i64), .no)] n [.val TyEntry a0, .val .str a1] = impl_PutEntry_s1_P f0 (fun r0 => some [⟨(.int .i64), r0⟩])  a0 a1 := by kernel_rfl
theorem said_impl_PutEntry_s1 (a0 : TEntry) (a1 : ByteArray) : Said Try.prog sigs_30 30 [.val TyEntry a0, .val .str a1] [⟨(.int .i64), N.impl_PutEntry_s1 a0 a1⟩] := said_len (T := tab) (A := A_impl_PutEntry_s1) tabOk ok_impl_PutEntry_s1 tabOk.follows Try.func30 (by kernel_rfl) (by kernel_rfl) (fun hl => ⟨0, (aP_impl_PutEntry_s1 N.impl_CompareLabels 0 a0 a1).trans (impl_PutEntry_s1_ok (ρ := Ret) (fun r0 => some [⟨(.int .i64), r0⟩]) a0 a1 hl.1)⟩)
abbrev G.slices_BinarySearchFunc_impl_Entry__impl_PutEntry_s1 (l : List TEntry) (s : ByteArray) : Bool := decide (l.length ≤ 1048576)
abbrev N.slices_BinarySearchFunc_impl_Entry__impl_PutEntry_s1 (l : List TEntry) (s : ByteArray) : Int × Bool := ((bsAt l s : Int), bsHit l s)
def slices_BinarySearchFunc_impl_Entry__impl_PutEntry_s1_P_L0 {ρ : Type} (f0 : TEntry → ByteArray → Int) (k : Int → Bool → Option ρ) (L0 : (List TEntry) → ByteArray → Int → Int → Int → Option ρ) (v0_0 : (List TEntry)) (v0_1 : ByteArray) (v0_2 : Int) (v0_3 : Int) (v0_4 : Int) : Option ρ := (cond (decide (v0_3 < v0_4)) (cond (inRange (IntKind.wrap .i64 ((IntKind.wrap .u64 (IntKind.wrap .i64 (v0_3 + v0_4))) / (2 : Int) ^ 1)) (List.length v0_0)) (cond (decide ((f0 (List.getD v0_0 (Int.toNat (IntKind.wrap .i64 ((IntKind.wrap .u64 (IntKind.wrap .i64 (v0_3 + v0_4))) / (2 : Int) ^ 1))) (ByteArray.empty, ((0 : Int), ((0 : Int), [])))) v0_1) < (0 : Int))) (L0 v0_0 v0_1 v0_2 (IntKind.wrap .i64 ((IntKind.wrap .i64 ((IntKind.wrap .u64 (IntKind.wrap .i64 (v0_3 + v0_4))) / (2 : Int) ^ 1)) + (1 : Int))) v0_4) (L0 v0_0 v0_1 v0_2 v0_3 (IntKind.wrap .i64 ((IntKind.wrap .u64 (IntKind.wrap .i64 (v0_3 + v0_4))) / (2 : Int) ^ 1)))) none) (cond (decide (v0_3 < v0_2)) (cond (inRange v0_3 (List.length v0_0)) (k v0_3 ((f0 (List.getD v0_0 (Int.toNat v0_3) (ByteArray.empty, ((0 : Int), ((0 : Int), [])))) v0_1) == (0 : Int))) none) (k v0_3 false)))
def slices_BinarySearchFunc_impl_Entry__impl_PutEntry_s1_P {ρ : Type} (f0 : TEntry → ByteArray → Int) (k : Int → Bool → Option ρ) (L0 : (List TEntry) → ByteArray → Int → Int → Int → Option ρ) (a0 : (List TEntry)) (a1 : ByteArray) : Option ρ := (L0 a0 a1 (List.length a0 : Int) (0 : Int) (List.length a0 : Int))
def slices_BinarySearchFunc_impl_Entry__impl_PutEntry_s1_L0 {ρ : Type} (k : Int → Bool → Option ρ) (L0 : (List TEntry) → ByteArray → Int → Int → Int → Option ρ) (v0_0 : (List TEntry)) (v0_1 : ByteArray) (v0_2 : Int) (v0_3 : Int) (v0_4 : Int) : Option ρ := slices_BinarySearchFunc_impl_Entry__impl_PutEntry_s1_P_L0 N.impl_PutEntry_s1 k L0 v0_0 v0_1 v0_2 v0_3 v0_4
def slices_BinarySearchFunc_impl_Entry__impl_PutEntry_s1 {ρ : Type} (k : Int → Bool → Option ρ) (L0 : (List TEntry) → ByteArray → Int → Int → Int → Option ρ) (a0 : (List TEntry)) (a1 : ByteArray) : Option ρ := slices_BinarySearchFunc_impl_Entry__impl_PutEntry_s1_P N.impl_PutEntry_s1 k L0 a0 a1
theorem slices_BinarySearchFunc_impl_Entry__impl_PutEntry_s1_ok {ρ : Type} (k : Int → Bool → Option ρ) (a0 : (List TEntry)) (a1 : ByteArray) (l_a0 : lnL (fun y => (True ∧ (True ∧ (True ∧ lnL (fun _ => True) y.2.2.2)))) a0) (g : G.slices_BinarySearchFunc_impl_Entry__impl_PutEntry_s1 a0 a1 = true) : ∃ n0, ∀ n, n0 ≤ n → ∀ (L0 : Nat → (List TEntry) → ByteArray → Int → Int → Int → Option ρ) (h0 : ∀ ( m : Nat) (v0_0 : (List TEntry)) (v0_1 : ByteArray) (v0_2 : Int) (v0_3 : Int) (v0_4 : Int), L0 (m + 1) v0_0 v0_1 v0_2 v0_3 v0_4 = slices_BinarySearchFunc_impl_Entry__impl_PutEntry_s1_L0 k (L0 m) v0_0 v0_1 v0_2 v0_3 v0_4), slices_BinarySearchFunc_impl_Entry__impl_PutEntry_s1 k (L0 n) a0 a1 = k (N.slices_BinarySearchFunc_impl_Entry__impl_PutEntry_s1 a0 a1).1 (N.slices_BinarySearchFunc_impl_Entry__impl_PutEntry_s1 a0 a1).2 := by
  unfold G.slices_BinarySearchFunc_impl_Entry__impl_PutEntry_s1 at g
  have hl : a0.length ≤ 1048576 := of_decide_eq_true g
  refine ⟨a0.length + 1, fun n hn L0 h0 => ?_⟩
  have fin : ∀ (m i : Nat), i ≤ a0.length → slices_BinarySearchFunc_impl_Entry__impl_PutEntry_s1_L0 k (L0 m) a0 a1 (a0.length : Int) (i : Int) (i : Int) = k (i : Int) (decide (i < a0.length) && cmpStr (at' a0 i).1 a1 == 0) := by
    intro m i hi
    simp only [slices_BinarySearchFunc_impl_Entry__impl_PutEntry_s1_L0, slices_BinarySearchFunc_impl_Entry__impl_PutEntry_s1_P_L0, lt_nat, Nat.lt_irrefl, decide_false, cond_false, inRange_nat, Int.toNat_natCast, N.impl_PutEntry_s1]
    cases decide (i < a0.length) <;> rfl
  have go : ∀ (d n' i j : Nat), j - i ≤ d → d < n' → i ≤ j → j ≤ a0.length → L0 n' a0 a1 (a0.length : Int) (i : Int) (j : Int) = k ((bsGo a0 a1 d i j : Nat) : Int) (decide (bsGo a0 a1 d i j < a0.length) && cmpStr (at' a0 (bsGo a0 a1 d i j)).1 a1 == 0) := by
    intro d
    induction d with
    | zero =>
      intro n' i j hd hn' hij hj
      obtain ⟨m, rfl⟩ : ∃ m, n' = m + 1 := ⟨n' - 1, by omega⟩
      have : i = j := by omega
      subst this
      rw [h0]
      exact fin m i hj
    | succ d ih =>
      intro n' i j hd hn' hij hj
      obtain ⟨m, rfl⟩ : ∃ m, n' = m + 1 := ⟨n' - 1, by omega⟩
      rw [h0]
      by_cases c : i < j
      · have e1 : IntKind.wrap .i64 ((IntKind.wrap .u64 (IntKind.wrap .i64 ((i : Int) + (j : Int)))) / (2 : Int) ^ 1) = (((i + j) / 2 : Nat) : Int) := half_at (by omega)
        have e2 : (i + j) / 2 < a0.length := by omega
        simp only [slices_BinarySearchFunc_impl_Entry__impl_PutEntry_s1_L0, slices_BinarySearchFunc_impl_Entry__impl_PutEntry_s1_P_L0, lt_nat, decide_eq_true c, cond_true, e1, inRange_nat, decide_eq_true e2, Int.toNat_natCast, N.impl_PutEntry_s1, wrap_succ (j := (i + j) / 2) (by unfold big; omega)]
        unfold bsGo
        rw [decide_eq_true c, cond_true]
        show cond (decide (cmpStr (at' a0 ((i + j) / 2)).1 a1 < 0)) _ _ = _
        cases decide (cmpStr (at' a0 ((i + j) / 2)).1 a1 < 0) with
        | true => exact ih m ((i + j) / 2 + 1) j (by omega) (by omega) (by omega) hj
        | false => exact ih m i ((i + j) / 2) (by omega) (by omega) (by omega) (by omega)
      · have : i = j := by omega
        subst this
        unfold bsGo
        rw [decide_eq_false c, cond_false]
        exact fin m i hj
  exact go a0.length n 0 a0.length (by omega) hn (by omega) (Nat.le_refl _)
def OP_slices_BinarySearchFunc_impl_Entry__impl_PutEntry_s1 (f0 : TEntry → ByteArray → Int) : Orac := (orcX 30 [.val TyEntry, .val .str] (fun d => true) (fun d => [⟨(.int .i64), f0 d.1 d.2.1⟩]) nilO)
def O_slices_BinarySearchFunc_impl_Entry__impl_PutEntry_s1 : Orac := OP_slices_BinarySearchFunc_impl_Entry__impl_PutEntry_s1 N.impl_PutEntry_s1
theorem ok_slices_BinarySearchFunc_impl_Entry__impl_PutEntry_s1 : OracOk Try.prog sigs O_slices_BinarySearchFunc_impl_Entry__impl_PutEntry_s1 := (orcX_ok rfl rfl (fun d g => said_impl_PutEntry_s1 d.1 d.2.1) nilO_ok)
def A_slices_BinarySearchFunc_impl_Entry__impl_PutEntry_s1 : Ann := fun b => cond (Nat.beq b 0) ⟨[(0, false), (1, false), (2, false), (8, false), (9, false), (10, false)], []⟩ (⟨[], []⟩)
def S_slices_BinarySearchFunc_impl_Entry__impl_PutEntry_s1_0 (v0_0 : (List TEntry)) (v0_1 : ByteArray) (v0_2 : Int) (v0_3 : Int) (v0_4 : Int) : St := [(kT 0, some (.tv (.v (.slice 32 TyEntry) v0_0 .no))), (kT 1, some (.tv (.v .str v0_1 .no))), (kT 2, some (.tv (.clo 30 []))), (kT 8, some (.tv (.v (.int .i64) v0_2 .no))), (kT 9, some (.tv (.v (.int .i64) v0_3 .no))), (kT 10, some (.tv (.v (.int .i64) v0_4 .no)))]
noncomputable def L_P_slices_BinarySearchFunc_impl_Entry__impl_PutEntry_s1_0 (f0 : TEntry → ByteArray → Int) (n m : Nat) : St → Option Ret := loopOf tab sigs (OP_slices_BinarySearchFunc_impl_Entry__impl_PutEntry_s1 f0) A_slices_BinarySearchFunc_impl_Entry__impl_PutEntry_s1 Try.f29 [((.int .i64), .no), (.bool, .no)] n (fun _ => 0) 0 m
theorem bP_slices_BinarySearchFunc_impl_Entry__impl_PutEntry_s1_0 (f0 : TEntry → ByteArray → Int) (n m : Nat) (v0_0 : (List TEntry)) (v0_1 : ByteArray) (v0_2 : Int) (v0_3 : Int) (v0_4 : Int) : L_P_slices_BinarySearchFunc_impl_Entry__impl_PutEntry_s1_0 f0 n (m + 1) (S_slices_BinarySearchFunc_impl_Entry__impl_PutEntry_s1_0 v0_0 v0_1 v0_2 v0_3 v0_4) = slices_BinarySearchFunc_impl_Entry__impl_PutEntry_s1_P_L0 f0 (fun r0 r1 => some [⟨(.int .i64), r0⟩, ⟨.bool, r1⟩]) (fun v0_0 v0_1 v0_2 v0_3 v0_4 => L_P_slices_BinarySearchFunc_impl_Entry__impl_PutEntry_s1_0 f0 n m (S_slices_BinarySearchFunc_impl_Entry__impl_PutEntry_s1_0 v0_0 v0_1 v0_2 v0_3 v0_4)) v0_0 v0_1 v0_2 v0_3 v0_4 := by kernel_rfl
theorem aP_slices_BinarySearchFunc_impl_Entry__impl_PutEntry_s1 (f0 : TEntry → ByteArray → Int) (n : Nat) (a0 : (List TEntry)) (a1 : ByteArray) : absF tab sigs (OP_slices_BinarySearchFunc_impl_Entry__impl_PutEntry_s1 f0) A_slices_BinarySearchFunc_impl_Entry__impl_PutEntry_s1 Try.f29 [((.int .i64), .no), (.bool, .no)] n [.val (.slice 32 TyEntry) a0, .val .str a1, .clo 30 []] = slices_BinarySearchFunc_impl_Entry__impl_PutEntry_s1_P f0 (fun r0 r1 => some [⟨(.int .i64), r0⟩, ⟨.bool, r1⟩]) (fun v0_0 v0_1 v0_2 v0_3 v0_4 => L_P_slices_BinarySearchFunc_impl_Entry__impl_PutEntry_s1_0 f0 n n (S_slices_BinarySearchFunc_impl_Entry__impl_PutEntry_s1_0 v0_0 v0_1 v0_2 v0_3 v0_4)) a0 a1 := by kernel_rfl
theorem said_slices_BinarySearchFunc_impl_Entry__impl_PutEntry_s1 (a0 : (List TEntry)) (a1 : ByteArray) (g : G.slices_BinarySearchFunc_impl_Entry__impl_PutEntry_s1 a0 a1 = true) : Said Try.prog sigs_29 29 [.val (.slice 32 TyEntry) a0, .val .str a1, .clo 30 []] [⟨(.int .i64), (N.slices_BinarySearchFunc_impl_Entry__impl_PutEntry_s1 a0 a1).1⟩, ⟨.bool, (N.slices_BinarySearchFunc_impl_Entry__impl_PutEntry_s1 a0 a1).2⟩] := said_len (T := tab) (A := A_slices_BinarySearchFunc_impl_Entry__impl_PutEntry_s1) tabOk ok_slices_BinarySearchFunc_impl_Entry__impl_PutEntry_s1 tabOk.follows Try.func29 (by kernel_rfl) (by kernel_rfl) (fun hl => let ⟨n, hn⟩ := slices_BinarySearchFunc_impl_Entry__impl_PutEntry_s1_ok (ρ := Ret) (fun r0 r1 => some [⟨(.int .i64), r0⟩, ⟨.bool, r1⟩]) a0 a1 hl.1 g; ⟨n, (aP_slices_BinarySearchFunc_impl_Entry__impl_PutEntry_s1 N.impl_PutEntry_s1 n a0 a1).trans (hn n (Nat.le_refl n) (fun  m v0_0 v0_1 v0_2 v0_3 v0_4 => L_P_slices_BinarySearchFunc_impl_Entry__impl_PutEntry_s1_0 N.impl_PutEntry_s1 n  m (S_slices_BinarySearchFunc_impl_Entry__impl_PutEntry_s1_0 v0_0 v0_1 v0_2 v0_3 v0_4)) (fun  m v0_0 v0_1 v0_2 v0_3 v0_4 => bP_slices_BinarySearchFunc_impl_Entry__impl_PutEntry_s1_0 N.impl_PutEntry_s1 n  m v0_0 v0_1 v0_2 v0_3 v0_4))⟩)
def G.slices_Insert_impl_Entry (l : List TEntry) (i : Int) (v : List TEntry) : Bool := decide (0 ≤ i) && (decide (i ≤ (l.length : Int)) && (decide (l.length ≤ 549755813888) && decide (v.length = 1)))
abbrev N.slices_Insert_impl_Entry (l : List TEntry) (i : Int) (v : List TEntry) : List TEntry := l.insertIdx i.toNat (v.getD 0 dE)
-- HAND
section
open Go.Shelf Go.Lib Go.Proofs
section
variable {b n c i vb m vc : Nat} {cs vs : List Value} {w : World}
set_option maxHeartbeats 4000000
set_option maxRecDepth 100000
theorem ins_shift (hi : i < n) (hm : 0 < m) (hroom : n + m ≤ c) (hc63 : c ≤ 9223372036854775807) (hvb : vb ≠ b)
    (hcl : cs.length = n * 4) (hvl : vs.length = m * 4)
    (hcs : ∀ j v, cs[j]? = some v → w.cell? ⟨b, j, none⟩ = some v) (hsp : ∀ j, j < (n + m) * 4 → (w.cell? ⟨b, j, none⟩).isSome = true) (hfz : ∀ j, j < (n + m) * 4 → w.frozen? ⟨b, j, none⟩ = false)
    (hvs : ∀ j v, vs[j]? = some v → w.cell? ⟨vb, j, none⟩ = some v) (h1c : ∀ v ∈ cs, v.oneCell' = true) (h1v : ∀ v ∈ vs, v.oneCell' = true)
    (tA tB : TypeId) (kA kB : Nat) (hsa : w.shape? vb = some (tA, kA)) (hsb : w.shape? b = some (tB, kB)) (hkB : kB ≠ 0) (hfa : w.frozen? ⟨vb, 0, none⟩ = false) (hfe : w.frozen? ⟨vb, kA, none⟩ = false) :
    Calls Try.prog 33 #[.slice (some ⟨b, 0, none⟩) n c, .int .i64 i, .slice (some ⟨vb, 0, none⟩) m vc] w fun e w' =>
      e = .returned (.slice (some ⟨b, 0, none⟩) (n + m) c) ∧ w' = (w.drew.setCells b ((i + m) * 4) (cs.drop (i * 4))).setCells b (i * 4) vs := by
  have mixed : Try.prog.follows .mixedOrders = true := by kernel_rfl
  have u28 := run_underlying (P := Try.prog) Try.underlying28
  have hz1 : ¬ ((m : Int) = 0) := by omega
  have hz2 : ¬ ((i : Int) = (n : Int)) := by omega
  have hsz : (Try.prog.info? 32).map (·.size) = some 4 := by kernel_rfl
  have hov : ∀ lb cb, (callFunc 44 #[.slice (some ⟨vb, 0, none⟩) m vc, .slice (some ⟨b, (i + m) * 4, none⟩) lb cb]).run Try.prog w = .ok (.value (.bool false)) w := fun lb cb => by
    rw [run_callFunc_extern Try.func44 (by kernel_rfl) (by kernel_rfl) (by kernel_rfl) (e := Extern.SlicesOverlaps.overlaps #[28, 28] #[4]) (by kernel_rfl),
      Lib.run_overlaps_apart w 28 4 32 Try.underlying28 4 Try.sizeOf32 ⟨vb, 0, none⟩ ⟨b, (i + m) * 4, none⟩ m vc lb cb hvb tA tB kA kB hsa hsb hkB hfa hfe]
    rfl
  have hdl : (cs.drop (i * 4)).length = (n - i) * 4 := by rw [List.length_drop, hcl]; omega
  have hmin1 : Nat.min (n + m - i) (n + m - (i + m)) = n - i := by simp only [Nat.min_def]; split <;> omega
  have hmin2 : Nat.min m (n + m - i) = m := by simp only [Nat.min_def]; split <;> omega
  have hw1 : IntKind.i64.wrap ((i : Int) + (m : Int)) = (i : Int) + (m : Int) := by rw [IntKind.wrap_i64]; omega
  have hb1 : (0 : Int) ≤ (i : Int) + (m : Int) := by omega
  have hin : i ≤ n := by omega
  have htn : ((i : Int) + (m : Int)).toNat = i + m := by omega
  have hb2 : ¬ (c = i + m) := by omega
  have hb3 : (i : Int) ≤ (n : Int) + (m : Int) := by omega
  have hb4 : ¬ (c = i) := by omega
  have hcp1 : ∀ ty dc sc, (Builtin.copy_ #[28, 28] ty #[.slice (some ⟨b, (i + m) * 4, none⟩) (n + m - (i + m)) dc, .slice (some ⟨b, i * 4, none⟩) (n + m - i) sc]).run Try.prog w.drew = .ok (goInt ((n - i : Nat) : Int)) (w.drew.setCells b ((i + m) * 4) (cs.drop (i * 4))) := fun ty dc sc => by
    have h := run_copy_wide (P := Try.prog) w.drew 28 28 ty 32 4 b ((i + m) * 4) (n + m - (i + m)) dc ⟨b, i * 4, none⟩ (n + m - i) sc (cs.drop (i * 4)) Try.underlying28 hsz (by rw [hdl, hmin1])
      (fun j v hj => by rw [Addr.add_lit]; exact hcs (i * 4 + j) v (by rwa [List.getElem?_drop] at hj))
      (fun j hj => by exact hsp _ (by omega)) (fun j hj => by exact hfz _ (by omega)) (fun v hv => h1c v (List.mem_of_mem_drop hv))
    rw [hmin1] at h
    exact h
  obtain ⟨W1, hW1⟩ : ∃ W1, W1 = w.drew.setCells b ((i + m) * 4) (cs.drop (i * 4)) := ⟨_, rfl⟩
  have hsp1 : ∀ k, k < (n + m) * 4 → (W1.cell? ⟨b, k, none⟩).isSome = true := fun k hk => by
    rw [hW1]
    exact isSome_setCells b _ _ _ (fun j hj => by exact hsp _ (by omega)) _ (hsp k hk)
  have hcp2 : ∀ (W : World), (∀ x, W.cell? x = W1.cell? x) → (∀ x, W.frozen? x = W1.frozen? x) → ∀ ty dc, (Builtin.copy_ #[28, 28] ty #[.slice (some ⟨b, i * 4, none⟩) (n + m - i) dc, .slice (some ⟨vb, 0, none⟩) m vc]).run Try.prog W = .ok (goInt m) (W.setCells b (i * 4) vs) := fun W hWc hWf ty dc => by
    have h := run_copy_wide (P := Try.prog) W 28 28 ty 32 4 b (i * 4) (n + m - i) dc ⟨vb, 0, none⟩ m vc vs Try.underlying28 hsz (by rw [hvl, hmin2])
      (fun j v hj => by
        rw [Addr.add_lit, hWc, hW1, World.cell?_setCells_out b _ _ _ _ (fun h _ => absurd h hvb), Nat.zero_add]
        exact hvs j v hj)
      (fun j hj => by rw [hWc]; exact hsp1 _ (by omega)) (fun j hj => by rw [hWf, hW1, World.frozen?_setCells]; exact hfz _ (by omega)) h1v
    rw [hmin2] at h
    exact h
  rw [← hW1] at hcp1
  clear hcs hsp hfz hvs h1c h1v hsp1 hdl hmin1 hmin2
  go_enter Try.func33, Try.ntmps33
  go_wp2_with (simp only [hov])
  go_region_law_o (refine step_copy_runI rfl _ _ 28 28 rfl _ _ (by simp [Act.eval, Act.put]) (by simp [Act.eval, Act.put]) (hcp1 _ _ _) ?_)
  go_wp2_with (at_builtin; refine wpList_copy_runI _ rfl _ _ 28 28 rfl _ _ rfl rfl (hcp2 _ (fun _ => rfl) (fun _ => rfl) _ _) ?_)
  go_ret
  first | exact ⟨rfl, rfl⟩ | exact ⟨rfl, by rw [hW1]⟩
theorem ins_room (hm : 0 < m) (hroom : n + m ≤ c) (hc63 : c ≤ 9223372036854775807)
    (hvl : vs.length = m * 4) (hsp : ∀ j, j < m * 4 → (w.cell? ⟨b, n * 4 + j, none⟩).isSome = true) (hfz : ∀ j, j < m * 4 → w.frozen? ⟨b, n * 4 + j, none⟩ = false)
    (hvs : ∀ j v, vs[j]? = some v → w.cell? ⟨vb, j, none⟩ = some v) (h1v : ∀ v ∈ vs, v.oneCell' = true) :
    Calls Try.prog 33 #[.slice (some ⟨b, 0, none⟩) n c, .int .i64 n, .slice (some ⟨vb, 0, none⟩) m vc] w fun e w' =>
      e = .returned (.slice (some ⟨b, 0, none⟩) (n + m) c) ∧ w' = w.setCells b (n * 4) vs := by
  have mixed : Try.prog.follows .mixedOrders = true := by kernel_rfl
  have u28 := run_underlying (P := Try.prog) Try.underlying28
  obtain ⟨i0, hi0, hzs⟩ := Option.map_eq_some_iff.1 (show (Try.prog.info? 32).map (·.size) = some 4 by kernel_rfl)
  have hz1 : ¬ ((m : Int) = 0) := by omega
  have hsrc : Src Try.prog i0.size 28 (.slice (some ⟨vb, 0, none⟩) m vc) m vs w := by
    rw [hzs]
    exact Src.ofSlice w Try.underlying28 ⟨vb, 0, none⟩ m vc vs hvl (fun j u hj => by rw [Addr.add_lit, Nat.zero_add]; exact hvs j u hj) h1v
  have hrun : ∀ ty, (Builtin.append_ #[28, 28] ty #[.slice (some ⟨b, 0, none⟩) n c, .slice (some ⟨vb, 0, none⟩) m vc]).run Try.prog w = .ok (.slice (some ⟨b, 0, none⟩) (n + m) c) (w.setCells b (n * 4) vs) := fun ty => by
    have h := run_append_room_src (P := Try.prog) w 28 28 ty 32 i0 Try.underlying28 hi0 b 0 n c _ m vs hsrc hroom (fun j hj => by rw [hzs, Nat.zero_add]; exact hsp j (by omega)) (fun j hj => by rw [hzs, Nat.zero_add]; exact hfz j (by omega))
    rw [hzs, Nat.zero_add] at h
    exact h
  clear hsp hfz hvs h1v hsrc
  go_enter Try.func33, Try.ntmps33
  go_wp2_with (at_builtin; refine Lib.wpList_append_run _ rfl _ _ _ _ rfl _ _ rfl rfl _ _ (hrun _) ?_)
  go_ret
  exact ⟨rfl, rfl⟩
theorem ins_end (base : Option Addr) (hm : 0 < m) (hnc : n ≤ c) (hroom : c < n + m) (hbig : (n + m) * 64 ≤ 140737488355328)
    (hcl : cs.length = n * 4) (hvl : vs.length = m * 4) (hnil : base = none → n = 0)
    (hcs : ∀ a, base = some a → ∀ j v, cs[j]? = some v → w.cell? (a.add j) = some v)
    (hvs : ∀ j v, vs[j]? = some v → w.cell? ⟨vb, j, none⟩ = some v) (h1v : ∀ v ∈ vs, v.oneCell' = true) :
    Calls Try.prog 33 #[.slice base n c, .int .i64 n, .slice (some ⟨vb, 0, none⟩) m vc] w fun e w' => ∃ (G : Nat) (ROW : Array Value),
      e = .returned (.slice (some ⟨w.heap.size, 0, none⟩) (n + m) G) ∧ w' = w.drew.alloc (.cells ROW 32) ∧ n + m ≤ G ∧ G ≤ maxLen ∧ ROW.size = G * 4 ∧ ROW.toList.take ((n + m) * 4) = cs ++ vs := by
  have mixed : Try.prog.follows .mixedOrders = true := by kernel_rfl
  have u28 := run_underlying (P := Try.prog) Try.underlying28
  obtain ⟨i0, hi0, hzz⟩ := Option.map_eq_some_iff.1 (show (Try.prog.info? 32).map (fun i => (i.zero.map (fun z => z.cells.size), i.size, Nat.ble i.bytes 64)) = some (some 4, 4, true) by kernel_rfl)
  simp only [Prod.mk.injEq] at hzz
  obtain ⟨hz0, hzs, hzb⟩ := hzz
  obtain ⟨z, hz, hzc⟩ := Option.map_eq_some_iff.1 hz0
  have hzb := Nat.le_of_ble_eq_true hzb
  have hz1 : ¬ ((m : Int) = 0) := by omega
  have hbig2 : (n + m) * i0.bytes ≤ 140737488355328 := Nat.le_trans (Nat.mul_le_mul_left _ hzb) hbig
  have hsrc : Src Try.prog i0.size 28 (.slice (some ⟨vb, 0, none⟩) m vc) m vs w := by
    rw [hzs]
    exact Src.ofSlice w Try.underlying28 ⟨vb, 0, none⟩ m vc vs hvl (fun j u hj => by rw [Addr.add_lit, Nat.zero_add]; exact hvs j u hj) h1v
  have hold : (Builtin.firstCells i0.size n (.slice base n c)).run Try.prog w.drew = .ok cs.toArray w.drew := by
    rw [hzs]
    cases base with
    | none =>
      have h0 := hnil rfl
      subst h0
      rw [Nat.zero_mul] at hcl
      rw [List.length_eq_zero_iff.1 hcl]
      exact run_firstCells_none w.drew 4 0 0 c
    | some a => exact run_firstCells_some w.drew 4 n a n c cs hcl (fun j v hj => hcs a rfl j v hj)
  have hrun : ∀ ty, (Builtin.append_ #[28, 28] ty #[.slice base n c, .slice (some ⟨vb, 0, none⟩) m vc]).run Try.prog w = _ := fun ty =>
    run_append_grow_src w 28 28 ty 32 i0 _ Try.underlying28 hi0 hz base n c cs hold _ m vs hsrc hroom (by omega) (growslice_fits hroom hbig2)
  have hGn : n + m ≤ grownCap w (n + m) c 32 := grownCap_ge w _ _ _
  have hG63 : grownCap w (n + m) c 32 ≤ maxLen := grownCap_le_maxLen w (n + m) c 32 (by unfold maxLen; omega)
  obtain ⟨G, hG⟩ : ∃ G, G = grownCap w (n + m) c 32 := ⟨_, rfl⟩
  obtain ⟨ROW, hROW⟩ : ∃ ROW : Array Value, ROW = (cs ++ vs).toArray ++ Builtin.zeroCells z.cells (G - (n + m)) := ⟨_, rfl⟩
  rw [← hG] at hrun hGn hG63
  rw [← hROW] at hrun
  have hR1 : ROW.size = G * 4 := by
    rw [hROW]
    simp [Builtin.zeroCells, hzc, hcl, hvl]
    omega
  have hR2 : ROW.toList.take ((n + m) * 4) = cs ++ vs := by
    rw [hROW, Array.toList_append, List.take_append_of_le_length (by simp [hcl, hvl]; omega), List.take_of_length_le (by simp [hcl, hvl]; omega)]
  have key : Calls Try.prog 33 #[.slice base n c, .int .i64 n, .slice (some ⟨vb, 0, none⟩) m vc] w fun e w' => e = .returned (.slice (some ⟨w.heap.size, 0, none⟩) (n + m) G) ∧ w' = w.drew.alloc (.cells ROW 32) := by
    clear hcs hvs h1v hsrc hold hR1 hR2 hROW hz hzc hz0
    go_enter Try.func33, Try.ntmps33
    cases base with
    | none =>
      have h0 := hnil rfl
      subst h0
      go_wp2_with (at_builtin; refine Lib.wpList_append_run _ rfl _ _ _ _ rfl _ _ rfl rfl _ _ (hrun _) ?_)
      go_ret
      exact ⟨rfl, rfl⟩
    | some a =>
      obtain ⟨ab, ao, asp⟩ := a
      go_wp2_with (at_builtin; refine Lib.wpList_append_run _ rfl _ _ _ _ rfl _ _ rfl rfl _ _ (hrun _) ?_)
      all_goals (go_ret; exact ⟨rfl, rfl⟩)
  exact key.mono fun e w' h => ⟨G, ROW, h.1, h.2, hGn, hG63, hR1, hR2⟩
end
section
variable {b n c i vb m vc : Nat} {cs vs : List Value} {w : World}
set_option maxHeartbeats 4000000
set_option maxRecDepth 100000
theorem ins_grow (hi : i < n) (hm : 0 < m) (hnc : n ≤ c) (hroom : c < n + m) (hbig : (n + m) * 64 ≤ 140737488355328)
    (hcl : cs.length = n * 4) (hvl : vs.length = m * 4)
    (hcs : ∀ j v, cs[j]? = some v → w.cell? ⟨b, j, none⟩ = some v)
    (hvs : ∀ j v, vs[j]? = some v → w.cell? ⟨vb, j, none⟩ = some v) (h1c : ∀ v ∈ cs, v.oneCell' = true) (h1v : ∀ v ∈ vs, v.oneCell' = true) :
    Calls Try.prog 33 #[.slice (some ⟨b, 0, none⟩) n c, .int .i64 i, .slice (some ⟨vb, 0, none⟩) m vc] w fun e w' => ∃ (G : Nat) (ROW : Array Value),
      e = .returned (.slice (some ⟨w.heap.size, 0, none⟩) (n + m) G) ∧ n + m ≤ G ∧ G ≤ maxLen ∧ ROW.size = G * 4 ∧ ROW.toList.take (i * 4) = cs.take (i * 4) ∧
      w' = (((w.alloc (.cells ROW 32)).drew.setCells w.heap.size (i * 4) vs).drew).setCells w.heap.size ((i + m) * 4) (cs.drop (i * 4)) := by
  have mixed : Try.prog.follows .mixedOrders = true := by kernel_rfl
  have u28 := run_underlying (P := Try.prog) Try.underlying28
  obtain ⟨i0, hi0, hzz⟩ := Option.map_eq_some_iff.1 (show (Try.prog.info? 32).map (fun i => (i.zero.map (fun z => z.cells.size), i.size, Nat.ble i.bytes 64)) = some (some 4, 4, true) by kernel_rfl)
  simp only [Prod.mk.injEq] at hzz
  obtain ⟨hz0, hzs, hzb⟩ := hzz
  obtain ⟨z, hz, hzc⟩ := Option.map_eq_some_iff.1 hz0
  have hzb := Nat.le_of_ble_eq_true hzb
  have hbig2 : (n + m) * i0.bytes ≤ 140737488355328 := Nat.le_trans (Nat.mul_le_mul_left _ hzb) hbig
  have hz1 : ¬ ((m : Int) = 0) := by omega
  have hz2 : ¬ ((i : Int) = (n : Int)) := by omega
  have hz3 : (c : Int) < (n : Int) + (m : Int) := by omega
  have hsz : (Try.prog.info? 32).map (·.size) = some 4 := by kernel_rfl
  have hbw : b < w.heap.size := block_lt_of_cell (hcs 0 _ (List.getElem?_eq_getElem (by omega)))
  have hvw : vb < w.heap.size := block_lt_of_cell (hvs 0 _ (List.getElem?_eq_getElem (by omega)))
  have hkk : (n : Int) + (m : Int) - (i : Int) = ((n + m - i : Nat) : Int) := by omega
  have hik : i + (n + m - i) = n + m := by omega
  have hmin1 : Nat.min (n - i) (n + m - (i + m)) = n - i := by simp only [Nat.min_def]; split <;> omega
  have hmin2 : Nat.min m (n + m - i) = m := by simp only [Nat.min_def]; split <;> omega
  have hold : (Builtin.firstCells i0.size i (.slice (some ⟨b, 0, none⟩) i c)).run Try.prog w.drew = .ok (cs.take (i * 4)).toArray w.drew := by
    rw [hzs]
    exact run_firstCells_some w.drew 4 i ⟨b, 0, none⟩ i c (cs.take (i * 4)) (by rw [List.length_take]; omega) (fun j v hj => by
      rw [Addr.add_lit, Nat.zero_add]
      rw [List.getElem?_take] at hj
      split at hj
      · exact hcs j v hj
      · cases hj)
  have hk64 : (n + m - i) * i0.bytes ≤ 281474976710656 := by
    have := Nat.mul_le_mul_right i0.bytes (show n + m - i ≤ n + m by omega)
    omega
  have hrz : ∀ ty, (Builtin.append_ #[28, 3] ty #[.slice (some ⟨b, 0, none⟩) i c, .int .i64 ((n : Int) + (m : Int) - (i : Int))]).run Try.prog w =
      .ok (.slice (some ⟨w.heap.size, 0, none⟩) (n + m) (grownCap w (n + m) c 32)) (w.drew.alloc (.cells ((cs.take (i * 4)).toArray ++ Builtin.zeroCells z.cells (n + m - i) ++ Builtin.zeroCells z.cells (grownCap w (n + m) c 32 - (n + m))) 32)) := fun ty => by
    have h := Lib.run_append_grow_zeros w 28 3 ty 32 i0 _ .i64 .i64 Try.underlying28 Try.underlying3 hi0 hz (some ⟨b, 0, none⟩) i c (cs.take (i * 4)) hold (n + m - i) (by omega) (by omega) (by omega) (by omega) hk64 (by rw [hik]; exact growslice_fits hroom hbig2)
    rw [hik] at h
    rw [hkk]
    exact h
  have hGn : n + m ≤ grownCap w (n + m) c 32 := grownCap_ge w _ _ _
  have hG63 : grownCap w (n + m) c 32 ≤ maxLen := grownCap_le_maxLen w (n + m) c 32 (by unfold maxLen; omega)
  obtain ⟨G, hG⟩ : ∃ G, G = grownCap w (n + m) c 32 := ⟨_, rfl⟩
  obtain ⟨ROW, hROW⟩ : ∃ ROW : Array Value, ROW = (cs.take (i * 4)).toArray ++ Builtin.zeroCells z.cells (n + m - i) ++ Builtin.zeroCells z.cells (G - (n + m)) := ⟨_, rfl⟩
  rw [← hG] at hrz hGn hG63
  rw [← hROW] at hrz
  have hR1 : ROW.size = G * 4 := by
    rw [hROW]
    simp [Builtin.zeroCells, hzc, hcl]
    omega
  have hR2 : ROW.toList.take (i * 4) = cs.take (i * 4) := by
    have hl : (cs.take (i * 4)).length = i * 4 := by rw [List.length_take]; omega
    rw [hROW, Array.toList_append, Array.toList_append, List.append_assoc, show ((cs.take (i * 4)).toArray).toList = cs.take (i * 4) from rfl, List.take_append_of_le_length (by omega), List.take_of_length_le (by omega)]
  obtain ⟨W1, hW1⟩ : ∃ W1, W1 = w.drew.alloc (.cells ROW 32) := ⟨_, rfl⟩
  rw [← hW1] at hrz
  have hN : ∀ j, j < (n + m) * 4 → (W1.cell? ⟨w.heap.size, j, none⟩).isSome = true := fun j hj => by
    rw [hW1, World.cell?_alloc_at (w := w.drew) ROW _ w.heap.size j rfl, Array.getElem?_eq_getElem (by omega)]; rfl
  have hNf : ∀ j, W1.frozen? ⟨w.heap.size, j, none⟩ = false := fun j => by rw [hW1]; exact World.frozen?_alloc_at (w := w.drew) ROW _ w.heap.size j rfl
  have hOb : ∀ j v, w.cell? ⟨b, j, none⟩ = some v → W1.cell? ⟨b, j, none⟩ = some v := fun j v h => by rw [hW1, World.cell?_alloc_past (w := w.drew) _ b j hbw]; exact h
  have hOv : ∀ j v, w.cell? ⟨vb, j, none⟩ = some v → W1.cell? ⟨vb, j, none⟩ = some v := fun j v h => by rw [hW1, World.cell?_alloc_past (w := w.drew) _ vb j hvw]; exact h
  have hcpA : ∀ (W : World), (∀ x, W.cell? x = W1.cell? x) → (∀ x, W.frozen? x = W1.frozen? x) → ∀ ty dc, (Builtin.copy_ #[28, 28] ty #[.slice (some ⟨w.heap.size, i * 4, none⟩) (n + m - i) dc, .slice (some ⟨vb, 0, none⟩) m vc]).run Try.prog W = .ok (goInt ((m : Nat) : Int)) (W.setCells w.heap.size (i * 4) vs) := fun W hWc hWf ty dc => by
    have h := run_copy_wide (P := Try.prog) W 28 28 ty 32 4 w.heap.size (i * 4) (n + m - i) dc ⟨vb, 0, none⟩ m vc vs Try.underlying28 hsz (by rw [hvl, hmin2])
      (fun j v hj => by rw [Addr.add_lit, hWc, Nat.zero_add]; exact hOv _ v (hvs j v hj))
      (fun j hj => by rw [hWc]; exact hN _ (by omega)) (fun j hj => by rw [hWf]; exact hNf _) h1v
    rw [hmin2] at h
    exact h
  have hGi : ¬ (G = i) := by omega
  have hGim : ¬ (G = i + m) := by omega
  have hci : ¬ (c = i) := by omega
  have hbN : b ≠ w.heap.size := by omega
  have hG64 : G ≤ 9223372036854775807 := by unfold maxLen at hG63; omega
  have hdl : (cs.drop (i * 4)).length = (n - i) * 4 := by rw [List.length_drop, hcl]; omega
  have hcpB : ∀ (W : World), (∀ x, W.cell? x = (W1.setCells w.heap.size (i * 4) vs).cell? x) → (∀ x, W.frozen? x = (W1.setCells w.heap.size (i * 4) vs).frozen? x) → ∀ ty dc sc, (Builtin.copy_ #[28, 28] ty #[.slice (some ⟨w.heap.size, (i + m) * 4, none⟩) (n + m - (i + m)) dc, .slice (some ⟨b, i * 4, none⟩) (n - i) sc]).run Try.prog W = .ok (goInt ((n - i : Nat) : Int)) (W.setCells w.heap.size ((i + m) * 4) (cs.drop (i * 4))) := fun W hWc hWf ty dc sc => by
    have h := run_copy_wide (P := Try.prog) W 28 28 ty 32 4 w.heap.size ((i + m) * 4) (n + m - (i + m)) dc ⟨b, i * 4, none⟩ (n - i) sc (cs.drop (i * 4)) Try.underlying28 hsz (by rw [hdl, hmin1])
      (fun j v hj => by
        rw [Addr.add_lit, hWc, World.cell?_setCells_out _ _ _ _ _ (fun h _ => absurd h hbN)]
        exact hOb _ v (hcs (i * 4 + j) v (by rwa [List.getElem?_drop] at hj)))
      (fun j hj => by rw [hWc]; exact isSome_setCells _ _ _ _ (fun t ht => hN _ (by omega)) _ (hN _ (by omega)))
      (fun j hj => by rw [hWf, World.frozen?_setCells]; exact hNf _) (fun v hv => h1c v (List.mem_of_mem_drop hv))
    rw [hmin1] at h
    exact h
  subst hW1
  have hE1 : ∀ x, ((w.alloc (.cells ROW 32)).drew).cell? x = (w.drew.alloc (.cells ROW 32)).cell? x := fun x => rfl
  have hE2 : ∀ x, ((w.alloc (.cells ROW 32)).drew).frozen? x = (w.drew.alloc (.cells ROW 32)).frozen? x := fun x => rfl
  have hF1 : ∀ x, (((w.alloc (.cells ROW 32)).drew.setCells w.heap.size (i * 4) vs).drew).cell? x = ((w.drew.alloc (.cells ROW 32)).setCells w.heap.size (i * 4) vs).cell? x := fun x => rfl
  have hF2 : ∀ x, (((w.alloc (.cells ROW 32)).drew.setCells w.heap.size (i * 4) vs).drew).frozen? x = ((w.drew.alloc (.cells ROW 32)).setCells w.heap.size (i * 4) vs).frozen? x := fun x => rfl
  have hw1 : IntKind.i64.wrap ((i : Int) + (m : Int)) = (i : Int) + (m : Int) := by rw [IntKind.wrap_i64]; omega
  have hb1 : (0 : Int) ≤ (i : Int) + (m : Int) := by omega
  have hin : i ≤ n := by omega
  have htn : ((i : Int) + (m : Int)).toNat = i + m := by omega
  have hb3 : (i : Int) ≤ (n : Int) := by omega
  have key : Calls Try.prog 33 #[.slice (some ⟨b, 0, none⟩) n c, .int .i64 i, .slice (some ⟨vb, 0, none⟩) m vc] w fun e w' => e = .returned (.slice (some ⟨w.heap.size, 0, none⟩) (n + m) G) ∧
      w' = (((w.alloc (.cells ROW 32)).drew.setCells w.heap.size (i * 4) vs).drew).setCells w.heap.size ((i + m) * 4) (cs.drop (i * 4)) := by
    clear hkk hik hold hROW hR1 hR2 hG hcs hvs h1c h1v hN hNf hOb hOv hdl hz hzc hz0 hk64 hmin1 hmin2
    go_enter Try.func33, Try.ntmps33
    go_wp2_with (first
      | (at_builtin; refine Lib.wpList_append_run _ rfl _ _ _ _ rfl _ _ rfl rfl _ _ (hrz _) ?_)
      | (at_builtin; refine wpList_copy_runI _ rfl _ _ 28 28 rfl _ _ rfl rfl (hcpA _ hE1 hE2 _ _) ?_)
      | (at_builtin; refine wpList_copy_runI _ rfl _ _ 28 28 rfl _ _ rfl rfl (hcpB _ (fun _ => rfl) (fun _ => rfl) _ _ _) ?_))
    go_region_law_o (refine step_copy_runI rfl _ _ 28 28 rfl (.slice (some ⟨w.heap.size, (i + m) * 4, none⟩) (n + m - (i + m)) (G - (i + m))) (.slice (some ⟨b, i * 4, none⟩) (n - i) (c - i)) (by simp [Act.eval, Act.put]) (by simp [Act.eval, Act.put]) (hcpB _ hF1 hF2 3 (G - (i + m)) (c - i)) ?_)
    go_wp2
    go_ret
    exact ⟨rfl, rfl⟩
  exact key.mono fun e w' h => ⟨G, ROW, h.1, hGn, hG63, hR1, hR2, h.2⟩
end
theorem insC : InsC Try.prog 33 32 4 := by
  intro v n i vb vc cs vs w ho hne hov h1c h1v hi hn
  have hvl : vs.length = 1 * 4 := hov.1
  rcases hov.2 with ⟨h, _⟩ | ⟨vb', vc', curv, ev, _, hgv, qv1, qv2, qv3, qv4⟩
  · cases h
  injection ev with ev1 _ ev3
  injection ev1 with ev1
  injection ev1 with ev1
  subst ev1
  subst ev3
  have hvs : ∀ j u, vs[j]? = some u → w.cell? ⟨vb, j, none⟩ = some u := by
    intro j u hj
    rw [← qv4, List.getElem?_take] at hj
    split at hj
    · rw [Array.getElem?_toList] at hj
      simp [World.cell?, hgv, hj]
    · cases hj
  rcases ho.2 with ⟨rfl, hn0⟩ | ⟨b, c, cur, rfl, _, hg, q1, q2, q3, q4⟩
  · subst hn0
    have hi0 : i = 0 := by omega
    subst hi0
    have hcl : cs.length = 0 * 4 := ho.1
    have hc0 : cs = [] := List.length_eq_zero_iff.1 (by omega)
    subst hc0
    refine Calls.mono (ins_end (n := 0) (c := 0) (m := 1) (cs := []) none (by omega) (by omega) (by omega) (by omega) rfl hvl (fun _ => rfl) (fun a h => by cases h) hvs h1v) ?_
    rintro e' w' ⟨G, ROW, rfl, rfl, r1, r2, r3, r4⟩
    refine ⟨_, rfl, .inr (fun k hk => ?_), rfl, ⟨rfl, rfl, rfl, alloc_size w.drew _, fun k hk _ => ?_⟩, ⟨by simp; omega, .inr ⟨w.heap.size, G, ROW, rfl, Nat.zero_le _, ?_, r1, r2, r3, ?_⟩⟩⟩
    · have : w.heap.size = k := by simpa [Value.ownBlock] using hk
      omega
    · exact alloc_old w.drew _ hk
    · exact alloc_row w.drew _
    · rw [r4]
      simp
  · have hcl : cs.length = n * 4 := ho.1
    have q3' : cur.size = c * 4 := q3
    have hbv : vb ≠ b := fun h => hne (by rw [h]; rfl)
    have hcs : ∀ j u, cs[j]? = some u → w.cell? ⟨b, j, none⟩ = some u := by
      intro j u hj
      rw [← q4, List.getElem?_take] at hj
      split at hj
      · rw [Array.getElem?_toList] at hj
        simp [World.cell?, hg, hj]
      · cases hj
    have hblt : b < w.heap.size := by
      rcases Nat.lt_or_ge b w.heap.size with h | h
      · exact h
      · rw [Array.getElem?_eq_none h] at hg; cases hg
    have hsp : ∀ j, j < c * 4 → (w.cell? ⟨b, j, none⟩).isSome = true := fun j hj => by
      simp [World.cell?, hg, Array.getElem?_eq_getElem (show j < cur.size by omega)]
    have hfz : ∀ j, w.frozen? ⟨b, j, none⟩ = false := fun j => by simp [World.frozen?, hg]
    have hdi : cur.toList.take (i * 4) = cs.take (i * 4) := by
      rw [← q4, List.take_take, Nat.min_eq_left (by omega)]
    have hH := holds_cells hg
    by_cases hroom : n + 1 ≤ c
    · have hD1 : (n + 1) * 4 ≤ cur.size := by omega
      by_cases hin : i = n
      · subst hin
        refine Calls.mono (ins_room (b := b) (n := i) (c := c) (m := 1) (vb := vb) (vc := vc) (by omega) hroom q2 hvl (fun j hj => hsp _ (by omega)) (fun j hj => hfz _) hvs h1v) ?_
        rintro e' w' ⟨rfl, rfl⟩
        have e1 : w.setCells b (i * 4) vs = Go.Sort.putRow cellOf (Go.Sort.ahead w 0) b 0 (Go.Lib.lay cur (i * 4) vs) := by
          rw [← set_lay (by omega)]
          rw [show Go.Sort.putRow cellOf (Go.Sort.ahead w 0) b 0 cur = Go.Sort.ahead w 0 from Go.Sort.putRow_self cellOf _ b 0 cur (Go.Sort.holds_ahead cellOf w 0 b 0 cur hH)]
          rfl
        obtain ⟨p1, p2⟩ := put_row (q := 0) hg (show (Go.Lib.lay cur (i * 4) vs).size = cur.size from Go.Lib.lay_size _ _ _)
        rw [e1]
        refine ⟨_, rfl, .inl rfl, rfl, p2, ⟨?_, .inr ⟨b, c, _, rfl, Nat.zero_le _, p1, hroom, q2, by rw [Go.Lib.lay_size]; exact q3, ?_⟩⟩⟩
        · simp only [List.length_append, List.length_take, List.length_drop]; omega
        · have := (lay_ins (sz := 4) (i := i) hD1 hcl (by omega) (Nat.le_refl _) hdi).2
          rw [List.drop_eq_nil_of_le (by omega)] at this ⊢
          exact this
      · refine Calls.mono (ins_shift (b := b) (n := n) (c := c) (i := i) (m := 1) (vb := vb) (vc := vc) (by omega) (by omega) hroom q2 hbv hcl hvl hcs (fun j hj => hsp _ (by omega)) (fun j hj => hfz _) hvs h1c h1v 32 32 curv.size cur.size (by simp [World.shape?, hgv]) (by simp [World.shape?, hg]) (by omega) (by simp [World.frozen?, hgv]) (by simp [World.frozen?, hgv])) ?_
        rintro e' w' ⟨rfl, rfl⟩
        have e1 : (w.drew.setCells b ((i + 1) * 4) (cs.drop (i * 4))).setCells b (i * 4) vs = Go.Sort.putRow cellOf (Go.Sort.ahead w 1) b 0 (Go.Lib.lay (Go.Lib.lay cur ((i + 1) * 4) (cs.drop (i * 4))) (i * 4) vs) := by
          rw [← set_lay (by rw [Go.Lib.lay_size]; omega), ← set_lay (by rw [List.length_drop]; omega)]
          rw [show Go.Sort.putRow cellOf (Go.Sort.ahead w 1) b 0 cur = Go.Sort.ahead w 1 from Go.Sort.putRow_self cellOf _ b 0 cur (Go.Sort.holds_ahead cellOf w 1 b 0 cur hH)]
          rfl
        obtain ⟨p1, p2⟩ := put_row (q := 1) hg (show (Go.Lib.lay (Go.Lib.lay cur ((i + 1) * 4) (cs.drop (i * 4))) (i * 4) vs).size = cur.size by rw [Go.Lib.lay_size, Go.Lib.lay_size])
        rw [e1]
        refine ⟨_, rfl, .inl rfl, rfl, p2, ⟨?_, .inr ⟨b, c, _, rfl, Nat.zero_le _, p1, hroom, q2, by rw [Go.Lib.lay_size, Go.Lib.lay_size]; exact q3, ?_⟩⟩⟩
        · simp only [List.length_append, List.length_take, List.length_drop]; omega
        · exact (lay_ins (sz := 4) (i := i) hD1 hcl (by omega) hi hdi).1
    · by_cases hin : i = n
      · subst hin
        refine Calls.mono (ins_end (n := i) (c := c) (m := 1) (cs := cs) (some ⟨b, 0, none⟩) (by omega) q1 (by omega) (by omega) hcl hvl (fun h => by cases h) (fun a h j u hj => by
          injection h with h
          subst h
          rw [Addr.add_lit, Nat.zero_add]
          exact hcs j u hj) hvs h1v) ?_
        rintro e' w' ⟨G, ROW, rfl, rfl, r1, r2, r3, r4⟩
        refine ⟨_, rfl, .inr (fun k hk => ?_), rfl, ⟨rfl, rfl, rfl, alloc_size w.drew _, fun k hk _ => ?_⟩, ⟨?_, .inr ⟨w.heap.size, G, ROW, rfl, Nat.zero_le _, ?_, r1, r2, r3, ?_⟩⟩⟩
        · have : w.heap.size = k := by simpa [Value.ownBlock] using hk
          omega
        · exact alloc_old w.drew _ hk
        · simp only [List.length_append, List.length_take, List.length_drop]; omega
        · exact alloc_row w.drew _
        · rw [r4, List.take_of_length_le (by omega), List.drop_eq_nil_of_le (by omega), List.append_nil]
      · refine Calls.mono (ins_grow (b := b) (n := n) (c := c) (i := i) (m := 1) (vb := vb) (vc := vc) (by omega) (by omega) q1 (by omega) (by omega) hcl hvl hcs hvs h1c h1v) ?_
        rintro e' w' ⟨G, ROW, rfl, r1, r2, r3, r4, rfl⟩
        have hg2 : (w.alloc (.cells ROW 32)).heap[w.heap.size]? = some (.cells ROW 32 (0, 0)) := alloc_row w _
        have hH2 := holds_cells hg2
        have e1 : (((w.alloc (.cells ROW 32)).drew.setCells w.heap.size (i * 4) vs).drew).setCells w.heap.size ((i + 1) * 4) (cs.drop (i * 4)) = Go.Sort.putRow cellOf (Go.Sort.ahead (w.alloc (.cells ROW 32)) 2) w.heap.size 0 (Go.Lib.lay (Go.Lib.lay ROW (i * 4) vs) ((i + 1) * 4) (cs.drop (i * 4))) := by
          have e2 : (w.alloc (.cells ROW 32)).drew.setCells w.heap.size (i * 4) vs = Go.Sort.putRow cellOf (Go.Sort.ahead (w.alloc (.cells ROW 32)) 1) w.heap.size 0 (Go.Lib.lay ROW (i * 4) vs) := by
            rw [← set_lay (by omega)]
            rw [show Go.Sort.putRow cellOf (Go.Sort.ahead (w.alloc (.cells ROW 32)) 1) w.heap.size 0 ROW = Go.Sort.ahead (w.alloc (.cells ROW 32)) 1 from Go.Sort.putRow_self cellOf _ _ 0 ROW (Go.Sort.holds_ahead cellOf _ 1 _ 0 ROW hH2)]
            rfl
          rw [e2]
          exact set_lay (w := Go.Sort.ahead (w.alloc (.cells ROW 32)) 2) (b := w.heap.size) (d := Go.Lib.lay ROW (i * 4) vs) (xs := cs.drop (i * 4)) (k := (i + 1) * 4) (by rw [Go.Lib.lay_size, List.length_drop]; omega)
        obtain ⟨p1, p2⟩ := put_row (q := 2) hg2 (show (Go.Lib.lay (Go.Lib.lay ROW (i * 4) vs) ((i + 1) * 4) (cs.drop (i * 4))).size = ROW.size by rw [Go.Lib.lay_size, Go.Lib.lay_size])
        rw [e1]
        refine ⟨_, rfl, .inr (fun k hk => ?_), rfl, ⟨p2.os, p2.tape, p2.output, Nat.le_trans (alloc_size w _) p2.size, fun k hk _ => ?_⟩, ⟨?_, .inr ⟨w.heap.size, G, _, rfl, Nat.zero_le _, p1, r1, r2, by rw [Go.Lib.lay_size, Go.Lib.lay_size]; exact r3, ?_⟩⟩⟩
        · have : w.heap.size = k := by simpa [Value.ownBlock] using hk
          omega
        · rw [p2.block k (Nat.lt_of_lt_of_le hk (alloc_size w _)) (fun h => by injection h with h; omega)]
          exact alloc_old w _ hk
        · simp only [List.length_append, List.length_take, List.length_drop]; omega
        · exact (lay_ins (sz := 4) (i := i) (by omega) hcl (by omega) hi r4).2
end
theorem stands_33 : Stands Try.prog 33 := ⟨_, Try.func33, by kernel_rfl, by kernel_rfl⟩
theorem said_slices_Insert_impl_Entry (a0 : List TEntry) (a1 : Int) (a2 : List TEntry) (g : G.slices_Insert_impl_Entry a0 a1 a2 = true) : SaidX Try.prog sigs_33 33 [.lend (.slice 32 TyEntry) a0 (.own 0), .val (.int .i64) a1, .lend (.slice 32 TyEntry) a2 (.own 1)] [⟨(.slice 32 TyEntry), N.slices_Insert_impl_Entry a0 a1 a2⟩] := by
  obtain ⟨g1, g2⟩ := (Bool.and_eq_true _ _).mp g
  obtain ⟨g2, g3⟩ := (Bool.and_eq_true _ _).mp g2
  obtain ⟨g3, g4⟩ := (Bool.and_eq_true _ _).mp g3
  have g1 := of_decide_eq_true g1
  have g2 := of_decide_eq_true g2
  have q3 := of_decide_eq_true g3
  have g4 := of_decide_eq_true g4
  obtain ⟨i, rfl⟩ : ∃ i : Nat, a1 = (i : Int) := ⟨a1.toNat, by omega⟩
  obtain ⟨x, rfl⟩ := List.length_eq_one_iff.1 g4
  exact insert_said (t := TyEntry) (i := i) stands_33 insC (by omega) q3

abbrev G.impl_PutEntry (l : List TEntry) (e : TEntry) : Bool := decide (wEs l + wE e ≤ 1048576)
abbrev N.impl_PutEntry (l : List TEntry) (e : TEntry) : List TEntry × Bool := putE l e
def impl_PutEntry_P {ρ : Type} (f0 : (List TEntry) → (List TEntry)) (g0 : (List TEntry) → Bool) (f1 : (List TEntry) → Bool) (g1 : (List TEntry) → Bool) (f2 : (List TEntry) → ByteArray → (Int × Bool)) (g2 : (List TEntry) → ByteArray → Bool) (f3 : TEntry → TEntry) (g3 : TEntry → Bool) (f4 : (List TEntry) → Int → (List TEntry) → (List TEntry)) (g4 : (List TEntry) → Int → (List TEntry) → Bool) (k : (List TEntry) → Bool → Option ρ) (a0 : (List TEntry)) (a1 : TEntry) : Option ρ := (cond (g0 a0) (cond (g1 a0) (cond (!(f1 a0)) (k (f0 a0) false) (cond (g2 a0 a1.1) (cond (f2 a0 a1.1).2 (cond (g3 a1) (cond (inRange (f2 a0 a1.1).1 (List.length (f0 a0))) (cond (inRange (f2 a0 a1.1).1 (List.length (f0 a0))) (cond (g1 (List.set (f0 a0) (Int.toNat (f2 a0 a1.1).1) (f3 a1))) (cond (!(f1 (List.set (f0 a0) (Int.toNat (f2 a0 a1.1).1) (f3 a1)))) (cond (g0 a0) (k (f0 a0) false) none) (k (List.set (f0 a0) (Int.toNat (f2 a0 a1.1).1) (f3 a1)) true)) none) none) none) none) (cond (g3 a1) (cond (g4 (f0 a0) (f2 a0 a1.1).1 [(f3 a1)]) (cond (g1 (f4 (f0 a0) (f2 a0 a1.1).1 [(f3 a1)])) (cond (!(f1 (f4 (f0 a0) (f2 a0 a1.1).1 [(f3 a1)]))) (cond (g0 a0) (k (f0 a0) false) none) (k (f4 (f0 a0) (f2 a0 a1.1).1 [(f3 a1)]) true)) none) none) none)) none)) none) none)
def impl_PutEntry {ρ : Type} (k : (List TEntry) → Bool → Option ρ) (a0 : (List TEntry)) (a1 : TEntry) : Option ρ := impl_PutEntry_P N.impl_copyEntries G.impl_copyEntries N.impl_AreEntries G.impl_AreEntries N.slices_BinarySearchFunc_impl_Entry__impl_PutEntry_s1 G.slices_BinarySearchFunc_impl_Entry__impl_PutEntry_s1 N.impl_copyEntry G.impl_copyEntry N.slices_Insert_impl_Entry G.slices_Insert_impl_Entry k a0 a1
theorem impl_PutEntry_ok {ρ : Type} (k : (List TEntry) → Bool → Option ρ) (a0 : (List TEntry)) (a1 : TEntry) (l_a0 : lnL (fun y => (True ∧ (True ∧ (True ∧ lnL (fun _ => True) y.2.2.2)))) a0) (l_a1 : (True ∧ (True ∧ (True ∧ lnL (fun _ => True) a1.2.2.2)))) (g : G.impl_PutEntry a0 a1 = true) : impl_PutEntry k  a0 a1 = k (N.impl_PutEntry a0 a1).1 (N.impl_PutEntry a0 a1).2 := by
  unfold G.impl_PutEntry at g
  have hw : wEs a0 + wE a1 ≤ 1048576 := of_decide_eq_true g
  have hl := wEs_ge a0
  have hle := bsAt_le a0 a1.1
  have g1 : decide (wEs a0 ≤ 1048576) = true := decide_eq_true (by omega)
  have g2 : decide (wEs a0 ≤ 1048577) = true := decide_eq_true (by omega)
  have g3 : decide (a1.2.2.2.length ≤ 1048576) = true := decide_eq_true (by have := wE_ge a1; omega)
  have g4 : decide (a0.length ≤ 1048576) = true := decide_eq_true (by omega)
  have g5 : decide (wEs (putAs a0 a1) ≤ 1048577) = true := decide_eq_true (by have := putAs_w hle; omega)
  have g6 : G.slices_Insert_impl_Entry a0 (bsAt a0 a1.1 : Int) [a1] = true := by
    unfold G.slices_Insert_impl_Entry
    rw [decide_eq_true (by omega), decide_eq_true (by omega), decide_eq_true (by omega), decide_eq_true (show [a1].length = 1 from rfl)]
    rfl
  simp only [impl_PutEntry, impl_PutEntry_P, G.impl_copyEntries, N.impl_copyEntries, G.impl_AreEntries, N.impl_AreEntries, G.impl_copyEntry, N.impl_copyEntry, G.slices_BinarySearchFunc_impl_Entry__impl_PutEntry_s1, N.slices_BinarySearchFunc_impl_Entry__impl_PutEntry_s1, g1, g2, g3, g4, g6, cond_true, inRange_nat, Int.toNat_natCast]
  show _ = k (putE a0 a1).1 (putE a0 a1).2
  rw [putE_as]
  cases (!areEntries a0) with
  | true => rfl
  | false =>
    rw [cond_false, cond_false]
    cases hh : bsHit a0 a1.1 with
    | true =>
      have hlt : bsAt a0 a1.1 < a0.length := by
        have hh2 := hh
        unfold bsHit at hh2
        exact of_decide_eq_true ((Bool.and_eq_true _ _).mp hh2).1
      have ea : putAs a0 a1 = a0.set (bsAt a0 a1.1) a1 := by
        unfold putAs
        rw [hh]
        rfl
      rw [ea] at g5 ⊢
      simp only [decide_eq_true hlt, g5, cond_true]
      cases (!areEntries (a0.set (bsAt a0 a1.1) a1)) <;> rfl
    | false =>
      have ea : putAs a0 a1 = a0.insertIdx (bsAt a0 a1.1) a1 := by
        unfold putAs
        rw [hh]
        rfl
      rw [ea] at g5 ⊢
      simp only [N.slices_Insert_impl_Entry, Int.toNat_natCast, List.getD_cons_zero, g5, cond_true, cond_false]
      cases (!areEntries (a0.insertIdx (bsAt a0 a1.1) a1)) <;> rfl
def OP_impl_PutEntry (f0 : (List TEntry) → (List TEntry)) (g0 : (List TEntry) → Bool) (f1 : (List TEntry) → Bool) (g1 : (List TEntry) → Bool) (f2 : (List TEntry) → ByteArray → (Int × Bool)) (g2 : (List TEntry) → ByteArray → Bool) (f3 : TEntry → TEntry) (g3 : TEntry → Bool) (f4 : (List TEntry) → Int → (List TEntry) → (List TEntry)) (g4 : (List TEntry) → Int → (List TEntry) → Bool) : Orac := (orcX 33 [.lend .bool (.own 0), .lend (.slice 32 TyEntry) (.own 0), .val (.int .i64), .lend (.slice 32 TyEntry) (.own 1)] (fun d => g4 d.2.1 d.2.2.1 d.2.2.2.1) (fun d => [⟨(.slice 32 TyEntry), f4 d.2.1 d.2.2.1 d.2.2.2.1⟩]) (orcX 32 [.val TyEntry] (fun d => g3 d.1) (fun d => [⟨TyEntry, f3 d.1⟩]) (orcX 29 [.val (.slice 32 TyEntry), .val .str, .clo 30 []] (fun d => g2 d.1 d.2.1) (fun d => [⟨(.int .i64), (f2 d.1 d.2.1).1⟩, ⟨.bool, (f2 d.1 d.2.1).2⟩]) (orcX 28 [.val (.slice 32 TyEntry)] (fun d => g1 d.1) (fun d => [⟨.bool, f1 d.1⟩]) (orcX 27 [.val (.slice 32 TyEntry)] (fun d => g0 d.1) (fun d => [⟨(.slice 32 TyEntry), f0 d.1⟩]) nilO)))))
def O_impl_PutEntry : Orac := OP_impl_PutEntry N.impl_copyEntries G.impl_copyEntries N.impl_AreEntries G.impl_AreEntries N.slices_BinarySearchFunc_impl_Entry__impl_PutEntry_s1 G.slices_BinarySearchFunc_impl_Entry__impl_PutEntry_s1 N.impl_copyEntry G.impl_copyEntry N.slices_Insert_impl_Entry G.slices_Insert_impl_Entry
theorem ok_impl_PutEntry : OracOk Try.prog sigs O_impl_PutEntry := (orcV_ok rfl (fun d g => said_slices_Insert_impl_Entry d.2.1 d.2.2.1 d.2.2.2.1 g) (orcX_ok rfl rfl (fun d g => said_impl_copyEntry d.1 g) (orcX_ok rfl rfl (fun d g => said_slices_BinarySearchFunc_impl_Entry__impl_PutEntry_s1 d.1 d.2.1 g) (orcX_ok rfl rfl (fun d g => said_impl_AreEntries d.1 g) (orcX_ok rfl rfl (fun d g => said_impl_copyEntries d.1 g) nilO_ok)))))
def A_impl_PutEntry : Ann := fun b => ⟨[], []⟩
theorem aP_impl_PutEntry (f0 : (List TEntry) → (List TEntry)) (g0 : (List TEntry) → Bool) (f1 : (List TEntry) → Bool) (g1 : (List TEntry) → Bool) (f2 : (List TEntry) → ByteArray → (Int × Bool)) (g2 : (List TEntry) → ByteArray → Bool) (f3 : TEntry → TEntry) (g3 : TEntry → Bool) (f4 : (List TEntry) → Int → (List TEntry) → (List TEntry)) (g4 : (List TEntry) → Int → (List TEntry) → Bool) (n : Nat) (a0 : (List TEntry)) (a1 : TEntry) : absF tab sigs (OP_impl_PutEntry f0 g0 f1 g1 f2 g2 f3 g3 f4 g4) A_impl_PutEntry Try.f10 [((.slice 32 TyEntry), (.own 0)), (.bool, .no)] n [.val (.slice 32 TyEntry) a0, .val TyEntry a1] = impl_PutEntry_P f0 g0 f1 g1 f2 g2 f3 g3 f4 g4 (fun r0 r1 => some [⟨(.slice 32 TyEntry), r0⟩, ⟨.bool, r1⟩])  a0 a1 := by kernel_rfl
theorem said_impl_PutEntry (a0 : (List TEntry)) (a1 : TEntry) (g : G.impl_PutEntry a0 a1 = true) : Said Try.prog sigs_10 10 [.val (.slice 32 TyEntry) a0, .val TyEntry a1] [⟨(.slice 32 TyEntry), (N.impl_PutEntry a0 a1).1⟩, ⟨.bool, (N.impl_PutEntry a0 a1).2⟩] := said_len (T := tab) (A := A_impl_PutEntry) tabOk ok_impl_PutEntry tabOk.follows Try.func10 (by kernel_rfl) (by kernel_rfl) (fun hl => ⟨0, (aP_impl_PutEntry N.impl_copyEntries G.impl_copyEntries N.impl_AreEntries G.impl_AreEntries N.slices_BinarySearchFunc_impl_Entry__impl_PutEntry_s1 G.slices_BinarySearchFunc_impl_Entry__impl_PutEntry_s1 N.impl_copyEntry G.impl_copyEntry N.slices_Insert_impl_Entry G.slices_Insert_impl_Entry 0 a0 a1).trans (impl_PutEntry_ok (ρ := Ret) (fun r0 r1 => some [⟨(.slice 32 TyEntry), r0⟩, ⟨.bool, r1⟩]) a0 a1 hl.1 hl.2.1 g)⟩)
abbrev N.laws_eqStringS (a b : List ByteArray) : Bool := eqStrs a b
def laws_eqStringS_L0 {ρ : Type} (k : Bool → Option ρ) (L0 : (List ByteArray) → (List ByteArray) → Int → Option ρ) (v0_0 : (List ByteArray)) (v0_1 : (List ByteArray)) (v0_2 : Int) : Option ρ := (cond (decide (v0_2 < (List.length v0_0 : Int))) (cond (inRange v0_2 (List.length v0_0)) (cond (inRange v0_2 (List.length v0_1)) (cond (!((ByteArray.toList (List.getD v0_0 (Int.toNat v0_2) ByteArray.empty)) == (ByteArray.toList (List.getD v0_1 (Int.toNat v0_2) ByteArray.empty)))) (k false) (L0 v0_0 v0_1 (IntKind.wrap .i64 (v0_2 + (1 : Int))))) none) none) (k true))
def laws_eqStringS {ρ : Type} (k : Bool → Option ρ) (L0 : (List ByteArray) → (List ByteArray) → Int → Option ρ) (a0 : (List ByteArray)) (a1 : (List ByteArray)) : Option ρ := (cond ((List.length a0 : Int) != (List.length a1 : Int)) (k false) (L0 a0 a1 (0 : Int)))
theorem laws_eqStringS_ok {ρ : Type} (k : Bool → Option ρ) (a0 : (List ByteArray)) (a1 : (List ByteArray)) (l_a0 : lnL (fun _ => True) a0) (l_a1 : lnL (fun _ => True) a1) : ∃ n0, ∀ n, n0 ≤ n → ∀ (L0 : Nat → (List ByteArray) → (List ByteArray) → Int → Option ρ) (h0 : ∀ ( m : Nat) (v0_0 : (List ByteArray)) (v0_1 : (List ByteArray)) (v0_2 : Int), L0 (m + 1) v0_0 v0_1 v0_2 = laws_eqStringS_L0 k (L0 m) v0_0 v0_1 v0_2), laws_eqStringS k (L0 n) a0 a1 = k (N.laws_eqStringS a0 a1) := by
  exact ⟨a0.length + 1, fun n hn L0 h0 => eq_all (p := eqStr) (d := ByteArray.empty) l_a0.1 (L := fun m i => L0 m a0 a1 i) (fun m i => h0 m a0 a1 i) hn⟩
def O_laws_eqStringS : Orac := nilO
theorem ok_laws_eqStringS : OracOk Try.prog sigs O_laws_eqStringS := nilO_ok
def A_laws_eqStringS : Ann := fun b => cond (Nat.beq b 0) ⟨[(0, false), (1, false), (5, false)], []⟩ (⟨[], []⟩)
def S_laws_eqStringS_0 (v0_0 : (List ByteArray)) (v0_1 : (List ByteArray)) (v0_2 : Int) : St := [(kT 0, some (.tv (.v (.slice 9 .str) v0_0 .no))), (kT 1, some (.tv (.v (.slice 9 .str) v0_1 .no))), (kT 5, some (.tv (.v (.int .i64) v0_2 .no)))]
noncomputable def L_laws_eqStringS_0 (n m : Nat) : St → Option Ret := loopOf tab sigs O_laws_eqStringS A_laws_eqStringS Try.f18 [(.bool, .no)] n (fun _ => 0) 0 m
theorem b_laws_eqStringS_0 (n m : Nat) (v0_0 : (List ByteArray)) (v0_1 : (List ByteArray)) (v0_2 : Int) : L_laws_eqStringS_0 n (m + 1) (S_laws_eqStringS_0 v0_0 v0_1 v0_2) = laws_eqStringS_L0 (fun r0 => some [⟨.bool, r0⟩]) (fun v0_0 v0_1 v0_2 => L_laws_eqStringS_0 n m (S_laws_eqStringS_0 v0_0 v0_1 v0_2)) v0_0 v0_1 v0_2 := by kernel_rfl
theorem a_laws_eqStringS (n : Nat) (a0 : (List ByteArray)) (a1 : (List ByteArray)) : absF tab sigs O_laws_eqStringS A_laws_eqStringS Try.f18 [(.bool, .no)] n [.val (.slice 9 .str) a0, .val (.slice 9 .str) a1] = laws_eqStringS (fun r0 => some [⟨.bool, r0⟩]) (fun v0_0 v0_1 v0_2 => L_laws_eqStringS_0 n n (S_laws_eqStringS_0 v0_0 v0_1 v0_2)) a0 a1 := by kernel_rfl
theorem said_laws_eqStringS (a0 : (List ByteArray)) (a1 : (List ByteArray)) : Said Try.prog sigs_18 18 [.val (.slice 9 .str) a0, .val (.slice 9 .str) a1] [⟨.bool, N.laws_eqStringS a0 a1⟩] := said_len (T := tab) (A := A_laws_eqStringS) tabOk ok_laws_eqStringS tabOk.follows Try.func18 (by kernel_rfl) (by kernel_rfl) (fun hl => let ⟨n, hn⟩ := laws_eqStringS_ok (ρ := Ret) (fun r0 => some [⟨.bool, r0⟩]) a0 a1 hl.1 hl.2.1; ⟨n, (a_laws_eqStringS n a0 a1).trans (hn n (Nat.le_refl n) (fun  m v0_0 v0_1 v0_2 => L_laws_eqStringS_0 n  m (S_laws_eqStringS_0 v0_0 v0_1 v0_2)) (fun  m v0_0 v0_1 v0_2 => b_laws_eqStringS_0 n  m v0_0 v0_1 v0_2))⟩)
abbrev N.laws_eqEntry (a b : TEntry) : Bool := eqEntry a b
def laws_eqEntry {ρ : Type} (k : Bool → Option ρ) (a0 : TEntry) (a1 : TEntry) : Option ρ := (cond (!((ByteArray.toList a0.1) == (ByteArray.toList a1.1))) (k false) (cond (a0.2.1 != a1.2.1) (k false) (cond (a0.2.2.1 != a1.2.2.1) (k false) (cond (!(N.laws_eqStringS a0.2.2.2 a1.2.2.2)) (k false) (k true)))))
theorem laws_eqEntry_ok {ρ : Type} (k : Bool → Option ρ) (a0 : TEntry) (a1 : TEntry) (l_a0 : (True ∧ (True ∧ (True ∧ lnL (fun _ => True) a0.2.2.2)))) (l_a1 : (True ∧ (True ∧ (True ∧ lnL (fun _ => True) a1.2.2.2)))) : laws_eqEntry k  a0 a1 = k (N.laws_eqEntry a0 a1) := by
  simp only [laws_eqEntry, N.laws_eqEntry, N.laws_eqStringS, eqEntry, eqStr, bne]
  cases a0.1.toList == a1.1.toList
  · rfl
  cases a0.2.1 == a1.2.1
  · rfl
  cases a0.2.2.1 == a1.2.2.1
  · rfl
  cases eqStrs a0.2.2.2 a1.2.2.2 <;> rfl
def OP_laws_eqEntry (f0 : (List ByteArray) → (List ByteArray) → Bool) : Orac := (orcX 18 [.val (.slice 9 .str), .val (.slice 9 .str)] (fun d => true) (fun d => [⟨.bool, f0 d.1 d.2.1⟩]) nilO)
def O_laws_eqEntry : Orac := OP_laws_eqEntry N.laws_eqStringS
def laws_eqEntry_P {ρ : Type} (f0 : (List ByteArray) → (List ByteArray) → Bool) (k : Bool → Option ρ) (a0 : TEntry) (a1 : TEntry) : Option ρ := (cond (!((ByteArray.toList a0.1) == (ByteArray.toList a1.1))) (k false) (cond (a0.2.1 != a1.2.1) (k false) (cond (a0.2.2.1 != a1.2.2.1) (k false) (cond (!(f0 a0.2.2.2 a1.2.2.2)) (k false) (k true)))))
theorem ok_laws_eqEntry : OracOk Try.prog sigs O_laws_eqEntry := (orcX_ok rfl rfl (fun d g => said_laws_eqStringS d.1 d.2.1) nilO_ok)
def A_laws_eqEntry : Ann := fun b => ⟨[], []⟩
theorem aP_laws_eqEntry (f0 : (List ByteArray) → (List ByteArray) → Bool) (n : Nat) (a0 : TEntry) (a1 : TEntry) : absF tab sigs (OP_laws_eqEntry f0) A_laws_eqEntry Try.f12 [(.bool, .no)] n [.val TyEntry a0, .val TyEntry a1] = laws_eqEntry_P f0 (fun r0 => some [⟨.bool, r0⟩])  a0 a1 := by kernel_rfl
theorem said_laws_eqEntry (a0 : TEntry) (a1 : TEntry) : Said Try.prog sigs_12 12 [.val TyEntry a0, .val TyEntry a1] [⟨.bool, N.laws_eqEntry a0 a1⟩] := said_len (T := tab) (A := A_laws_eqEntry) tabOk ok_laws_eqEntry tabOk.follows Try.func12 (by kernel_rfl) (by kernel_rfl) (fun hl => ⟨0, (aP_laws_eqEntry N.laws_eqStringS 0 a0 a1).trans (laws_eqEntry_ok (ρ := Ret) (fun r0 => some [⟨.bool, r0⟩]) a0 a1 hl.1 hl.2.1)⟩)
abbrev N.laws_eqEntryS (a b : List TEntry) : Bool := eqEntries a b
def laws_eqEntryS_P_L0 {ρ : Type} (f0 : TEntry → TEntry → Bool) (k : Bool → Option ρ) (L0 : (List TEntry) → (List TEntry) → Int → Option ρ) (v0_0 : (List TEntry)) (v0_1 : (List TEntry)) (v0_2 : Int) : Option ρ := (cond (decide (v0_2 < (List.length v0_0 : Int))) (cond (inRange v0_2 (List.length v0_0)) (cond (inRange v0_2 (List.length v0_1)) (cond (!(f0 (List.getD v0_0 (Int.toNat v0_2) (ByteArray.empty, ((0 : Int), ((0 : Int), [])))) (List.getD v0_1 (Int.toNat v0_2) (ByteArray.empty, ((0 : Int), ((0 : Int), [])))))) (k false) (L0 v0_0 v0_1 (IntKind.wrap .i64 (v0_2 + (1 : Int))))) none) none) (k true))
def laws_eqEntryS_P {ρ : Type} (f0 : TEntry → TEntry → Bool) (k : Bool → Option ρ) (L0 : (List TEntry) → (List TEntry) → Int → Option ρ) (a0 : (List TEntry)) (a1 : (List TEntry)) : Option ρ := (cond ((List.length a0 : Int) != (List.length a1 : Int)) (k false) (L0 a0 a1 (0 : Int)))
def laws_eqEntryS_L0 {ρ : Type} (k : Bool → Option ρ) (L0 : (List TEntry) → (List TEntry) → Int → Option ρ) (v0_0 : (List TEntry)) (v0_1 : (List TEntry)) (v0_2 : Int) : Option ρ := laws_eqEntryS_P_L0 N.laws_eqEntry k L0 v0_0 v0_1 v0_2
def laws_eqEntryS {ρ : Type} (k : Bool → Option ρ) (L0 : (List TEntry) → (List TEntry) → Int → Option ρ) (a0 : (List TEntry)) (a1 : (List TEntry)) : Option ρ := laws_eqEntryS_P N.laws_eqEntry k L0 a0 a1
theorem laws_eqEntryS_ok {ρ : Type} (k : Bool → Option ρ) (a0 : (List TEntry)) (a1 : (List TEntry)) (l_a0 : lnL (fun y => (True ∧ (True ∧ (True ∧ lnL (fun _ => True) y.2.2.2)))) a0) (l_a1 : lnL (fun y => (True ∧ (True ∧ (True ∧ lnL (fun _ => True) y.2.2.2)))) a1) : ∃ n0, ∀ n, n0 ≤ n → ∀ (L0 : Nat → (List TEntry) → (List TEntry) → Int → Option ρ) (h0 : ∀ ( m : Nat) (v0_0 : (List TEntry)) (v0_1 : (List TEntry)) (v0_2 : Int), L0 (m + 1) v0_0 v0_1 v0_2 = laws_eqEntryS_L0 k (L0 m) v0_0 v0_1 v0_2), laws_eqEntryS k (L0 n) a0 a1 = k (N.laws_eqEntryS a0 a1) := by
  exact ⟨a0.length + 1, fun n hn L0 h0 => eq_all (p := eqEntry) (d := (ByteArray.empty, (0, (0, [])))) l_a0.1 (L := fun m i => L0 m a0 a1 i) (fun m i => h0 m a0 a1 i) hn⟩
def OP_laws_eqEntryS (f0 : TEntry → TEntry → Bool) : Orac := (orcX 12 [.val TyEntry, .val TyEntry] (fun d => true) (fun d => [⟨.bool, f0 d.1 d.2.1⟩]) nilO)
def O_laws_eqEntryS : Orac := OP_laws_eqEntryS N.laws_eqEntry
theorem ok_laws_eqEntryS : OracOk Try.prog sigs O_laws_eqEntryS := (orcX_ok rfl rfl (fun d g => said_laws_eqEntry d.1 d.2.1) nilO_ok)
def A_laws_eqEntryS : Ann := fun b => cond (Nat.beq b 0) ⟨[(0, false), (1, false), (5, false)], []⟩ (⟨[], []⟩)
def S_laws_eqEntryS_0 (v0_0 : (List TEntry)) (v0_1 : (List TEntry)) (v0_2 : Int) : St := [(kT 0, some (.tv (.v (.slice 32 TyEntry) v0_0 .no))), (kT 1, some (.tv (.v (.slice 32 TyEntry) v0_1 .no))), (kT 5, some (.tv (.v (.int .i64) v0_2 .no)))]
noncomputable def L_P_laws_eqEntryS_0 (f0 : TEntry → TEntry → Bool) (n m : Nat) : St → Option Ret := loopOf tab sigs (OP_laws_eqEntryS f0) A_laws_eqEntryS Try.f11 [(.bool, .no)] n (fun _ => 0) 0 m
theorem bP_laws_eqEntryS_0 (f0 : TEntry → TEntry → Bool) (n m : Nat) (v0_0 : (List TEntry)) (v0_1 : (List TEntry)) (v0_2 : Int) : L_P_laws_eqEntryS_0 f0 n (m + 1) (S_laws_eqEntryS_0 v0_0 v0_1 v0_2) = laws_eqEntryS_P_L0 f0 (fun r0 => some [⟨.bool, r0⟩]) (fun v0_0 v0_1 v0_2 => L_P_laws_eqEntryS_0 f0 n m (S_laws_eqEntryS_0 v0_0 v0_1 v0_2)) v0_0 v0_1 v0_2 := by kernel_rfl
theorem aP_laws_eqEntryS (f0 : TEntry → TEntry → Bool) (n : Nat) (a0 : (List TEntry)) (a1 : (List TEntry)) : absF tab sigs (OP_laws_eqEntryS f0) A_laws_eqEntryS Try.f11 [(.bool, .no)] n [.val (.slice 32 TyEntry) a0, .val (.slice 32 TyEntry) a1] = laws_eqEntryS_P f0 (fun r0 => some [⟨.bool, r0⟩]) (fun v0_0 v0_1 v0_2 => L_P_laws_eqEntryS_0 f0 n n (S_laws_eqEntryS_0 v0_0 v0_1 v0_2)) a0 a1 := by kernel_rfl
theorem said_laws_eqEntryS (a0 : (List TEntry)) (a1 : (List TEntry)) : Said Try.prog sigs_11 11 [.val (.slice 32 TyEntry) a0, .val (.slice 32 TyEntry) a1] [⟨.bool, N.laws_eqEntryS a0 a1⟩] := said_len (T := tab) (A := A_laws_eqEntryS) tabOk ok_laws_eqEntryS tabOk.follows Try.func11 (by kernel_rfl) (by kernel_rfl) (fun hl => let ⟨n, hn⟩ := laws_eqEntryS_ok (ρ := Ret) (fun r0 => some [⟨.bool, r0⟩]) a0 a1 hl.1 hl.2.1; ⟨n, (aP_laws_eqEntryS N.laws_eqEntry n a0 a1).trans (hn n (Nat.le_refl n) (fun  m v0_0 v0_1 v0_2 => L_P_laws_eqEntryS_0 N.laws_eqEntry n  m (S_laws_eqEntryS_0 v0_0 v0_1 v0_2)) (fun  m v0_0 v0_1 v0_2 => bP_laws_eqEntryS_0 N.laws_eqEntry n  m v0_0 v0_1 v0_2))⟩)
end Go.Proofs.Ytcmjbplnjjdcdaa.Ref
