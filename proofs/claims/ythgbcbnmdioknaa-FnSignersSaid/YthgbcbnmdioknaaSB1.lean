/- Functions of the program: what each computes, and that it does so.
   Conditions: as each theorem states. -/
import Derived.Test.YthgbcbnmdioknaaSB0
import Derived.WalkKit
import Derived.Lib.Bytealg
set_option linter.unusedVariables false
set_option linter.unusedSimpArgs false
set_option maxRecDepth 100000
namespace Go.Proofs.Ythgbcbnmdioknaa.Ref
open Go.RowKit Go.Proofs.YthgbcbnmdioknaaW.PrintWords Go.Proofs.YthgbcbnmdioknaaW.PrintLast
abbrev N.impl_Mod (n m : Int) : Int := modM n m
def impl_Mod {ρ : Type} (k : Int → Option ρ) (a0 : Int) (a1 : Int) : Option ρ := (cond (!(N.impl_InRange a1 (1 : Int) (1000000000000 : Int))) (k (0 : Int)) (cond (!(decide (a1 = 0))) (cond (!(decide (a1 = 0))) (k (Int.tmod (IntKind.wrap .i64 ((Int.tmod a0 a1) + a1)) a1)) none) none))
theorem impl_Mod_ok {ρ : Type} (k : Int → Option ρ) (a0 : Int) (a1 : Int) : impl_Mod k  a0 a1 = k (N.impl_Mod a0 a1) := by
  simp only [impl_Mod, N.impl_InRange, modM]
  cases h : inR a1 1 1000000000000
  · rfl
  · have h1 : 1 ≤ a1 := by
      unfold inR at h
      simp only [Bool.and_eq_true, decide_eq_true_eq] at h
      exact h.1
    have h2 : decide (a1 = 0) = false := by simp; omega
    simp [h2]
def OP_impl_Mod (f0 : Int → Int → Int → Bool) : Orac := (orcX 43 [.val (.int .i64), .val (.int .i64), .val (.int .i64)] (fun d => true) (fun d => [⟨.bool, f0 d.1 d.2.1 d.2.2.1⟩]) nilO)
def O_impl_Mod : Orac := OP_impl_Mod N.impl_InRange
def impl_Mod_P {ρ : Type} (f0 : Int → Int → Int → Bool) (k : Int → Option ρ) (a0 : Int) (a1 : Int) : Option ρ := (cond (!(f0 a1 (1 : Int) (1000000000000 : Int))) (k (0 : Int)) (cond (!(decide (a1 = 0))) (cond (!(decide (a1 = 0))) (k (Int.tmod (IntKind.wrap .i64 ((Int.tmod a0 a1) + a1)) a1)) none) none))
theorem ok_impl_Mod : OracOk Try.prog sigs O_impl_Mod := (orcX_ok rfl rfl (fun d g => said_impl_InRange d.1 d.2.1 d.2.2.1) nilO_ok)
def A_impl_Mod : Ann := fun b => ⟨[], []⟩
theorem aP_impl_Mod (f0 : Int → Int → Int → Bool) (n : Nat) (a0 : Int) (a1 : Int) : absF tab sigs (OP_impl_Mod f0) A_impl_Mod Try.f105 [((.int .i64), .no)] n [.val (.int .i64) a0, .val (.int .i64) a1] = impl_Mod_P f0 (fun r0 => some [⟨(.int .i64), r0⟩])  a0 a1 := by kernel_rfl
theorem said_impl_Mod (a0 : Int) (a1 : Int) : Said Try.prog sigs_105 105 [.val (.int .i64) a0, .val (.int .i64) a1] [⟨(.int .i64), N.impl_Mod a0 a1⟩] := said_len (T := tab) (A := A_impl_Mod) tabOk ok_impl_Mod tabOk.follows Try.func105 (by kernel_rfl) (by kernel_rfl) (fun hl => ⟨0, (aP_impl_Mod N.impl_InRange 0 a0 a1).trans (impl_Mod_ok (ρ := Ret) (fun r0 => some [⟨(.int .i64), r0⟩]) a0 a1)⟩)
abbrev N.impl_Hash (l : List Int) : Int := hash l
def impl_Hash_P_L0 {ρ : Type} (f0 : Int → Int → Int) (k : Int → Option ρ) (L0 : Int → (List Int) → Int → Int → Option ρ) (v0_0 : Int) (v0_1 : (List Int)) (v0_2 : Int) (v0_3 : Int) : Option ρ := (cond (decide (v0_3 < v0_2)) (cond (inRange v0_3 (List.length v0_1)) (L0 (Int.tmod (IntKind.wrap .i64 ((IntKind.wrap .i64 ((IntKind.wrap .i64 (v0_0 * (1000003 : Int))) + (f0 (List.getD v0_1 (Int.toNat v0_3) (0 : Int)) (2147483647 : Int)))) + (13 : Int))) (2147483647 : Int)) v0_1 v0_2 (IntKind.wrap .i64 (v0_3 + (1 : Int)))) none) (k v0_0))
def impl_Hash_P {ρ : Type} (f0 : Int → Int → Int) (k : Int → Option ρ) (L0 : Int → (List Int) → Int → Int → Option ρ) (a0 : (List Int)) : Option ρ := (L0 (11 : Int) a0 (List.length a0 : Int) (0 : Int))
def impl_Hash_L0 {ρ : Type} (k : Int → Option ρ) (L0 : Int → (List Int) → Int → Int → Option ρ) (v0_0 : Int) (v0_1 : (List Int)) (v0_2 : Int) (v0_3 : Int) : Option ρ := impl_Hash_P_L0 N.impl_Mod k L0 v0_0 v0_1 v0_2 v0_3
def impl_Hash {ρ : Type} (k : Int → Option ρ) (L0 : Int → (List Int) → Int → Int → Option ρ) (a0 : (List Int)) : Option ρ := impl_Hash_P N.impl_Mod k L0 a0
theorem impl_Hash_ok {ρ : Type} (k : Int → Option ρ) (a0 : (List Int)) (l_a0 : lnL (fun _ => True) a0) : ∃ n0, ∀ n, n0 ≤ n → ∀ (L0 : Nat → Int → (List Int) → Int → Int → Option ρ) (h0 : ∀ ( m : Nat) (v0_0 : Int) (v0_1 : (List Int)) (v0_2 : Int) (v0_3 : Int), L0 (m + 1) v0_0 v0_1 v0_2 v0_3 = impl_Hash_L0 k (L0 m) v0_0 v0_1 v0_2 v0_3), impl_Hash k (L0 n) a0 = k (N.impl_Hash a0) := by
  refine ⟨a0.length + 1, fun n hn L0 h0 => ?_⟩
  refine raw_foldl (a := a0) 0 hashStep (k := k) (L := fun m i s => L0 m s a0 (a0.length : Int) i) (R := fun i s c => impl_Hash_L0 k (fun s _ _ i => c i s) s a0 (a0.length : Int) i) (fun m i s => h0 m s a0 (a0.length : Int) i) (fun _ _ => True) (fun j s c hj _ => ?_) (fun _ _ _ _ => trivial) (fun s c => ?_) hn trivial
  · have : j < big := by have := l_a0.1; omega
    simp [impl_Hash_L0, impl_Hash_P_L0, lt_nat, inRange_nat, hj, wrap_succ this, hashStep]
  · simp [impl_Hash_L0, impl_Hash_P_L0]
def OP_impl_Hash (f0 : Int → Int → Int) : Orac := (orcX 105 [.val (.int .i64), .val (.int .i64)] (fun d => true) (fun d => [⟨(.int .i64), f0 d.1 d.2.1⟩]) nilO)
def O_impl_Hash : Orac := OP_impl_Hash N.impl_Mod
theorem ok_impl_Hash : OracOk Try.prog sigs O_impl_Hash := (orcX_ok rfl rfl (fun d g => said_impl_Mod d.1 d.2.1) nilO_ok)
def A_impl_Hash : Ann := fun b => cond (Nat.beq b 0) ⟨[(3, false), (6, false), (7, false), (8, false)], []⟩ (⟨[], []⟩)
def S_impl_Hash_0 (v0_0 : Int) (v0_1 : (List Int)) (v0_2 : Int) (v0_3 : Int) : St := [(kT 3, some (.tv (.v (.int .i64) v0_0 .no))), (kT 6, some (.tv (.v (.slice 3 (.int .i64)) v0_1 .no))), (kT 7, some (.tv (.v (.int .i64) v0_2 .no))), (kT 8, some (.tv (.v (.int .i64) v0_3 .no)))]
noncomputable def L_P_impl_Hash_0 (f0 : Int → Int → Int) (n m : Nat) : St → Option Ret := loopOf tab sigs (OP_impl_Hash f0) A_impl_Hash Try.f79 [((.int .i64), .no)] n (fun _ => 0) 0 m
theorem bP_impl_Hash_0 (f0 : Int → Int → Int) (n m : Nat) (v0_0 : Int) (v0_1 : (List Int)) (v0_2 : Int) (v0_3 : Int) : L_P_impl_Hash_0 f0 n (m + 1) (S_impl_Hash_0 v0_0 v0_1 v0_2 v0_3) = impl_Hash_P_L0 f0 (fun r0 => some [⟨(.int .i64), r0⟩]) (fun v0_0 v0_1 v0_2 v0_3 => L_P_impl_Hash_0 f0 n m (S_impl_Hash_0 v0_0 v0_1 v0_2 v0_3)) v0_0 v0_1 v0_2 v0_3 := by kernel_rfl
theorem aP_impl_Hash (f0 : Int → Int → Int) (n : Nat) (a0 : (List Int)) : absF tab sigs (OP_impl_Hash f0) A_impl_Hash Try.f79 [((.int .i64), .no)] n [.val (.slice 3 (.int .i64)) a0] = impl_Hash_P f0 (fun r0 => some [⟨(.int .i64), r0⟩]) (fun v0_0 v0_1 v0_2 v0_3 => L_P_impl_Hash_0 f0 n n (S_impl_Hash_0 v0_0 v0_1 v0_2 v0_3)) a0 := by kernel_rfl
theorem said_impl_Hash (a0 : (List Int)) : Said Try.prog sigs_79 79 [.val (.slice 3 (.int .i64)) a0] [⟨(.int .i64), N.impl_Hash a0⟩] := said_len (T := tab) (A := A_impl_Hash) tabOk ok_impl_Hash tabOk.follows Try.func79 (by kernel_rfl) (by kernel_rfl) (fun hl => let ⟨n, hn⟩ := impl_Hash_ok (ρ := Ret) (fun r0 => some [⟨(.int .i64), r0⟩]) a0 hl.1; ⟨n, (aP_impl_Hash N.impl_Mod n a0).trans (hn n (Nat.le_refl n) (fun  m v0_0 v0_1 v0_2 v0_3 => L_P_impl_Hash_0 N.impl_Mod n  m (S_impl_Hash_0 v0_0 v0_1 v0_2 v0_3)) (fun  m v0_0 v0_1 v0_2 v0_3 => bP_impl_Hash_0 N.impl_Mod n  m v0_0 v0_1 v0_2 v0_3))⟩)
abbrev G.impl_KeyedHash (key : Int) (l : List Int) : Bool := decide (l.length ≤ 2097152)
abbrev N.impl_KeyedHash (key : Int) (l : List Int) : Int := keyedHash key l
def impl_KeyedHash {ρ : Type} (k : Int → Option ρ) (a0 : Int) (a1 : (List Int)) : Option ρ := (cond (G.slices_Concat_int [[a0], a1, [a0]]) (k (N.impl_Hash (N.slices_Concat_int [[a0], a1, [a0]]))) none)
theorem impl_KeyedHash_ok {ρ : Type} (k : Int → Option ρ) (a0 : Int) (a1 : (List Int)) (l_a1 : lnL (fun _ => True) a1) (g : G.impl_KeyedHash a0 a1 = true) : impl_KeyedHash k  a0 a1 = k (N.impl_KeyedHash a0 a1) := by
  unfold G.impl_KeyedHash at g
  have h : a1.length ≤ 2097152 := of_decide_eq_true g
  have g1 : G.slices_Concat_int [[a0], a1, [a0]] = true := by
    unfold G.slices_Concat_int
    have e1 : ([[a0], a1, [a0]] : List (List Int)).flatten.length ≤ 4194304 := by simp; omega
    rw [decide_eq_true e1]
    rfl
  show cond _ _ none = _
  rw [g1]
  show k (hash ([[a0], a1, [a0]] : List (List Int)).flatten) = k (hash (a0 :: (a1 ++ [a0])))
  rw [show ([[a0], a1, [a0]] : List (List Int)).flatten = a0 :: (a1 ++ [a0]) by simp]
def OP_impl_KeyedHash (f0 : (List (List Int)) → (List Int)) (g0 : (List (List Int)) → Bool) (f1 : (List Int) → Int) : Orac := (orcX 79 [.val (.slice 3 (.int .i64))] (fun d => true) (fun d => [⟨(.int .i64), f1 d.1⟩]) (orcX 129 [.val (.slice 24 (.slice 3 (.int .i64)))] (fun d => g0 d.1) (fun d => [⟨(.slice 3 (.int .i64)), f0 d.1⟩]) nilO))
def O_impl_KeyedHash : Orac := OP_impl_KeyedHash N.slices_Concat_int G.slices_Concat_int N.impl_Hash
def impl_KeyedHash_P {ρ : Type} (f0 : (List (List Int)) → (List Int)) (g0 : (List (List Int)) → Bool) (f1 : (List Int) → Int) (k : Int → Option ρ) (a0 : Int) (a1 : (List Int)) : Option ρ := (cond (g0 [[a0], a1, [a0]]) (k (f1 (f0 [[a0], a1, [a0]]))) none)
theorem ok_impl_KeyedHash : OracOk Try.prog sigs O_impl_KeyedHash := (orcX_ok rfl rfl (fun d g => said_impl_Hash d.1) (orcX_ok rfl rfl (fun d g => said_slices_Concat_int d.1 g) nilO_ok))
def A_impl_KeyedHash : Ann := fun b => ⟨[], []⟩
theorem aP_impl_KeyedHash (f0 : (List (List Int)) → (List Int)) (g0 : (List (List Int)) → Bool) (f1 : (List Int) → Int) (n : Nat) (a0 : Int) (a1 : (List Int)) : absF tab sigs (OP_impl_KeyedHash f0 g0 f1) A_impl_KeyedHash Try.f103 [((.int .i64), .no)] n [.val (.int .i64) a0, .val (.slice 3 (.int .i64)) a1] = impl_KeyedHash_P f0 g0 f1 (fun r0 => some [⟨(.int .i64), r0⟩])  a0 a1 := by kernel_rfl
theorem said_impl_KeyedHash (a0 : Int) (a1 : (List Int)) (g : G.impl_KeyedHash a0 a1 = true) : Said Try.prog sigs_103 103 [.val (.int .i64) a0, .val (.slice 3 (.int .i64)) a1] [⟨(.int .i64), N.impl_KeyedHash a0 a1⟩] := said_len (T := tab) (A := A_impl_KeyedHash) tabOk ok_impl_KeyedHash tabOk.follows Try.func103 (by kernel_rfl) (by kernel_rfl) (fun hl => ⟨0, (aP_impl_KeyedHash N.slices_Concat_int G.slices_Concat_int N.impl_Hash 0 a0 a1).trans (impl_KeyedHash_ok (ρ := Ret) (fun r0 => some [⟨(.int .i64), r0⟩]) a0 a1 hl.2.1 g)⟩)
abbrev G.impl_TagOf (key : Int) (l : List Int) : Bool := decide (l.length ≤ 2097000)
abbrev N.impl_TagOf (key : Int) (l : List Int) : Int := tagOf key l
def impl_TagOf {ρ : Type} (k : Int → Option ρ) (a0 : Int) (a1 : (List Int)) : Option ρ := (cond (fit (List.length [(223 : Int)]) (List.length a1)) (cond (G.impl_KeyedHash a0 (List.append [(223 : Int)] a1)) (k (N.impl_KeyedHash a0 (List.append [(223 : Int)] a1))) none) none)
theorem impl_TagOf_ok {ρ : Type} (k : Int → Option ρ) (a0 : Int) (a1 : (List Int)) (l_a1 : lnL (fun _ => True) a1) (g : G.impl_TagOf a0 a1 = true) : impl_TagOf k  a0 a1 = k (N.impl_TagOf a0 a1) := by
  unfold G.impl_TagOf at g
  have h : a1.length ≤ 2097000 := of_decide_eq_true g
  have f1 : fit (List.length [(223 : Int)]) (List.length a1) = true := fit_of (by simp; omega)
  have g1 : G.impl_KeyedHash a0 (List.append [(223 : Int)] a1) = true := decide_eq_true (by simp; omega)
  show cond _ (cond _ _ none) none = _
  rw [f1, g1]
  rfl
def OP_impl_TagOf (f0 : Int → (List Int) → Int) (g0 : Int → (List Int) → Bool) : Orac := (orcX 103 [.val (.int .i64), .val (.slice 3 (.int .i64))] (fun d => g0 d.1 d.2.1) (fun d => [⟨(.int .i64), f0 d.1 d.2.1⟩]) nilO)
def O_impl_TagOf : Orac := OP_impl_TagOf N.impl_KeyedHash G.impl_KeyedHash
def impl_TagOf_P {ρ : Type} (f0 : Int → (List Int) → Int) (g0 : Int → (List Int) → Bool) (k : Int → Option ρ) (a0 : Int) (a1 : (List Int)) : Option ρ := (cond (fit (List.length [(223 : Int)]) (List.length a1)) (cond (g0 a0 (List.append [(223 : Int)] a1)) (k (f0 a0 (List.append [(223 : Int)] a1))) none) none)
theorem ok_impl_TagOf : OracOk Try.prog sigs O_impl_TagOf := (orcX_ok rfl rfl (fun d g => said_impl_KeyedHash d.1 d.2.1 g) nilO_ok)
def A_impl_TagOf : Ann := fun b => ⟨[], []⟩
theorem aP_impl_TagOf (f0 : Int → (List Int) → Int) (g0 : Int → (List Int) → Bool) (n : Nat) (a0 : Int) (a1 : (List Int)) : absF tab sigs (OP_impl_TagOf f0 g0) A_impl_TagOf Try.f76 [((.int .i64), .no)] n [.val (.int .i64) a0, .val (.slice 3 (.int .i64)) a1] = impl_TagOf_P f0 g0 (fun r0 => some [⟨(.int .i64), r0⟩])  a0 a1 := by kernel_rfl
theorem said_impl_TagOf (a0 : Int) (a1 : (List Int)) (g : G.impl_TagOf a0 a1 = true) : Said Try.prog sigs_76 76 [.val (.int .i64) a0, .val (.slice 3 (.int .i64)) a1] [⟨(.int .i64), N.impl_TagOf a0 a1⟩] := said_len (T := tab) (A := A_impl_TagOf) tabOk ok_impl_TagOf tabOk.follows Try.func76 (by kernel_rfl) (by kernel_rfl) (fun hl => ⟨0, (aP_impl_TagOf N.impl_KeyedHash G.impl_KeyedHash 0 a0 a1).trans (impl_TagOf_ok (ρ := Ret) (fun r0 => some [⟨(.int .i64), r0⟩]) a0 a1 hl.2.1 g)⟩)
abbrev G.impl_IsSigBy (s : TSig) (l : List Int) : Bool := decide (l.length ≤ 2097000)
abbrev N.impl_IsSigBy (s : TSig) (l : List Int) : Bool := isSigBy s l
def impl_IsSigBy {ρ : Type} (k : Bool → Option ρ) (a0 : TSig) (a1 : (List Int)) : Option ρ := (cond (N.impl_isKey a0.1) (cond (G.impl_TagOf a0.1 a1) (k (a0.2 == (N.impl_TagOf a0.1 a1))) none) (k false))
theorem impl_IsSigBy_ok {ρ : Type} (k : Bool → Option ρ) (a0 : TSig) (a1 : (List Int)) (l_a1 : lnL (fun _ => True) a1) (g : G.impl_IsSigBy a0 a1 = true) : impl_IsSigBy k  a0 a1 = k (N.impl_IsSigBy a0 a1) := by
  unfold G.impl_IsSigBy at g
  show cond (inR a0.1 1 99) (cond (decide (a1.length ≤ 2097000)) (k (a0.2 == tagOf a0.1 a1)) none) (k false) = k (inR a0.1 1 99 && a0.2 == tagOf a0.1 a1)
  rw [g]
  exact cond_and k _ _
def OP_impl_IsSigBy (f0 : Int → Bool) (f1 : Int → (List Int) → Int) (g1 : Int → (List Int) → Bool) : Orac := (orcX 76 [.val (.int .i64), .val (.slice 3 (.int .i64))] (fun d => g1 d.1 d.2.1) (fun d => [⟨(.int .i64), f1 d.1 d.2.1⟩]) (orcX 75 [.val (.int .i64)] (fun d => true) (fun d => [⟨.bool, f0 d.1⟩]) nilO))
def O_impl_IsSigBy : Orac := OP_impl_IsSigBy N.impl_isKey N.impl_TagOf G.impl_TagOf
def impl_IsSigBy_P {ρ : Type} (f0 : Int → Bool) (f1 : Int → (List Int) → Int) (g1 : Int → (List Int) → Bool) (k : Bool → Option ρ) (a0 : TSig) (a1 : (List Int)) : Option ρ := (cond (f0 a0.1) (cond (g1 a0.1 a1) (k (a0.2 == (f1 a0.1 a1))) none) (k false))
theorem ok_impl_IsSigBy : OracOk Try.prog sigs O_impl_IsSigBy := (orcX_ok rfl rfl (fun d g => said_impl_TagOf d.1 d.2.1 g) (orcX_ok rfl rfl (fun d g => said_impl_isKey d.1) nilO_ok))
def A_impl_IsSigBy : Ann := fun b => ⟨[], []⟩
theorem aP_impl_IsSigBy (f0 : Int → Bool) (f1 : Int → (List Int) → Int) (g1 : Int → (List Int) → Bool) (n : Nat) (a0 : TSig) (a1 : (List Int)) : absF tab sigs (OP_impl_IsSigBy f0 f1 g1) A_impl_IsSigBy Try.f37 [(.bool, .no)] n [.val (.pair (.int .i64) (.int .i64)) a0, .val (.slice 3 (.int .i64)) a1] = impl_IsSigBy_P f0 f1 g1 (fun r0 => some [⟨.bool, r0⟩])  a0 a1 := by kernel_rfl
theorem said_impl_IsSigBy (a0 : TSig) (a1 : (List Int)) (g : G.impl_IsSigBy a0 a1 = true) : Said Try.prog sigs_37 37 [.val (.pair (.int .i64) (.int .i64)) a0, .val (.slice 3 (.int .i64)) a1] [⟨.bool, N.impl_IsSigBy a0 a1⟩] := said_len (T := tab) (A := A_impl_IsSigBy) tabOk ok_impl_IsSigBy tabOk.follows Try.func37 (by kernel_rfl) (by kernel_rfl) (fun hl => ⟨0, (aP_impl_IsSigBy N.impl_isKey N.impl_TagOf G.impl_TagOf 0 a0 a1).trans (impl_IsSigBy_ok (ρ := Ret) (fun r0 => some [⟨.bool, r0⟩]) a0 a1 hl.2.1 g)⟩)
def G.slices_Sort_int (l : List Int) : Bool := Nat.ble l.length 549755813888
abbrev N.slices_Sort_int (l : List Int) : List Int := sortI l
-- HAND
def laysSort_ren : Go.Shelf.Ren := ⟨fun | 189 => 73 | 125 => 102 | 257 => 101 | 128 => 127 | 129 => 128 | 294 => 118 | 295 => 119 | 296 => 120 | 297 => 121 | 298 => 122 | 299 => 123 | 216 => 124 | 300 => 125 | 301 => 126 | 328 => 136 | 329 => 137 | 330 => 138 | 331 => 139 | 332 => 140 | 215 => 141 | 343 => 144 | n => n, fun | 28 => 24 | 3 => 3 | 46 => 109 | 0 => 0 | 51 => 124 | 53 => 126 | 4 => 4 | 183 => 117 | 182 => 116 | 131 => 30 | 5 => 5 | 9 => 9 | 218 => 130 | 222 => 134 | 228 => 137 | 229 => 138 | n => n, fun | n => n⟩
theorem laysSort : Lays.n189 Try.prog laysSort_ren where
  mixed := by kernel_rfl
  f125 := Try.func102.trans (congrArg some (by kernel_rfl))
  f128 := Try.func127.trans (congrArg some (by kernel_rfl))
  f129 := Try.func128.trans (congrArg some (by kernel_rfl))
  f189 := Try.func73.trans (congrArg some (by kernel_rfl))
  f215 := Try.func141.trans (congrArg some (by kernel_rfl))
  f216 := Try.func124.trans (congrArg some (by kernel_rfl))
  f257 := Try.func101.trans (congrArg some (by kernel_rfl))
  f294 := Try.func118.trans (congrArg some (by kernel_rfl))
  f295 := Try.func119.trans (congrArg some (by kernel_rfl))
  f296 := Try.func120.trans (congrArg some (by kernel_rfl))
  f297 := Try.func121.trans (congrArg some (by kernel_rfl))
  f298 := Try.func122.trans (congrArg some (by kernel_rfl))
  f299 := Try.func123.trans (congrArg some (by kernel_rfl))
  f300 := Try.func125.trans (congrArg some (by kernel_rfl))
  f301 := Try.func126.trans (congrArg some (by kernel_rfl))
  f328 := Try.func136.trans (congrArg some (by kernel_rfl))
  f329 := Try.func137.trans (congrArg some (by kernel_rfl))
  f330 := Try.func138.trans (congrArg some (by kernel_rfl))
  f331 := Try.func139.trans (congrArg some (by kernel_rfl))
  f332 := Try.func140.trans (congrArg some (by kernel_rfl))
  f343 := Try.func144.trans (congrArg some (by kernel_rfl))
  t0 := Try.underlying0
  a0 := Try.isAgg0
  z0 := Try.sizeOf0
  v0 := Try.zeroValue0
  t3 := Try.underlying3
  a3 := Try.isAgg3
  z3 := Try.sizeOf3
  v3 := Try.zeroValue3
  t4 := Try.underlying4
  a4 := Try.isAgg4
  z4 := Try.sizeOf4
  v4 := Try.zeroValue4
  t5 := Try.underlying5
  a5 := Try.isAgg5
  z5 := Try.sizeOf5
  v5 := Try.zeroValue5
  t9 := Try.underlying9
  a9 := Try.isAgg9
  z9 := Try.sizeOf9
  v9 := Try.zeroValue9
  t28 := Try.underlying24
  a28 := Try.isAgg24
  z28 := Try.sizeOf24
  v28 := Try.zeroValue24
  t46 := Try.underlying109
  a46 := Try.isAgg109
  z46 := Try.sizeOf109
  v46 := Try.zeroValue109
  t51 := Try.underlying124
  a51 := Try.isAgg124
  z51 := Try.sizeOf124
  v51 := Try.zeroValue124
  t53 := Try.underlying126
  a53 := Try.isAgg126
  z53 := Try.sizeOf126
  v53 := Try.zeroValue126
  t131 := Try.underlying30
  a131 := Try.isAgg30
  z131 := Try.sizeOf30
  v131 := Try.zeroValue30
  t182 := Try.underlying116
  a182 := Try.isAgg116
  z182 := Try.sizeOf116
  v182 := Try.zeroValue116
  t183 := Try.underlying117
  a183 := Try.isAgg117
  z183 := Try.sizeOf117
  v183 := Try.zeroValue117
  t218 := Try.underlying130
  a218 := Try.isAgg130
  z218 := Try.sizeOf130
  v218 := Try.zeroValue130
  t222 := Try.underlying134
  a222 := Try.isAgg134
  z222 := Try.sizeOf134
  v222 := Try.zeroValue134
  t228 := Try.underlying137
  a228 := Try.isAgg137
  z228 := Try.sizeOf137
  v228 := Try.zeroValue137
  t229 := Try.underlying138
  a229 := Try.isAgg138
  z229 := Try.sizeOf138
  v229 := Try.zeroValue138
theorem stands_73 : Stands Try.prog 73 := ⟨_, Try.func73, by kernel_rfl, by kernel_rfl⟩
theorem said_slices_Sort_int (a0 : List Int) (g : G.slices_Sort_int a0 = true) : SaidR Try.prog 73 (.slice 3 (.int .i64)) a0 (.own 0) [⟨(.slice 3 (.int .i64)), N.slices_Sort_int a0⟩] :=
  sort_said stands_73 (Nat.le_of_ble_eq_true g) (fun blk off cap zs w h1 h2 h3 => Any.slices_Sort_int laysSort blk off cap zs w h1 h2 h3) (fun p cap w => Any.slices_Sort_int_none laysSort p cap w)

abbrev N.slices_Compact_int (l : List Int) : List Int := Go.Lib.compact l
-- HAND
def laysCompact_ren : Go.Shelf.Ren := ⟨fun | 20 => 74 | n => n, fun | 22 => 24 | 3 => 3 | 4 => 4 | 0 => 0 | n => n, fun | n => n⟩
theorem laysCompact : Lays2.n20 Try.prog laysCompact_ren where
  mixed := by kernel_rfl
  f20 := Try.func74.trans (congrArg some (by kernel_rfl))
  t0 := Try.underlying0
  a0 := Try.isAgg0
  z0 := Try.sizeOf0
  v0 := Try.zeroValue0
  t3 := Try.underlying3
  a3 := Try.isAgg3
  z3 := Try.sizeOf3
  v3 := Try.zeroValue3
  t4 := Try.underlying4
  a4 := Try.isAgg4
  z4 := Try.sizeOf4
  v4 := Try.zeroValue4
  t22 := Try.underlying24
  a22 := Try.isAgg24
  z22 := Try.sizeOf24
  v22 := Try.zeroValue24
  i3 := by kernel_rfl
theorem stands_74 : Stands Try.prog 74 := ⟨_, Try.func74, by kernel_rfl, by kernel_rfl⟩
theorem said_slices_Compact_int (a0 : List Int) : SaidX Try.prog sigs_74 74 [.lend (.slice 3 (.int .i64)) a0 (.own 0)] [⟨(.slice 3 (.int .i64)), N.slices_Compact_int a0⟩] :=
  compact_said stands_74 (fun blk off cap zs w h1 h2 h3 => Any.slices_Compact_int laysCompact blk off cap zs w h1 h2 h3) (fun p cap w => Any.slices_Compact_int_empty laysCompact p cap w)

abbrev G.impl_SignersOf (msg : List Int) (sigs : List TSig) : Bool := decide (msg.length ≤ 2097000) && decide (sigs.length ≤ 1048576)
abbrev N.impl_SignersOf (msg : List Int) (sigs : List TSig) : List Int := signers msg sigs
def impl_SignersOf_P_L0 {ρ : Type} (f0 : TSig → (List Int) → Bool) (g0 : TSig → (List Int) → Bool) (f1 : (List Int) → (List Int)) (g1 : (List Int) → Bool) (f2 : (List Int) → (List Int)) (k : (List Int) → Option ρ) (L0 : (List Int) → (List TSig) → Int → Int → (List Int) → Option ρ) (v0_0 : (List Int)) (v0_1 : (List TSig)) (v0_2 : Int) (v0_3 : Int) (v0_4 : (List Int)) : Option ρ := (cond (decide (v0_3 < v0_2)) (cond (inRange v0_3 (List.length v0_1)) (cond (g0 (List.getD v0_1 (Int.toNat v0_3) ((0 : Int), (0 : Int))) v0_0) (cond (f0 (List.getD v0_1 (Int.toNat v0_3) ((0 : Int), (0 : Int))) v0_0) (cond (fit (List.length v0_4) (List.length [(List.getD v0_1 (Int.toNat v0_3) ((0 : Int), (0 : Int))).1])) (L0 v0_0 v0_1 v0_2 (IntKind.wrap .i64 (v0_3 + (1 : Int))) (List.append v0_4 [(List.getD v0_1 (Int.toNat v0_3) ((0 : Int), (0 : Int))).1])) none) (L0 v0_0 v0_1 v0_2 (IntKind.wrap .i64 (v0_3 + (1 : Int))) v0_4)) none) none) (cond (g1 v0_4) (k (f2 (f1 v0_4))) none))
def impl_SignersOf_P {ρ : Type} (f0 : TSig → (List Int) → Bool) (g0 : TSig → (List Int) → Bool) (f1 : (List Int) → (List Int)) (g1 : (List Int) → Bool) (f2 : (List Int) → (List Int)) (k : (List Int) → Option ρ) (L0 : (List Int) → (List TSig) → Int → Int → (List Int) → Option ρ) (a0 : (List Int)) (a1 : (List TSig)) : Option ρ := (L0 a0 a1 (List.length a1 : Int) (0 : Int) ([] : (List Int)))
def impl_SignersOf_L0 {ρ : Type} (k : (List Int) → Option ρ) (L0 : (List Int) → (List TSig) → Int → Int → (List Int) → Option ρ) (v0_0 : (List Int)) (v0_1 : (List TSig)) (v0_2 : Int) (v0_3 : Int) (v0_4 : (List Int)) : Option ρ := impl_SignersOf_P_L0 N.impl_IsSigBy G.impl_IsSigBy N.slices_Sort_int G.slices_Sort_int N.slices_Compact_int k L0 v0_0 v0_1 v0_2 v0_3 v0_4
def impl_SignersOf {ρ : Type} (k : (List Int) → Option ρ) (L0 : (List Int) → (List TSig) → Int → Int → (List Int) → Option ρ) (a0 : (List Int)) (a1 : (List TSig)) : Option ρ := impl_SignersOf_P N.impl_IsSigBy G.impl_IsSigBy N.slices_Sort_int G.slices_Sort_int N.slices_Compact_int k L0 a0 a1
theorem impl_SignersOf_ok {ρ : Type} (k : (List Int) → Option ρ) (a0 : (List Int)) (a1 : (List TSig)) (l_a0 : lnL (fun _ => True) a0) (l_a1 : lnL (fun y => (True ∧ True)) a1) (g : G.impl_SignersOf a0 a1 = true) : ∃ n0, ∀ n, n0 ≤ n → ∀ (L0 : Nat → (List Int) → (List TSig) → Int → Int → (List Int) → Option ρ) (h0 : ∀ ( m : Nat) (v0_0 : (List Int)) (v0_1 : (List TSig)) (v0_2 : Int) (v0_3 : Int) (v0_4 : (List Int)), L0 (m + 1) v0_0 v0_1 v0_2 v0_3 v0_4 = impl_SignersOf_L0 k (L0 m) v0_0 v0_1 v0_2 v0_3 v0_4), impl_SignersOf k (L0 n) a0 a1 = k (N.impl_SignersOf a0 a1) := by
  unfold G.impl_SignersOf at g
  obtain ⟨g1, g2⟩ := (Bool.and_eq_true _ _).mp g
  have g2 := of_decide_eq_true g2
  refine ⟨a1.length + 1, fun n hn L0 h0 => ?_⟩
  refine (raw_filter (a := a1) (0, 0) (sKey a0) 1048576 (k := fun out => cond (G.slices_Sort_int out) (k (Go.Lib.compact (sortI out))) none) (L := fun m i out => L0 m a0 a1 (a1.length : Int) i out) (R := fun i out c => impl_SignersOf_L0 k (fun _ _ _ i out => c i out) a0 a1 (a1.length : Int) i out) (fun m i s => h0 m a0 a1 (a1.length : Int) i s) (fun j out c hj ho => ?_) (fun out c => ?_) g2 hn).trans ?_
  · have h1 : j < big := by unfold big; omega
    have hf : ∀ x : Int, fit (List.length out) (List.length [x]) = true := fun x => fit_of (by simp; omega)
    simp only [impl_SignersOf_L0, impl_SignersOf_P_L0, lt_nat, inRange_nat, decide_eq_true hj, cond_true, Int.toNat_natCast, G.impl_IsSigBy, N.impl_IsSigBy, g1, wrap_succ h1, hf, sKey]
    cases isSigBy (a1.getD j (0, 0)) a0 <;> rfl
  · simp [impl_SignersOf_L0, impl_SignersOf_P_L0]
  · have h2 : G.slices_Sort_int (a1.filterMap (sKey a0)) = true := Nat.ble_eq_true_of_le (by have := List.length_filterMap_le (sKey a0) a1; omega)
    show cond (G.slices_Sort_int (a1.filterMap (sKey a0))) (k (signers a0 a1)) none = _
    rw [h2]
    rfl
def OP_impl_SignersOf (f0 : TSig → (List Int) → Bool) (g0 : TSig → (List Int) → Bool) (f1 : (List Int) → (List Int)) (g1 : (List Int) → Bool) (f2 : (List Int) → (List Int)) : Orac := (orcX 74 [.lend .bool (.own 0), .lend (.slice 3 (.int .i64)) (.own 0)] (fun d => true) (fun d => [⟨(.slice 3 (.int .i64)), f2 d.2.1⟩]) (orcX 73 [.lend (.slice 3 (.int .i64)) (.own 0)] (fun d => g1 d.1) (fun d => [⟨(.slice 3 (.int .i64)), f1 d.1⟩]) (orcX 37 [.val (.pair (.int .i64) (.int .i64)), .val (.slice 3 (.int .i64))] (fun d => g0 d.1 d.2.1) (fun d => [⟨.bool, f0 d.1 d.2.1⟩]) nilO)))
def O_impl_SignersOf : Orac := OP_impl_SignersOf N.impl_IsSigBy G.impl_IsSigBy N.slices_Sort_int G.slices_Sort_int N.slices_Compact_int
theorem ok_impl_SignersOf : OracOk Try.prog sigs O_impl_SignersOf := (orcV_ok rfl (fun d g => said_slices_Compact_int d.2.1) (orcS_ok rfl rfl (fun d g => said_slices_Sort_int d.1 g) (orcX_ok rfl rfl (fun d g => said_impl_IsSigBy d.1 d.2.1 g) nilO_ok)))
def A_impl_SignersOf : Ann := fun b => cond (Nat.beq b 0) ⟨[(0, false), (5, true), (9, false), (10, false), (11, false)], []⟩ (⟨[], []⟩)
def S_impl_SignersOf_0 (v0_0 : (List Int)) (v0_1 : (List TSig)) (v0_2 : Int) (v0_3 : Int) (v0_4 : (List Int)) : St := [(kT 0, some (.tv (.v (.slice 3 (.int .i64)) v0_0 .no))), (kT 5, some (.tv (.v (.slice 3 (.int .i64)) [] (.own 40)))), (kT 9, some (.tv (.v (.slice 64 (.pair (.int .i64) (.int .i64))) v0_1 .no))), (kT 10, some (.tv (.v (.int .i64) v0_2 .no))), (kT 11, some (.tv (.v (.int .i64) v0_3 .no))), (kR 40, some (.row 3 (.int .i64) v0_4))]
noncomputable def L_P_impl_SignersOf_0 (f0 : TSig → (List Int) → Bool) (g0 : TSig → (List Int) → Bool) (f1 : (List Int) → (List Int)) (g1 : (List Int) → Bool) (f2 : (List Int) → (List Int)) (n m : Nat) : St → Option Ret := loopOf tab sigs (OP_impl_SignersOf f0 g0 f1 g1 f2) A_impl_SignersOf Try.f36 [((.slice 3 (.int .i64)), (.own 0))] n (fun _ => 0) 0 m
theorem bP_impl_SignersOf_0 (f0 : TSig → (List Int) → Bool) (g0 : TSig → (List Int) → Bool) (f1 : (List Int) → (List Int)) (g1 : (List Int) → Bool) (f2 : (List Int) → (List Int)) (n m : Nat) (v0_0 : (List Int)) (v0_1 : (List TSig)) (v0_2 : Int) (v0_3 : Int) (v0_4 : (List Int)) : L_P_impl_SignersOf_0 f0 g0 f1 g1 f2 n (m + 1) (S_impl_SignersOf_0 v0_0 v0_1 v0_2 v0_3 v0_4) = impl_SignersOf_P_L0 f0 g0 f1 g1 f2 (fun r0 => some [⟨(.slice 3 (.int .i64)), r0⟩]) (fun v0_0 v0_1 v0_2 v0_3 v0_4 => L_P_impl_SignersOf_0 f0 g0 f1 g1 f2 n m (S_impl_SignersOf_0 v0_0 v0_1 v0_2 v0_3 v0_4)) v0_0 v0_1 v0_2 v0_3 v0_4 := by kernel_rfl
theorem aP_impl_SignersOf (f0 : TSig → (List Int) → Bool) (g0 : TSig → (List Int) → Bool) (f1 : (List Int) → (List Int)) (g1 : (List Int) → Bool) (f2 : (List Int) → (List Int)) (n : Nat) (a0 : (List Int)) (a1 : (List TSig)) : absF tab sigs (OP_impl_SignersOf f0 g0 f1 g1 f2) A_impl_SignersOf Try.f36 [((.slice 3 (.int .i64)), (.own 0))] n [.val (.slice 3 (.int .i64)) a0, .val (.slice 64 (.pair (.int .i64) (.int .i64))) a1] = impl_SignersOf_P f0 g0 f1 g1 f2 (fun r0 => some [⟨(.slice 3 (.int .i64)), r0⟩]) (fun v0_0 v0_1 v0_2 v0_3 v0_4 => L_P_impl_SignersOf_0 f0 g0 f1 g1 f2 n n (S_impl_SignersOf_0 v0_0 v0_1 v0_2 v0_3 v0_4)) a0 a1 := by kernel_rfl
theorem said_impl_SignersOf (a0 : (List Int)) (a1 : (List TSig)) (g : G.impl_SignersOf a0 a1 = true) : Said Try.prog sigs_36 36 [.val (.slice 3 (.int .i64)) a0, .val (.slice 64 (.pair (.int .i64) (.int .i64))) a1] [⟨(.slice 3 (.int .i64)), N.impl_SignersOf a0 a1⟩] := said_len (T := tab) (A := A_impl_SignersOf) tabOk ok_impl_SignersOf tabOk.follows Try.func36 (by kernel_rfl) (by kernel_rfl) (fun hl => let ⟨n, hn⟩ := impl_SignersOf_ok (ρ := Ret) (fun r0 => some [⟨(.slice 3 (.int .i64)), r0⟩]) a0 a1 hl.1 hl.2.1 g; ⟨n, (aP_impl_SignersOf N.impl_IsSigBy G.impl_IsSigBy N.slices_Sort_int G.slices_Sort_int N.slices_Compact_int n a0 a1).trans (hn n (Nat.le_refl n) (fun  m v0_0 v0_1 v0_2 v0_3 v0_4 => L_P_impl_SignersOf_0 N.impl_IsSigBy G.impl_IsSigBy N.slices_Sort_int G.slices_Sort_int N.slices_Compact_int n  m (S_impl_SignersOf_0 v0_0 v0_1 v0_2 v0_3 v0_4)) (fun  m v0_0 v0_1 v0_2 v0_3 v0_4 => bP_impl_SignersOf_0 N.impl_IsSigBy G.impl_IsSigBy N.slices_Sort_int G.slices_Sort_int N.slices_Compact_int n  m v0_0 v0_1 v0_2 v0_3 v0_4))⟩)
abbrev N.laws_hasInt (l : List Int) (x : Int) : Bool := hasInt l x
def laws_hasInt_L0 {ρ : Type} (k : Bool → Option ρ) (L0 : (List Int) → Int → Int → Option ρ) (v0_0 : (List Int)) (v0_1 : Int) (v0_2 : Int) : Option ρ := (cond (decide (v0_2 < (List.length v0_0 : Int))) (cond (inRange v0_2 (List.length v0_0)) (cond ((List.getD v0_0 (Int.toNat v0_2) (0 : Int)) == v0_1) (k true) (L0 v0_0 v0_1 (IntKind.wrap .i64 (v0_2 + (1 : Int))))) none) (k false))
def laws_hasInt {ρ : Type} (k : Bool → Option ρ) (L0 : (List Int) → Int → Int → Option ρ) (a0 : (List Int)) (a1 : Int) : Option ρ := (L0 a0 a1 (0 : Int))
theorem laws_hasInt_ok {ρ : Type} (k : Bool → Option ρ) (a0 : (List Int)) (a1 : Int) (l_a0 : lnL (fun _ => True) a0) : ∃ n0, ∀ n, n0 ≤ n → ∀ (L0 : Nat → (List Int) → Int → Int → Option ρ) (h0 : ∀ ( m : Nat) (v0_0 : (List Int)) (v0_1 : Int) (v0_2 : Int), L0 (m + 1) v0_0 v0_1 v0_2 = laws_hasInt_L0 k (L0 m) v0_0 v0_1 v0_2), laws_hasInt k (L0 n) a0 a1 = k (N.laws_hasInt a0 a1) := by
  have hb : a0.length ≤ 9223372036854775807 := l_a0.1
  rw [show N.laws_hasInt a0 a1 = a0.any (fun y => y == a1) from by
    show hasInt a0 a1 = _
    unfold hasInt
    congr 1
    funext y
    exact Bool.beq_comm]
  refine ⟨a0.length + 1, fun n hn L0 h0 => ?_⟩
  refine (raw_any (a := a0) 0 (fun y => y == a1) (σ := Unit) (s := ()) (r := k true) (e := fun _ => k false) (L := fun q i _ => L0 q a0 a1 i) (R := fun i _ d => laws_hasInt_L0 k (fun _ _ i => d i ()) a0 a1 i) (fun q i _ => h0 q a0 a1 i) (fun i _ d hi => ?_) (fun _ d => ?_) hn).trans ?_
  · have h1 : i < big := by unfold big; omega
    simp only [laws_hasInt_L0, lt_nat, inRange_nat, decide_eq_true hi, cond_true, Int.toNat_natCast, wrap_succ h1]
  · simp only [laws_hasInt_L0, lt_nat, Nat.lt_irrefl, decide_false, cond_false]
  · cases a0.any (fun y => y == a1) <;> rfl
def O_laws_hasInt : Orac := nilO
theorem ok_laws_hasInt : OracOk Try.prog sigs O_laws_hasInt := nilO_ok
def A_laws_hasInt : Ann := fun b => cond (Nat.beq b 0) ⟨[(0, false), (1, false), (5, false)], []⟩ (⟨[], []⟩)
def S_laws_hasInt_0 (v0_0 : (List Int)) (v0_1 : Int) (v0_2 : Int) : St := [(kT 0, some (.tv (.v (.slice 3 (.int .i64)) v0_0 .no))), (kT 1, some (.tv (.v (.int .i64) v0_1 .no))), (kT 5, some (.tv (.v (.int .i64) v0_2 .no)))]
noncomputable def L_laws_hasInt_0 (n m : Nat) : St → Option Ret := loopOf tab sigs O_laws_hasInt A_laws_hasInt Try.f38 [(.bool, .no)] n (fun _ => 0) 0 m
theorem b_laws_hasInt_0 (n m : Nat) (v0_0 : (List Int)) (v0_1 : Int) (v0_2 : Int) : L_laws_hasInt_0 n (m + 1) (S_laws_hasInt_0 v0_0 v0_1 v0_2) = laws_hasInt_L0 (fun r0 => some [⟨.bool, r0⟩]) (fun v0_0 v0_1 v0_2 => L_laws_hasInt_0 n m (S_laws_hasInt_0 v0_0 v0_1 v0_2)) v0_0 v0_1 v0_2 := by kernel_rfl
theorem a_laws_hasInt (n : Nat) (a0 : (List Int)) (a1 : Int) : absF tab sigs O_laws_hasInt A_laws_hasInt Try.f38 [(.bool, .no)] n [.val (.slice 3 (.int .i64)) a0, .val (.int .i64) a1] = laws_hasInt (fun r0 => some [⟨.bool, r0⟩]) (fun v0_0 v0_1 v0_2 => L_laws_hasInt_0 n n (S_laws_hasInt_0 v0_0 v0_1 v0_2)) a0 a1 := by kernel_rfl
theorem said_laws_hasInt (a0 : (List Int)) (a1 : Int) : Said Try.prog sigs_38 38 [.val (.slice 3 (.int .i64)) a0, .val (.int .i64) a1] [⟨.bool, N.laws_hasInt a0 a1⟩] := said_len (T := tab) (A := A_laws_hasInt) tabOk ok_laws_hasInt tabOk.follows Try.func38 (by kernel_rfl) (by kernel_rfl) (fun hl => let ⟨n, hn⟩ := laws_hasInt_ok (ρ := Ret) (fun r0 => some [⟨.bool, r0⟩]) a0 a1 hl.1; ⟨n, (a_laws_hasInt n a0 a1).trans (hn n (Nat.le_refl n) (fun  m v0_0 v0_1 v0_2 => L_laws_hasInt_0 n  m (S_laws_hasInt_0 v0_0 v0_1 v0_2)) (fun  m v0_0 v0_1 v0_2 => b_laws_hasInt_0 n  m v0_0 v0_1 v0_2))⟩)
abbrev G.spec_IsSigBy (s : TSig) (l : List Int) : Bool := decide (l.length ≤ 2097000)
abbrev N.spec_IsSigBy (s : TSig) (l : List Int) : Bool := isSigBy s l
def spec_IsSigBy {ρ : Type} (k : Bool → Option ρ) (a0 : TSig) (a1 : (List Int)) : Option ρ := (cond (N.spec_l1In a0.1 (1 : Int) (99 : Int)) (cond (G.spec_TagOf a0.1 a1) (k (a0.2 == (N.spec_TagOf a0.1 a1))) none) (k false))
theorem spec_IsSigBy_ok {ρ : Type} (k : Bool → Option ρ) (a0 : TSig) (a1 : (List Int)) (l_a1 : lnL (fun _ => True) a1) (g : G.spec_IsSigBy a0 a1 = true) : spec_IsSigBy k  a0 a1 = k (N.spec_IsSigBy a0 a1) := by
  unfold G.spec_IsSigBy at g
  show cond (inR a0.1 1 99) (cond (decide (a1.length ≤ 2097000)) (k (a0.2 == tagOf a0.1 a1)) none) (k false) = k (inR a0.1 1 99 && a0.2 == tagOf a0.1 a1)
  rw [g]
  exact cond_and k _ _
def OP_spec_IsSigBy (f0 : Int → Int → Int → Bool) (f1 : Int → (List Int) → Int) (g1 : Int → (List Int) → Bool) : Orac := (orcX 104 [.val (.int .i64), .val (.slice 3 (.int .i64))] (fun d => g1 d.1 d.2.1) (fun d => [⟨(.int .i64), f1 d.1 d.2.1⟩]) (orcX 45 [.val (.int .i64), .val (.int .i64), .val (.int .i64)] (fun d => true) (fun d => [⟨.bool, f0 d.1 d.2.1 d.2.2.1⟩]) nilO))
def O_spec_IsSigBy : Orac := OP_spec_IsSigBy N.spec_l1In N.spec_TagOf G.spec_TagOf
def spec_IsSigBy_P {ρ : Type} (f0 : Int → Int → Int → Bool) (f1 : Int → (List Int) → Int) (g1 : Int → (List Int) → Bool) (k : Bool → Option ρ) (a0 : TSig) (a1 : (List Int)) : Option ρ := (cond (f0 a0.1 (1 : Int) (99 : Int)) (cond (g1 a0.1 a1) (k (a0.2 == (f1 a0.1 a1))) none) (k false))
theorem ok_spec_IsSigBy : OracOk Try.prog sigs O_spec_IsSigBy := (orcX_ok rfl rfl (fun d g => said_spec_TagOf d.1 d.2.1 g) (orcX_ok rfl rfl (fun d g => said_spec_l1In d.1 d.2.1 d.2.2.1) nilO_ok))
def A_spec_IsSigBy : Ann := fun b => ⟨[], []⟩
theorem aP_spec_IsSigBy (f0 : Int → Int → Int → Bool) (f1 : Int → (List Int) → Int) (g1 : Int → (List Int) → Bool) (n : Nat) (a0 : TSig) (a1 : (List Int)) : absF tab sigs (OP_spec_IsSigBy f0 f1 g1) A_spec_IsSigBy Try.f77 [(.bool, .no)] n [.val (.pair (.int .i64) (.int .i64)) a0, .val (.slice 3 (.int .i64)) a1] = spec_IsSigBy_P f0 f1 g1 (fun r0 => some [⟨.bool, r0⟩])  a0 a1 := by kernel_rfl
theorem said_spec_IsSigBy (a0 : TSig) (a1 : (List Int)) (g : G.spec_IsSigBy a0 a1 = true) : Said Try.prog sigs_77 77 [.val (.pair (.int .i64) (.int .i64)) a0, .val (.slice 3 (.int .i64)) a1] [⟨.bool, N.spec_IsSigBy a0 a1⟩] := said_len (T := tab) (A := A_spec_IsSigBy) tabOk ok_spec_IsSigBy tabOk.follows Try.func77 (by kernel_rfl) (by kernel_rfl) (fun hl => ⟨0, (aP_spec_IsSigBy N.spec_l1In N.spec_TagOf G.spec_TagOf 0 a0 a1).trans (spec_IsSigBy_ok (ρ := Ret) (fun r0 => some [⟨.bool, r0⟩]) a0 a1 hl.2.1 g)⟩)
abbrev G.spec_SignersOf (msg : List Int) (sigs : List TSig) : Bool := decide (msg.length ≤ 2097000)
abbrev N.spec_SignersOf (msg : List Int) (sigs : List TSig) : List Int := signers msg sigs
def spec_SignersOf_P_L2 {ρ : Type} (f0 : TSig → (List Int) → Bool) (g0 : TSig → (List Int) → Bool) (k : (List Int) → Option ρ) (L0 : (List Int) → (List TSig) → Int → (List Int) → Option ρ) (L2 : (List Int) → (List TSig) → Int → Int → (List Int) → Option ρ) (v2_0 : (List Int)) (v2_1 : (List TSig)) (v2_2 : Int) (v2_3 : Int) (v2_4 : (List Int)) : Option ρ := (cond (decide (v2_3 < (List.length v2_1 : Int))) (cond (inRange v2_3 (List.length v2_1)) (cond ((List.getD v2_1 (Int.toNat v2_3) ((0 : Int), (0 : Int))).1 == v2_2) (cond (inRange v2_3 (List.length v2_1)) (cond (g0 (List.getD v2_1 (Int.toNat v2_3) ((0 : Int), (0 : Int))) v2_0) (cond (f0 (List.getD v2_1 (Int.toNat v2_3) ((0 : Int), (0 : Int))) v2_0) (cond (fit (List.length v2_4) (List.length [v2_2])) (L0 v2_0 v2_1 (IntKind.wrap .i64 (v2_2 + (1 : Int))) (List.append v2_4 [v2_2])) none) (L2 v2_0 v2_1 v2_2 (IntKind.wrap .i64 (v2_3 + (1 : Int))) v2_4)) none) none) (L2 v2_0 v2_1 v2_2 (IntKind.wrap .i64 (v2_3 + (1 : Int))) v2_4)) none) (L0 v2_0 v2_1 (IntKind.wrap .i64 (v2_2 + (1 : Int))) v2_4))
def spec_SignersOf_P_L0 {ρ : Type} (f0 : TSig → (List Int) → Bool) (g0 : TSig → (List Int) → Bool) (k : (List Int) → Option ρ) (L2 : (List Int) → (List TSig) → Int → Int → (List Int) → Option ρ) (v0_0 : (List Int)) (v0_1 : (List TSig)) (v0_2 : Int) (v0_3 : (List Int)) : Option ρ := (cond (decide (v0_2 ≤ (99 : Int))) (L2 v0_0 v0_1 v0_2 (0 : Int) v0_3) (k v0_3))
def spec_SignersOf_P {ρ : Type} (f0 : TSig → (List Int) → Bool) (g0 : TSig → (List Int) → Bool) (k : (List Int) → Option ρ) (L0 : (List Int) → (List TSig) → Int → (List Int) → Option ρ) (a0 : (List Int)) (a1 : (List TSig)) : Option ρ := (L0 a0 a1 (1 : Int) ([] : (List Int)))
def spec_SignersOf_L2 {ρ : Type} (k : (List Int) → Option ρ) (L0 : (List Int) → (List TSig) → Int → (List Int) → Option ρ) (L2 : (List Int) → (List TSig) → Int → Int → (List Int) → Option ρ) (v2_0 : (List Int)) (v2_1 : (List TSig)) (v2_2 : Int) (v2_3 : Int) (v2_4 : (List Int)) : Option ρ := spec_SignersOf_P_L2 N.spec_IsSigBy G.spec_IsSigBy k L0 L2 v2_0 v2_1 v2_2 v2_3 v2_4
def spec_SignersOf_L0 {ρ : Type} (k : (List Int) → Option ρ) (L2 : (List Int) → (List TSig) → Int → Int → (List Int) → Option ρ) (v0_0 : (List Int)) (v0_1 : (List TSig)) (v0_2 : Int) (v0_3 : (List Int)) : Option ρ := spec_SignersOf_P_L0 N.spec_IsSigBy G.spec_IsSigBy k L2 v0_0 v0_1 v0_2 v0_3
def spec_SignersOf {ρ : Type} (k : (List Int) → Option ρ) (L0 : (List Int) → (List TSig) → Int → (List Int) → Option ρ) (a0 : (List Int)) (a1 : (List TSig)) : Option ρ := spec_SignersOf_P N.spec_IsSigBy G.spec_IsSigBy k L0 a0 a1
theorem spec_SignersOf_ok {ρ : Type} (k : (List Int) → Option ρ) (a0 : (List Int)) (a1 : (List TSig)) (l_a0 : lnL (fun _ => True) a0) (l_a1 : lnL (fun y => (True ∧ True)) a1) (g : G.spec_SignersOf a0 a1 = true) : ∃ n0, ∀ n, n0 ≤ n → ∀ (L0 : Nat → (List Int) → (List TSig) → Int → (List Int) → Option ρ) (L2 : Nat → Nat → (List Int) → (List TSig) → Int → Int → (List Int) → Option ρ) (h0 : ∀ ( m : Nat) (v0_0 : (List Int)) (v0_1 : (List TSig)) (v0_2 : Int) (v0_3 : (List Int)), L0 (m + 1) v0_0 v0_1 v0_2 v0_3 = spec_SignersOf_L0 k (L2 m n) v0_0 v0_1 v0_2 v0_3) (h2 : ∀ (m0 m : Nat) (v2_0 : (List Int)) (v2_1 : (List TSig)) (v2_2 : Int) (v2_3 : Int) (v2_4 : (List Int)), L2 m0 (m + 1) v2_0 v2_1 v2_2 v2_3 v2_4 = spec_SignersOf_L2 k (L0 m0) (L2 m0 m) v2_0 v2_1 v2_2 v2_3 v2_4), spec_SignersOf k (L0 n) a0 a1 = k (N.spec_SignersOf a0 a1) := by
  unfold G.spec_SignersOf at g
  rw [show N.spec_SignersOf a0 a1 = sFrom a0 a1 99 1 from signers_eq a0 a1]
  refine ⟨a1.length + 101, fun n hn L0 L2 h0 h2 => ?_⟩
  have hb : a1.length ≤ 9223372036854775807 := l_a1.1
  have inner : ∀ (m : Nat) (key : Int) (out : List Int), out.length ≤ 200 → L2 m n a0 a1 key 0 out = cond (hasSig a1 key a0) (L0 m a0 a1 (IntKind.wrap .i64 (key + 1)) (List.append out [key])) (L0 m a0 a1 (IntKind.wrap .i64 (key + 1)) out) := by
    intro m key out ho
    have hf : fit (List.length out) (List.length [key]) = true := fit_of (by simp; omega)
    refine raw_any (a := a1) (0, 0) (fun s => s.1 == key && isSigBy s a0) (σ := Unit) (s := ()) (r := L0 m a0 a1 (IntKind.wrap .i64 (key + 1)) (List.append out [key])) (e := fun _ => L0 m a0 a1 (IntKind.wrap .i64 (key + 1)) out) (L := fun q i _ => L2 m q a0 a1 key i out) (R := fun i _ d => spec_SignersOf_L2 k (L0 m) (fun _ _ _ i _ => d i ()) a0 a1 key i out) (fun q i _ => h2 m q a0 a1 key i out) (fun i _ d hi => ?_) (fun _ d => ?_) (by omega)
    · have h1 : i < big := by unfold big; omega
      simp only [spec_SignersOf_L2, spec_SignersOf_P_L2, lt_nat, inRange_nat, decide_eq_true hi, cond_true, Int.toNat_natCast, G.spec_IsSigBy, N.spec_IsSigBy, g, wrap_succ h1, hf]
      cases (a1.getD i (0, 0)).1 == key <;> cases isSigBy (a1.getD i (0, 0)) a0 <;> rfl
    · simp only [spec_SignersOf_L2, spec_SignersOf_P_L2, lt_nat, Nat.lt_irrefl, decide_false, cond_false]
  have go : ∀ (d n' j : Nat) (out : List Int), j + d = 100 → d < n' → out.length ≤ j → L0 n' a0 a1 (j : Int) out = k (out ++ sFrom a0 a1 d j) := by
    intro d
    induction d with
    | zero =>
      intro n' j out hj hn' ho
      obtain ⟨m, rfl⟩ : ∃ m, n' = m + 1 := ⟨n' - 1, by omega⟩
      have e1 : decide ((j : Int) ≤ 99) = false := decide_eq_false (by omega)
      rw [h0]
      simp only [spec_SignersOf_L0, spec_SignersOf_P_L0, e1, cond_false]
      rw [show sFrom a0 a1 0 j = [] from rfl, List.append_nil]
    | succ d ih =>
      intro n' j out hj hn' ho
      obtain ⟨m, rfl⟩ : ∃ m, n' = m + 1 := ⟨n' - 1, by omega⟩
      have e1 : decide ((j : Int) ≤ 99) = true := decide_eq_true (by omega)
      have e2 : IntKind.wrap .i64 ((j : Int) + 1) = ((j + 1 : Nat) : Int) := wrap_succ (by unfold big; omega)
      rw [h0]
      show cond (decide ((j : Int) ≤ 99)) (L2 m n a0 a1 (j : Int) 0 out) (k out) = _
      rw [e1, cond_true, inner m _ _ (by omega), e2]
      unfold sFrom
      cases hasSig a1 (j : Int) a0 with
      | true =>
        have := ih m (j + 1) (List.append out [(j : Int)]) (by omega) (by omega) (by show (out ++ [_]).length ≤ _; rw [List.length_append]; simp; omega)
        rw [cond_true, cond_true, this]
        show k ((out ++ [(j : Int)]) ++ _) = _
        rw [List.append_assoc]
        rfl
      | false => exact ih m (j + 1) out (by omega) (by omega) (by omega)
  exact go 99 n 1 [] (by omega) (by omega) (by simp)
def OP_spec_SignersOf (f0 : TSig → (List Int) → Bool) (g0 : TSig → (List Int) → Bool) : Orac := (orcX 77 [.val (.pair (.int .i64) (.int .i64)), .val (.slice 3 (.int .i64))] (fun d => g0 d.1 d.2.1) (fun d => [⟨.bool, f0 d.1 d.2.1⟩]) nilO)
def O_spec_SignersOf : Orac := OP_spec_SignersOf N.spec_IsSigBy G.spec_IsSigBy
theorem ok_spec_SignersOf : OracOk Try.prog sigs O_spec_SignersOf := (orcX_ok rfl rfl (fun d g => said_spec_IsSigBy d.1 d.2.1 g) nilO_ok)
def A_spec_SignersOf : Ann := fun b => cond (Nat.beq b 2) ⟨[(0, false), (1, false), (5, true), (6, false), (7, false)], []⟩ (cond (Nat.beq b 0) ⟨[(0, false), (1, false), (5, true), (6, false)], []⟩ (⟨[], []⟩))
def S_spec_SignersOf_0 (v0_0 : (List Int)) (v0_1 : (List TSig)) (v0_2 : Int) (v0_3 : (List Int)) : St := [(kT 0, some (.tv (.v (.slice 3 (.int .i64)) v0_0 .no))), (kT 1, some (.tv (.v (.slice 64 (.pair (.int .i64) (.int .i64))) v0_1 .no))), (kT 5, some (.tv (.v (.slice 3 (.int .i64)) [] (.own 40)))), (kT 6, some (.tv (.v (.int .i64) v0_2 .no))), (kR 40, some (.row 3 (.int .i64) v0_3))]
noncomputable def L_P_spec_SignersOf_0 (f0 : TSig → (List Int) → Bool) (g0 : TSig → (List Int) → Bool) (n m : Nat) : St → Option Ret := loopOf tab sigs (OP_spec_SignersOf f0 g0) A_spec_SignersOf Try.f39 [((.slice 3 (.int .i64)), (.own 0))] n (fun _ => 0) 0 m
def S_spec_SignersOf_2 (v2_0 : (List Int)) (v2_1 : (List TSig)) (v2_2 : Int) (v2_3 : Int) (v2_4 : (List Int)) : St := [(kT 0, some (.tv (.v (.slice 3 (.int .i64)) v2_0 .no))), (kT 1, some (.tv (.v (.slice 64 (.pair (.int .i64) (.int .i64))) v2_1 .no))), (kT 5, some (.tv (.v (.slice 3 (.int .i64)) [] (.own 40)))), (kT 6, some (.tv (.v (.int .i64) v2_2 .no))), (kT 7, some (.tv (.v (.int .i64) v2_3 .no))), (kR 40, some (.row 3 (.int .i64) v2_4))]
noncomputable def L_P_spec_SignersOf_2 (f0 : TSig → (List Int) → Bool) (g0 : TSig → (List Int) → Bool) (n m0 m : Nat) : St → Option Ret := loopOf tab sigs (OP_spec_SignersOf f0 g0) A_spec_SignersOf Try.f39 [((.slice 3 (.int .i64)), (.own 0))] n (fun b => cond (Nat.beq b 0) m0 ((fun _ => 0) b)) 2 m
theorem bP_spec_SignersOf_0 (f0 : TSig → (List Int) → Bool) (g0 : TSig → (List Int) → Bool) (n m : Nat) (v0_0 : (List Int)) (v0_1 : (List TSig)) (v0_2 : Int) (v0_3 : (List Int)) : L_P_spec_SignersOf_0 f0 g0 n (m + 1) (S_spec_SignersOf_0 v0_0 v0_1 v0_2 v0_3) = spec_SignersOf_P_L0 f0 g0 (fun r0 => some [⟨(.slice 3 (.int .i64)), r0⟩]) (fun v2_0 v2_1 v2_2 v2_3 v2_4 => L_P_spec_SignersOf_2 f0 g0 n m n (S_spec_SignersOf_2 v2_0 v2_1 v2_2 v2_3 v2_4)) v0_0 v0_1 v0_2 v0_3 := by kernel_rfl
theorem bP_spec_SignersOf_2 (f0 : TSig → (List Int) → Bool) (g0 : TSig → (List Int) → Bool) (n m0 m : Nat) (v2_0 : (List Int)) (v2_1 : (List TSig)) (v2_2 : Int) (v2_3 : Int) (v2_4 : (List Int)) : L_P_spec_SignersOf_2 f0 g0 n m0 (m + 1) (S_spec_SignersOf_2 v2_0 v2_1 v2_2 v2_3 v2_4) = spec_SignersOf_P_L2 f0 g0 (fun r0 => some [⟨(.slice 3 (.int .i64)), r0⟩]) (fun v0_0 v0_1 v0_2 v0_3 => L_P_spec_SignersOf_0 f0 g0 n m0 (S_spec_SignersOf_0 v0_0 v0_1 v0_2 v0_3)) (fun v2_0 v2_1 v2_2 v2_3 v2_4 => L_P_spec_SignersOf_2 f0 g0 n m0 m (S_spec_SignersOf_2 v2_0 v2_1 v2_2 v2_3 v2_4)) v2_0 v2_1 v2_2 v2_3 v2_4 := by kernel_rfl
theorem aP_spec_SignersOf (f0 : TSig → (List Int) → Bool) (g0 : TSig → (List Int) → Bool) (n : Nat) (a0 : (List Int)) (a1 : (List TSig)) : absF tab sigs (OP_spec_SignersOf f0 g0) A_spec_SignersOf Try.f39 [((.slice 3 (.int .i64)), (.own 0))] n [.val (.slice 3 (.int .i64)) a0, .val (.slice 64 (.pair (.int .i64) (.int .i64))) a1] = spec_SignersOf_P f0 g0 (fun r0 => some [⟨(.slice 3 (.int .i64)), r0⟩]) (fun v0_0 v0_1 v0_2 v0_3 => L_P_spec_SignersOf_0 f0 g0 n n (S_spec_SignersOf_0 v0_0 v0_1 v0_2 v0_3)) a0 a1 := by kernel_rfl
theorem said_spec_SignersOf (a0 : (List Int)) (a1 : (List TSig)) (g : G.spec_SignersOf a0 a1 = true) : Said Try.prog sigs_39 39 [.val (.slice 3 (.int .i64)) a0, .val (.slice 64 (.pair (.int .i64) (.int .i64))) a1] [⟨(.slice 3 (.int .i64)), N.spec_SignersOf a0 a1⟩] := said_len (T := tab) (A := A_spec_SignersOf) tabOk ok_spec_SignersOf tabOk.follows Try.func39 (by kernel_rfl) (by kernel_rfl) (fun hl => let ⟨n, hn⟩ := spec_SignersOf_ok (ρ := Ret) (fun r0 => some [⟨(.slice 3 (.int .i64)), r0⟩]) a0 a1 hl.1 hl.2.1 g; ⟨n, (aP_spec_SignersOf N.spec_IsSigBy G.spec_IsSigBy n a0 a1).trans (hn n (Nat.le_refl n) (fun  m v0_0 v0_1 v0_2 v0_3 => L_P_spec_SignersOf_0 N.spec_IsSigBy G.spec_IsSigBy n  m (S_spec_SignersOf_0 v0_0 v0_1 v0_2 v0_3)) (fun m0 m v2_0 v2_1 v2_2 v2_3 v2_4 => L_P_spec_SignersOf_2 N.spec_IsSigBy G.spec_IsSigBy n m0 m (S_spec_SignersOf_2 v2_0 v2_1 v2_2 v2_3 v2_4)) (fun  m v0_0 v0_1 v0_2 v0_3 => bP_spec_SignersOf_0 N.spec_IsSigBy G.spec_IsSigBy n  m v0_0 v0_1 v0_2 v0_3) (fun m0 m v2_0 v2_1 v2_2 v2_3 v2_4 => bP_spec_SignersOf_2 N.spec_IsSigBy G.spec_IsSigBy n m0 m v2_0 v2_1 v2_2 v2_3 v2_4))⟩)
abbrev N.laws_sameInts (a b : List Int) : Bool := eqInts a b
def laws_sameInts_L0 {ρ : Type} (k : Bool → Option ρ) (L0 : (List Int) → (List Int) → Int → Option ρ) (v0_0 : (List Int)) (v0_1 : (List Int)) (v0_2 : Int) : Option ρ := (cond (decide (v0_2 < (List.length v0_0 : Int))) (cond (inRange v0_2 (List.length v0_0)) (cond (inRange v0_2 (List.length v0_1)) (cond ((List.getD v0_0 (Int.toNat v0_2) (0 : Int)) != (List.getD v0_1 (Int.toNat v0_2) (0 : Int))) (k false) (L0 v0_0 v0_1 (IntKind.wrap .i64 (v0_2 + (1 : Int))))) none) none) (k true))
def laws_sameInts {ρ : Type} (k : Bool → Option ρ) (L0 : (List Int) → (List Int) → Int → Option ρ) (a0 : (List Int)) (a1 : (List Int)) : Option ρ := (cond ((List.length a0 : Int) != (List.length a1 : Int)) (k false) (L0 a0 a1 (0 : Int)))
theorem laws_sameInts_ok {ρ : Type} (k : Bool → Option ρ) (a0 : (List Int)) (a1 : (List Int)) (l_a0 : lnL (fun _ => True) a0) (l_a1 : lnL (fun _ => True) a1) : ∃ n0, ∀ n, n0 ≤ n → ∀ (L0 : Nat → (List Int) → (List Int) → Int → Option ρ) (h0 : ∀ ( m : Nat) (v0_0 : (List Int)) (v0_1 : (List Int)) (v0_2 : Int), L0 (m + 1) v0_0 v0_1 v0_2 = laws_sameInts_L0 k (L0 m) v0_0 v0_1 v0_2), laws_sameInts k (L0 n) a0 a1 = k (N.laws_sameInts a0 a1) := by
  exact ⟨a0.length + 1, fun n hn L0 h0 => eq_all (p := fun x y => x == y) (d := 0) l_a0.1 (L := fun m i => L0 m a0 a1 i) (fun m i => h0 m a0 a1 i) hn⟩
def O_laws_sameInts : Orac := nilO
theorem ok_laws_sameInts : OracOk Try.prog sigs O_laws_sameInts := nilO_ok
def A_laws_sameInts : Ann := fun b => cond (Nat.beq b 0) ⟨[(0, false), (1, false), (5, false)], []⟩ (⟨[], []⟩)
def S_laws_sameInts_0 (v0_0 : (List Int)) (v0_1 : (List Int)) (v0_2 : Int) : St := [(kT 0, some (.tv (.v (.slice 3 (.int .i64)) v0_0 .no))), (kT 1, some (.tv (.v (.slice 3 (.int .i64)) v0_1 .no))), (kT 5, some (.tv (.v (.int .i64) v0_2 .no)))]
noncomputable def L_laws_sameInts_0 (n m : Nat) : St → Option Ret := loopOf tab sigs O_laws_sameInts A_laws_sameInts Try.f9 [(.bool, .no)] n (fun _ => 0) 0 m
theorem b_laws_sameInts_0 (n m : Nat) (v0_0 : (List Int)) (v0_1 : (List Int)) (v0_2 : Int) : L_laws_sameInts_0 n (m + 1) (S_laws_sameInts_0 v0_0 v0_1 v0_2) = laws_sameInts_L0 (fun r0 => some [⟨.bool, r0⟩]) (fun v0_0 v0_1 v0_2 => L_laws_sameInts_0 n m (S_laws_sameInts_0 v0_0 v0_1 v0_2)) v0_0 v0_1 v0_2 := by kernel_rfl
theorem a_laws_sameInts (n : Nat) (a0 : (List Int)) (a1 : (List Int)) : absF tab sigs O_laws_sameInts A_laws_sameInts Try.f9 [(.bool, .no)] n [.val (.slice 3 (.int .i64)) a0, .val (.slice 3 (.int .i64)) a1] = laws_sameInts (fun r0 => some [⟨.bool, r0⟩]) (fun v0_0 v0_1 v0_2 => L_laws_sameInts_0 n n (S_laws_sameInts_0 v0_0 v0_1 v0_2)) a0 a1 := by kernel_rfl
theorem said_laws_sameInts (a0 : (List Int)) (a1 : (List Int)) : Said Try.prog sigs_9 9 [.val (.slice 3 (.int .i64)) a0, .val (.slice 3 (.int .i64)) a1] [⟨.bool, N.laws_sameInts a0 a1⟩] := said_len (T := tab) (A := A_laws_sameInts) tabOk ok_laws_sameInts tabOk.follows Try.func9 (by kernel_rfl) (by kernel_rfl) (fun hl => let ⟨n, hn⟩ := laws_sameInts_ok (ρ := Ret) (fun r0 => some [⟨.bool, r0⟩]) a0 a1 hl.1 hl.2.1; ⟨n, (a_laws_sameInts n a0 a1).trans (hn n (Nat.le_refl n) (fun  m v0_0 v0_1 v0_2 => L_laws_sameInts_0 n  m (S_laws_sameInts_0 v0_0 v0_1 v0_2)) (fun  m v0_0 v0_1 v0_2 => b_laws_sameInts_0 n  m v0_0 v0_1 v0_2))⟩)
end Go.Proofs.Ythgbcbnmdioknaa.Ref
