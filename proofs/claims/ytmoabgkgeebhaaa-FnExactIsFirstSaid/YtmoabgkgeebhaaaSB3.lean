/- Functions of the program: what each computes, and that it does so.
   Conditions: as each theorem states. -/
import Derived.Test.YtmoabgkgeebhaaaSB2
set_option linter.unusedVariables false
set_option linter.unusedSimpArgs false
set_option maxRecDepth 100000
namespace Go.Proofs.Ytmoabgkgeebhaaa.Ref
open Go.RowKit Go.Proofs.YtmoabgkgeebhaaaW.PrintWords Go.Proofs.YtmoabgkgeebhaaaW.PrintLast
/-! impl.isDigest -/
abbrev N.impl_isDigest (n : Int) : Bool := isDigest n
def impl_isDigest {ρ : Type} (k : Bool → Option ρ) (a0 : Int) : Option ρ := (k (N.impl_InRange a0 (0 : Int) (2147483646 : Int)))
theorem impl_isDigest_ok {ρ : Type} (k : Bool → Option ρ) (a0 : Int) : impl_isDigest k  a0 = k (N.impl_isDigest a0) := by
  rfl
def OP_impl_isDigest (f_impl_InRange : Int → Int → Int → Bool) : Orac := (orcX 107 [.val (.int .i64), .val (.int .i64), .val (.int .i64)] (fun d => true) (fun d => [⟨.bool, f_impl_InRange d.1 d.2.1 d.2.2.1⟩]) nilO)
def O_impl_isDigest : Orac := OP_impl_isDigest N.impl_InRange
def impl_isDigest_P {ρ : Type} (f_impl_InRange : Int → Int → Int → Bool) (k : Bool → Option ρ) (a0 : Int) : Option ρ := (k (f_impl_InRange a0 (0 : Int) (2147483646 : Int)))
theorem ok_impl_isDigest : OracOk Try.prog sigs O_impl_isDigest := (orcX_ok rfl (fun d g => said_impl_InRange d.1 d.2.1 d.2.2.1) nilO_ok)
def A_impl_isDigest : Ann := fun b => ⟨[], []⟩
theorem aP_impl_isDigest (f_impl_InRange : Int → Int → Int → Bool) (n : Nat) (a0 : Int) : absF tab sigs (OP_impl_isDigest f_impl_InRange) A_impl_isDigest Try.f106 [(.bool, .no)] n [.val (.int .i64) a0] = impl_isDigest_P f_impl_InRange (fun r0 => some [⟨.bool, r0⟩])  a0 := by kernel_rfl
theorem a_impl_isDigest (n : Nat) (a0 : Int) : absF tab sigs O_impl_isDigest A_impl_isDigest Try.f106 [(.bool, .no)] n [.val (.int .i64) a0] = impl_isDigest (fun r0 => some [⟨.bool, r0⟩])  a0 := aP_impl_isDigest N.impl_InRange n a0
theorem said_impl_isDigest (a0 : Int) : Said Try.prog sigs_106 106 [.val (.int .i64) a0] [⟨.bool, N.impl_isDigest a0⟩] := said_len (T := tab) (A := A_impl_isDigest) tabOk ok_impl_isDigest tabOk.follows Try.func106 (by kernel_rfl) (by kernel_rfl) (fun hl => ⟨0, (a_impl_isDigest 0 a0).trans (impl_isDigest_ok (ρ := Ret) (fun r0 => some [⟨.bool, r0⟩]) a0)⟩)
/-! impl.isSpan -/
abbrev N.impl_isSpan (h : THead) : Bool := isSpan h
def impl_isSpan {ρ : Type} (k : Bool → Option ρ) (a0 : THead) : Option ρ := (cond (decide (a0.2.2.2.1 ≥ (0 : Int))) (cond (decide (a0.2.2.2.1 ≤ a0.2.2.2.2.1)) (cond (decide (a0.2.2.2.2.1 ≤ (100000 : Int))) (k (decide ((IntKind.wrap .i64 (a0.2.2.2.2.1 - a0.2.2.2.1)) ≤ (200 : Int)))) (k false)) (k false)) (k false))
theorem impl_isSpan_ok {ρ : Type} (k : Bool → Option ρ) (a0 : THead) (l_a0 : (True ∧ (True ∧ (True ∧ (True ∧ (True ∧ (True ∧ (True ∧ (True ∧ ((lnL (fun _ => True) a0.2.2.2.2.2.2.2.2.1.1 ∧ True) ∧ ((lnL (fun _ => True) a0.2.2.2.2.2.2.2.2.2.1.1 ∧ True) ∧ (True ∧ ((lnL (fun _ => True) a0.2.2.2.2.2.2.2.2.2.2.2.1.1 ∧ True) ∧ True))))))))))))) : impl_isSpan k  a0 = k (N.impl_isSpan a0) := by
  simp only [impl_isSpan, isSpan, ge_iff_le]
  cases decide (0 ≤ a0.2.2.2.1)
  · rfl
  cases decide (a0.2.2.2.1 ≤ a0.2.2.2.2.1)
  · rfl
  cases decide (a0.2.2.2.2.1 ≤ 100000) <;> rfl
def O_impl_isSpan : Orac := nilO
theorem ok_impl_isSpan : OracOk Try.prog sigs O_impl_isSpan := nilO_ok
def A_impl_isSpan : Ann := fun b => ⟨[], []⟩
theorem a_impl_isSpan (n : Nat) (a0 : THead) : absF tab sigs O_impl_isSpan A_impl_isSpan Try.f108 [(.bool, .no)] n [.val (.pair (.int .i64) (.pair (.int .i64) (.pair (.int .i64) (.pair (.int .i64) (.pair (.int .i64) (.pair (.int .i64) (.pair (.int .i64) (.pair (.int .i64) (.pair (.pair (.slice 3 (.int .i64)) (.int .i64)) (.pair (.pair (.slice 3 (.int .i64)) (.int .i64)) (.pair (.int .i64) (.pair (.pair (.slice 3 (.int .i64)) (.int .i64)) .bool)))))))))))) a0] = impl_isSpan (fun r0 => some [⟨.bool, r0⟩])  a0 := by kernel_rfl
theorem said_impl_isSpan (a0 : THead) : Said Try.prog sigs_108 108 [.val (.pair (.int .i64) (.pair (.int .i64) (.pair (.int .i64) (.pair (.int .i64) (.pair (.int .i64) (.pair (.int .i64) (.pair (.int .i64) (.pair (.int .i64) (.pair (.pair (.slice 3 (.int .i64)) (.int .i64)) (.pair (.pair (.slice 3 (.int .i64)) (.int .i64)) (.pair (.int .i64) (.pair (.pair (.slice 3 (.int .i64)) (.int .i64)) .bool)))))))))))) a0] [⟨.bool, N.impl_isSpan a0⟩] := said_len (T := tab) (A := A_impl_isSpan) tabOk ok_impl_isSpan tabOk.follows Try.func108 (by kernel_rfl) (by kernel_rfl) (fun hl => ⟨0, (a_impl_isSpan 0 a0).trans (impl_isSpan_ok (ρ := Ret) (fun r0 => some [⟨.bool, r0⟩]) a0 hl.1)⟩)
/-! impl.ascending -/
abbrev N.impl_ascending (l : List Int) : Bool := asc l
def impl_ascending_L0 {ρ : Type} (k : Bool → Option ρ) (L0 : (List Int) → Int → Int → Option ρ) (v0_0 : (List Int)) (v0_1 : Int) (v0_2 : Int) : Option ρ := (cond (decide (v0_2 < v0_1)) (cond (decide (v0_2 > (0 : Int))) (cond (inRange v0_2 (List.length v0_0)) (cond (inRange (IntKind.wrap .i64 (v0_2 - (1 : Int))) (List.length v0_0)) (cond (decide ((List.getD v0_0 (Int.toNat v0_2) (0 : Int)) ≤ (List.getD v0_0 (Int.toNat (IntKind.wrap .i64 (v0_2 - (1 : Int)))) (0 : Int)))) (k false) (L0 v0_0 v0_1 (IntKind.wrap .i64 (v0_2 + (1 : Int))))) none) none) (L0 v0_0 v0_1 (IntKind.wrap .i64 (v0_2 + (1 : Int))))) (k true))
def impl_ascending {ρ : Type} (k : Bool → Option ρ) (L0 : (List Int) → Int → Int → Option ρ) (a0 : (List Int)) : Option ρ := (L0 a0 (List.length a0 : Int) (0 : Int))
theorem impl_ascending_ok {ρ : Type} (k : Bool → Option ρ) (a0 : (List Int)) (l_a0 : lnL (fun _ => True) a0) : ∃ n0, ∀ n, n0 ≤ n → ∀ (L0 : Nat → (List Int) → Int → Int → Option ρ) (h0 : ∀ ( m : Nat) (v0_0 : (List Int)) (v0_1 : Int) (v0_2 : Int), L0 (m + 1) v0_0 v0_1 v0_2 = impl_ascending_L0 k (L0 m) v0_0 v0_1 v0_2), impl_ascending k (L0 n) a0 = k (N.impl_ascending a0) := by
  refine ⟨a0.length + 1, fun n hn L0 h0 => ?_⟩
  have hb : a0.length ≤ 9223372036854775807 := l_a0.1
  have hrun := raw_run0 (σ := Unit) (s := ()) (L := fun m i _ => L0 m a0 (a0.length : Int) i) (R := fun i _ c => impl_ascending_L0 k (fun _ _ i => c i ()) a0 (a0.length : Int) i) (fun m i s => h0 m a0 (a0.length : Int) i) a0.length (fun _ _ => True) (fun j _ => k (ascFrom a0 (a0.length - j) j)) (fun j s c hj _ hc => ?_) (fun s c _ => ?_) hn trivial
  · refine hrun.trans ?_
    rw [Nat.sub_zero]
    rfl
  · obtain ⟨m, hm⟩ : ∃ m, a0.length - j = m + 1 := ⟨a0.length - j - 1, by omega⟩
    have hm2 : a0.length - (j + 1) = m := by omega
    have hc' := hc () trivial
    rw [hm2] at hc'
    rw [hm]
    unfold ascFrom
    by_cases h0j : j = 0
    · subst h0j
      simp only [impl_ascending_L0, lt_nat, inRange_nat, decide_eq_true hj, cond_true, wrap_succ (j := 0) (by unfold big; omega), hc']
      simp
    · have e1 : decide ((j : Int) > 0) = true := by simp; omega
      have e2 : IntKind.wrap .i64 ((j : Int) - 1) = ((j - 1 : Nat) : Int) := by rw [wrap_id (by omega) (by omega)]; omega
      have e3 : j - 1 < a0.length := by omega
      have e4 : decide (a0.getD j 0 ≤ a0.getD (j - 1) 0) = !decide (a0.getD (j - 1) 0 < a0.getD j 0) := by rw [← decide_not]; simp
      simp only [impl_ascending_L0, lt_nat, inRange_nat, decide_eq_true hj, cond_true, Int.toNat_natCast, e1, e2, e4, decide_eq_true e3, wrap_succ (j := j) (by unfold big; omega), hc', decide_eq_false h0j]
      cases decide (a0.getD (j - 1) 0 < a0.getD j 0) <;> simp
  · rw [Nat.sub_self]
    simp [impl_ascending_L0, ascFrom]
def O_impl_ascending : Orac := nilO
theorem ok_impl_ascending : OracOk Try.prog sigs O_impl_ascending := nilO_ok
def A_impl_ascending : Ann := fun b => cond (Nat.beq b 0) ⟨[(0, false), (5, false), (6, false)], []⟩ (⟨[], []⟩)
def S_impl_ascending_0 (v0_0 : (List Int)) (v0_1 : Int) (v0_2 : Int) : St := [(kT 0, some (.tv (.v (.slice 3 (.int .i64)) v0_0 .no))), (kT 5, some (.tv (.v (.int .i64) v0_1 .no))), (kT 6, some (.tv (.v (.int .i64) v0_2 .no)))]
noncomputable def L_impl_ascending_0 (n m : Nat) : St → Option Ret := loopOf tab sigs O_impl_ascending A_impl_ascending Try.f124 [(.bool, .no)] n (fun _ => 0) 0 m
theorem b_impl_ascending_0 (n m : Nat) (v0_0 : (List Int)) (v0_1 : Int) (v0_2 : Int) : L_impl_ascending_0 n (m + 1) (S_impl_ascending_0 v0_0 v0_1 v0_2) = impl_ascending_L0 (fun r0 => some [⟨.bool, r0⟩]) (fun v0_0 v0_1 v0_2 => L_impl_ascending_0 n m (S_impl_ascending_0 v0_0 v0_1 v0_2)) v0_0 v0_1 v0_2 := by kernel_rfl
theorem a_impl_ascending (n : Nat) (a0 : (List Int)) : absF tab sigs O_impl_ascending A_impl_ascending Try.f124 [(.bool, .no)] n [.val (.slice 3 (.int .i64)) a0] = impl_ascending (fun r0 => some [⟨.bool, r0⟩]) (fun v0_0 v0_1 v0_2 => L_impl_ascending_0 n n (S_impl_ascending_0 v0_0 v0_1 v0_2)) a0 := by kernel_rfl
theorem said_impl_ascending (a0 : (List Int)) : Said Try.prog sigs_124 124 [.val (.slice 3 (.int .i64)) a0] [⟨.bool, N.impl_ascending a0⟩] := said_len (T := tab) (A := A_impl_ascending) tabOk ok_impl_ascending tabOk.follows Try.func124 (by kernel_rfl) (by kernel_rfl) (fun hl => let ⟨n, hn⟩ := impl_ascending_ok (ρ := Ret) (fun r0 => some [⟨.bool, r0⟩]) a0 hl.1; ⟨n, (a_impl_ascending n a0).trans (hn n (Nat.le_refl n) (fun  m v0_0 v0_1 v0_2 => L_impl_ascending_0 n  m (S_impl_ascending_0 v0_0 v0_1 v0_2)) (fun  m v0_0 v0_1 v0_2 => b_impl_ascending_0 n  m v0_0 v0_1 v0_2))⟩)
/-! impl.IsKeys -/
abbrev N.impl_IsKeys (k : TKeys) : Bool := isKeys k
def impl_IsKeys {ρ : Type} (k : Bool → Option ρ) (a0 : TKeys) : Option ρ := (cond (N.impl_InRange (List.length a0.1 : Int) (1 : Int) (4 : Int)) (cond (N.impl_ascending a0.1) (cond (inRange (0 : Int) (List.length a0.1)) (cond (N.impl_isKey (List.getD a0.1 0 (0 : Int))) (cond (inRange (IntKind.wrap .i64 ((List.length a0.1 : Int) - (1 : Int))) (List.length a0.1)) (cond (N.impl_isKey (List.getD a0.1 (Int.toNat (IntKind.wrap .i64 ((List.length a0.1 : Int) - (1 : Int)))) (0 : Int))) (k (N.impl_InRange a0.2 (1 : Int) (List.length a0.1 : Int))) (k false)) none) (k false)) none) (k false)) (k false))
theorem impl_IsKeys_ok {ρ : Type} (k : Bool → Option ρ) (a0 : TKeys) (l_a0 : (lnL (fun _ => True) a0.1 ∧ True)) : impl_IsKeys k  a0 = k (N.impl_IsKeys a0) := by
  have hb : a0.1.length ≤ 9223372036854775807 := l_a0.1.1
  simp only [impl_IsKeys, N.impl_InRange, N.impl_ascending, N.impl_isKey, N.impl_IsKeys, isKeys]
  cases hr : inR (a0.1.length : Int) 1 4 with
  | false => rfl
  | true =>
    have hr2 : 1 ≤ (a0.1.length : Int) ∧ (a0.1.length : Int) ≤ 4 := by simpa [inR] using hr
    have e0 : inRange 0 a0.1.length = true := by
      unfold inRange
      rw [decide_eq_true (p := (0 : Int) < (a0.1.length : Int)) (by omega)]
      rfl
    have e1 : IntKind.wrap .i64 ((a0.1.length : Int) - 1) = ((a0.1.length - 1 : Nat) : Int) := by rw [wrap_id (by omega) (by omega)]; omega
    have e2 : inRange ((a0.1.length - 1 : Nat) : Int) a0.1.length = true := by rw [inRange_nat]; simp; omega
    simp only [e0, e1, e2, cond_true, Int.toNat_natCast]
    cases asc a0.1 <;> cases isKey (a0.1.getD 0 0) <;> cases isKey (a0.1.getD (a0.1.length - 1) 0) <;> rfl
def OP_impl_IsKeys (f_impl_InRange : Int → Int → Int → Bool) (f_impl_ascending : (List Int) → Bool) (f_impl_isKey : Int → Bool) : Orac := (orcX 116 [.val (.int .i64)] (fun d => true) (fun d => [⟨.bool, f_impl_isKey d.1⟩]) (orcX 124 [.val (.slice 3 (.int .i64))] (fun d => true) (fun d => [⟨.bool, f_impl_ascending d.1⟩]) (orcX 107 [.val (.int .i64), .val (.int .i64), .val (.int .i64)] (fun d => true) (fun d => [⟨.bool, f_impl_InRange d.1 d.2.1 d.2.2.1⟩]) nilO)))
def O_impl_IsKeys : Orac := OP_impl_IsKeys N.impl_InRange N.impl_ascending N.impl_isKey
def impl_IsKeys_P {ρ : Type} (f_impl_InRange : Int → Int → Int → Bool) (f_impl_ascending : (List Int) → Bool) (f_impl_isKey : Int → Bool) (k : Bool → Option ρ) (a0 : TKeys) : Option ρ := (cond (f_impl_InRange (List.length a0.1 : Int) (1 : Int) (4 : Int)) (cond (f_impl_ascending a0.1) (cond (inRange (0 : Int) (List.length a0.1)) (cond (f_impl_isKey (List.getD a0.1 0 (0 : Int))) (cond (inRange (IntKind.wrap .i64 ((List.length a0.1 : Int) - (1 : Int))) (List.length a0.1)) (cond (f_impl_isKey (List.getD a0.1 (Int.toNat (IntKind.wrap .i64 ((List.length a0.1 : Int) - (1 : Int)))) (0 : Int))) (k (f_impl_InRange a0.2 (1 : Int) (List.length a0.1 : Int))) (k false)) none) (k false)) none) (k false)) (k false))
theorem ok_impl_IsKeys : OracOk Try.prog sigs O_impl_IsKeys := (orcX_ok rfl (fun d g => said_impl_isKey d.1) (orcX_ok rfl (fun d g => said_impl_ascending d.1) (orcX_ok rfl (fun d g => said_impl_InRange d.1 d.2.1 d.2.2.1) nilO_ok)))
def A_impl_IsKeys : Ann := fun b => ⟨[], []⟩
theorem aP_impl_IsKeys (f_impl_InRange : Int → Int → Int → Bool) (f_impl_ascending : (List Int) → Bool) (f_impl_isKey : Int → Bool) (n : Nat) (a0 : TKeys) : absF tab sigs (OP_impl_IsKeys f_impl_InRange f_impl_ascending f_impl_isKey) A_impl_IsKeys Try.f109 [(.bool, .no)] n [.val (.pair (.slice 3 (.int .i64)) (.int .i64)) a0] = impl_IsKeys_P f_impl_InRange f_impl_ascending f_impl_isKey (fun r0 => some [⟨.bool, r0⟩])  a0 := by kernel_rfl
theorem a_impl_IsKeys (n : Nat) (a0 : TKeys) : absF tab sigs O_impl_IsKeys A_impl_IsKeys Try.f109 [(.bool, .no)] n [.val (.pair (.slice 3 (.int .i64)) (.int .i64)) a0] = impl_IsKeys (fun r0 => some [⟨.bool, r0⟩])  a0 := aP_impl_IsKeys N.impl_InRange N.impl_ascending N.impl_isKey n a0
theorem said_impl_IsKeys (a0 : TKeys) : Said Try.prog sigs_109 109 [.val (.pair (.slice 3 (.int .i64)) (.int .i64)) a0] [⟨.bool, N.impl_IsKeys a0⟩] := said_len (T := tab) (A := A_impl_IsKeys) tabOk ok_impl_IsKeys tabOk.follows Try.func109 (by kernel_rfl) (by kernel_rfl) (fun hl => ⟨0, (a_impl_IsKeys 0 a0).trans (impl_IsKeys_ok (ρ := Ret) (fun r0 => some [⟨.bool, r0⟩]) a0 hl.1)⟩)
/-! impl.NoKeys -/
abbrev N.impl_NoKeys (k : TKeys) : Bool := noKeys k
def impl_NoKeys {ρ : Type} (k : Bool → Option ρ) (a0 : TKeys) : Option ρ := (cond (a0.2 == (0 : Int)) (k ((List.length a0.1 : Int) == (0 : Int))) (k false))
theorem impl_NoKeys_ok {ρ : Type} (k : Bool → Option ρ) (a0 : TKeys) (l_a0 : (lnL (fun _ => True) a0.1 ∧ True)) : impl_NoKeys k  a0 = k (N.impl_NoKeys a0) := by
  simp only [impl_NoKeys, N.impl_NoKeys, noKeys]
  cases a0.2 == 0 <;> rfl
def O_impl_NoKeys : Orac := nilO
theorem ok_impl_NoKeys : OracOk Try.prog sigs O_impl_NoKeys := nilO_ok
def A_impl_NoKeys : Ann := fun b => ⟨[], []⟩
theorem a_impl_NoKeys (n : Nat) (a0 : TKeys) : absF tab sigs O_impl_NoKeys A_impl_NoKeys Try.f112 [(.bool, .no)] n [.val (.pair (.slice 3 (.int .i64)) (.int .i64)) a0] = impl_NoKeys (fun r0 => some [⟨.bool, r0⟩])  a0 := by kernel_rfl
theorem said_impl_NoKeys (a0 : TKeys) : Said Try.prog sigs_112 112 [.val (.pair (.slice 3 (.int .i64)) (.int .i64)) a0] [⟨.bool, N.impl_NoKeys a0⟩] := said_len (T := tab) (A := A_impl_NoKeys) tabOk ok_impl_NoKeys tabOk.follows Try.func112 (by kernel_rfl) (by kernel_rfl) (fun hl => ⟨0, (a_impl_NoKeys 0 a0).trans (impl_NoKeys_ok (ρ := Ret) (fun r0 => some [⟨.bool, r0⟩]) a0 hl.1)⟩)
/-! impl.isMaybe -/
abbrev N.impl_isMaybe (k : TKeys) : Bool := isMaybe k
def impl_isMaybe {ρ : Type} (k : Bool → Option ρ) (a0 : TKeys) : Option ρ := (cond (N.impl_NoKeys a0) (k true) (k (N.impl_IsKeys a0)))
theorem impl_isMaybe_ok {ρ : Type} (k : Bool → Option ρ) (a0 : TKeys) (l_a0 : (lnL (fun _ => True) a0.1 ∧ True)) : impl_isMaybe k  a0 = k (N.impl_isMaybe a0) := by
  simp only [impl_isMaybe, N.impl_NoKeys, N.impl_IsKeys, N.impl_isMaybe, isMaybe]
  cases noKeys a0 <;> rfl
def OP_impl_isMaybe (f_impl_NoKeys : TKeys → Bool) (f_impl_IsKeys : TKeys → Bool) : Orac := (orcX 109 [.val (.pair (.slice 3 (.int .i64)) (.int .i64))] (fun d => true) (fun d => [⟨.bool, f_impl_IsKeys d.1⟩]) (orcX 112 [.val (.pair (.slice 3 (.int .i64)) (.int .i64))] (fun d => true) (fun d => [⟨.bool, f_impl_NoKeys d.1⟩]) nilO))
def O_impl_isMaybe : Orac := OP_impl_isMaybe N.impl_NoKeys N.impl_IsKeys
def impl_isMaybe_P {ρ : Type} (f_impl_NoKeys : TKeys → Bool) (f_impl_IsKeys : TKeys → Bool) (k : Bool → Option ρ) (a0 : TKeys) : Option ρ := (cond (f_impl_NoKeys a0) (k true) (k (f_impl_IsKeys a0)))
theorem ok_impl_isMaybe : OracOk Try.prog sigs O_impl_isMaybe := (orcX_ok rfl (fun d g => said_impl_IsKeys d.1) (orcX_ok rfl (fun d g => said_impl_NoKeys d.1) nilO_ok))
def A_impl_isMaybe : Ann := fun b => ⟨[], []⟩
theorem aP_impl_isMaybe (f_impl_NoKeys : TKeys → Bool) (f_impl_IsKeys : TKeys → Bool) (n : Nat) (a0 : TKeys) : absF tab sigs (OP_impl_isMaybe f_impl_NoKeys f_impl_IsKeys) A_impl_isMaybe Try.f110 [(.bool, .no)] n [.val (.pair (.slice 3 (.int .i64)) (.int .i64)) a0] = impl_isMaybe_P f_impl_NoKeys f_impl_IsKeys (fun r0 => some [⟨.bool, r0⟩])  a0 := by kernel_rfl
theorem a_impl_isMaybe (n : Nat) (a0 : TKeys) : absF tab sigs O_impl_isMaybe A_impl_isMaybe Try.f110 [(.bool, .no)] n [.val (.pair (.slice 3 (.int .i64)) (.int .i64)) a0] = impl_isMaybe (fun r0 => some [⟨.bool, r0⟩])  a0 := aP_impl_isMaybe N.impl_NoKeys N.impl_IsKeys n a0
theorem said_impl_isMaybe (a0 : TKeys) : Said Try.prog sigs_110 110 [.val (.pair (.slice 3 (.int .i64)) (.int .i64)) a0] [⟨.bool, N.impl_isMaybe a0⟩] := said_len (T := tab) (A := A_impl_isMaybe) tabOk ok_impl_isMaybe tabOk.follows Try.func110 (by kernel_rfl) (by kernel_rfl) (fun hl => ⟨0, (a_impl_isMaybe 0 a0).trans (impl_isMaybe_ok (ρ := Ret) (fun r0 => some [⟨.bool, r0⟩]) a0 hl.1)⟩)
/-! impl.isWait -/
abbrev N.impl_isWait (w : Int) (k : TKeys) : Bool := isWait w k
def impl_isWait {ρ : Type} (k : Bool → Option ρ) (a0 : Int) (a1 : TKeys) : Option ρ := (cond (N.impl_NoKeys a1) (k (a0 == (0 : Int))) (k (N.impl_InRange a0 (1 : Int) (500 : Int))))
theorem impl_isWait_ok {ρ : Type} (k : Bool → Option ρ) (a0 : Int) (a1 : TKeys) (l_a1 : (lnL (fun _ => True) a1.1 ∧ True)) : impl_isWait k  a0 a1 = k (N.impl_isWait a0 a1) := by
  simp only [impl_isWait, N.impl_NoKeys, N.impl_InRange, N.impl_isWait, isWait]
  cases noKeys a1 <;> rfl
def OP_impl_isWait (f_impl_NoKeys : TKeys → Bool) (f_impl_InRange : Int → Int → Int → Bool) : Orac := (orcX 107 [.val (.int .i64), .val (.int .i64), .val (.int .i64)] (fun d => true) (fun d => [⟨.bool, f_impl_InRange d.1 d.2.1 d.2.2.1⟩]) (orcX 112 [.val (.pair (.slice 3 (.int .i64)) (.int .i64))] (fun d => true) (fun d => [⟨.bool, f_impl_NoKeys d.1⟩]) nilO))
def O_impl_isWait : Orac := OP_impl_isWait N.impl_NoKeys N.impl_InRange
def impl_isWait_P {ρ : Type} (f_impl_NoKeys : TKeys → Bool) (f_impl_InRange : Int → Int → Int → Bool) (k : Bool → Option ρ) (a0 : Int) (a1 : TKeys) : Option ρ := (cond (f_impl_NoKeys a1) (k (a0 == (0 : Int))) (k (f_impl_InRange a0 (1 : Int) (500 : Int))))
theorem ok_impl_isWait : OracOk Try.prog sigs O_impl_isWait := (orcX_ok rfl (fun d g => said_impl_InRange d.1 d.2.1 d.2.2.1) (orcX_ok rfl (fun d g => said_impl_NoKeys d.1) nilO_ok))
def A_impl_isWait : Ann := fun b => ⟨[], []⟩
theorem aP_impl_isWait (f_impl_NoKeys : TKeys → Bool) (f_impl_InRange : Int → Int → Int → Bool) (n : Nat) (a0 : Int) (a1 : TKeys) : absF tab sigs (OP_impl_isWait f_impl_NoKeys f_impl_InRange) A_impl_isWait Try.f111 [(.bool, .no)] n [.val (.int .i64) a0, .val (.pair (.slice 3 (.int .i64)) (.int .i64)) a1] = impl_isWait_P f_impl_NoKeys f_impl_InRange (fun r0 => some [⟨.bool, r0⟩])  a0 a1 := by kernel_rfl
theorem a_impl_isWait (n : Nat) (a0 : Int) (a1 : TKeys) : absF tab sigs O_impl_isWait A_impl_isWait Try.f111 [(.bool, .no)] n [.val (.int .i64) a0, .val (.pair (.slice 3 (.int .i64)) (.int .i64)) a1] = impl_isWait (fun r0 => some [⟨.bool, r0⟩])  a0 a1 := aP_impl_isWait N.impl_NoKeys N.impl_InRange n a0 a1
theorem said_impl_isWait (a0 : Int) (a1 : TKeys) : Said Try.prog sigs_111 111 [.val (.int .i64) a0, .val (.pair (.slice 3 (.int .i64)) (.int .i64)) a1] [⟨.bool, N.impl_isWait a0 a1⟩] := said_len (T := tab) (A := A_impl_isWait) tabOk ok_impl_isWait tabOk.follows Try.func111 (by kernel_rfl) (by kernel_rfl) (fun hl => ⟨0, (a_impl_isWait 0 a0 a1).trans (impl_isWait_ok (ρ := Ret) (fun r0 => some [⟨.bool, r0⟩]) a0 a1 hl.2.1)⟩)
/-! impl.IsHead -/
abbrev N.impl_IsHead (h : THead) : Bool := isHead h
def impl_IsHead {ρ : Type} (k : Bool → Option ρ) (a0 : THead) : Option ρ := (cond (N.impl_isDigest a0.1) (cond (N.impl_isDigest a0.2.2.2.2.2.2.1) (cond (N.impl_isDigest a0.2.2.2.2.2.2.2.1) (cond (N.impl_InRange a0.2.1 (0 : Int) (200 : Int)) (cond (N.impl_InRange a0.2.2.1 (1 : Int) (3 : Int)) (cond (N.impl_isSpan a0) (cond (N.impl_InRange a0.2.2.2.2.2.1 (0 : Int) (12 : Int)) (cond (N.impl_IsKeys a0.2.2.2.2.2.2.2.2.1) (cond (N.impl_isMaybe a0.2.2.2.2.2.2.2.2.2.1) (cond (N.impl_isMaybe a0.2.2.2.2.2.2.2.2.2.2.2.1) (cond (N.impl_isWait a0.2.2.2.2.2.2.2.2.2.2.1 a0.2.2.2.2.2.2.2.2.2.1) (cond a0.2.2.2.2.2.2.2.2.2.2.2.2 (k (!(N.impl_NoKeys a0.2.2.2.2.2.2.2.2.2.2.2.1))) (k true)) (k false)) (k false)) (k false)) (k false)) (k false)) (k false)) (k false)) (k false)) (k false)) (k false)) (k false))
theorem impl_IsHead_ok {ρ : Type} (k : Bool → Option ρ) (a0 : THead) (l_a0 : (True ∧ (True ∧ (True ∧ (True ∧ (True ∧ (True ∧ (True ∧ (True ∧ ((lnL (fun _ => True) a0.2.2.2.2.2.2.2.2.1.1 ∧ True) ∧ ((lnL (fun _ => True) a0.2.2.2.2.2.2.2.2.2.1.1 ∧ True) ∧ (True ∧ ((lnL (fun _ => True) a0.2.2.2.2.2.2.2.2.2.2.2.1.1 ∧ True) ∧ True))))))))))))) : impl_IsHead k  a0 = k (N.impl_IsHead a0) := by
  simp only [impl_IsHead, N.impl_isDigest, N.impl_InRange, N.impl_isSpan, N.impl_IsKeys, N.impl_isMaybe, N.impl_isWait, N.impl_NoKeys, N.impl_IsHead, isHead]
  cases isDigest a0.1
  · rfl
  cases isDigest a0.2.2.2.2.2.2.1
  · rfl
  cases isDigest a0.2.2.2.2.2.2.2.1
  · rfl
  cases inR a0.2.1 0 200
  · rfl
  cases inR a0.2.2.1 1 3
  · rfl
  cases isSpan a0
  · rfl
  cases inR a0.2.2.2.2.2.1 0 12
  · rfl
  cases isKeys a0.2.2.2.2.2.2.2.2.1
  · rfl
  cases isMaybe a0.2.2.2.2.2.2.2.2.2.1
  · rfl
  cases isMaybe a0.2.2.2.2.2.2.2.2.2.2.2.1
  · rfl
  cases isWait a0.2.2.2.2.2.2.2.2.2.2.1 a0.2.2.2.2.2.2.2.2.2.1
  · rfl
  cases a0.2.2.2.2.2.2.2.2.2.2.2.2 <;> rfl
def OP_impl_IsHead (f_impl_isDigest : Int → Bool) (f_impl_InRange : Int → Int → Int → Bool) (f_impl_isSpan : THead → Bool) (f_impl_IsKeys : TKeys → Bool) (f_impl_isMaybe : TKeys → Bool) (f_impl_isWait : Int → TKeys → Bool) (f_impl_NoKeys : TKeys → Bool) : Orac := (orcX 112 [.val (.pair (.slice 3 (.int .i64)) (.int .i64))] (fun d => true) (fun d => [⟨.bool, f_impl_NoKeys d.1⟩]) (orcX 111 [.val (.int .i64), .val (.pair (.slice 3 (.int .i64)) (.int .i64))] (fun d => true) (fun d => [⟨.bool, f_impl_isWait d.1 d.2.1⟩]) (orcX 110 [.val (.pair (.slice 3 (.int .i64)) (.int .i64))] (fun d => true) (fun d => [⟨.bool, f_impl_isMaybe d.1⟩]) (orcX 109 [.val (.pair (.slice 3 (.int .i64)) (.int .i64))] (fun d => true) (fun d => [⟨.bool, f_impl_IsKeys d.1⟩]) (orcX 108 [.val (.pair (.int .i64) (.pair (.int .i64) (.pair (.int .i64) (.pair (.int .i64) (.pair (.int .i64) (.pair (.int .i64) (.pair (.int .i64) (.pair (.int .i64) (.pair (.pair (.slice 3 (.int .i64)) (.int .i64)) (.pair (.pair (.slice 3 (.int .i64)) (.int .i64)) (.pair (.int .i64) (.pair (.pair (.slice 3 (.int .i64)) (.int .i64)) .bool))))))))))))] (fun d => true) (fun d => [⟨.bool, f_impl_isSpan d.1⟩]) (orcX 107 [.val (.int .i64), .val (.int .i64), .val (.int .i64)] (fun d => true) (fun d => [⟨.bool, f_impl_InRange d.1 d.2.1 d.2.2.1⟩]) (orcX 106 [.val (.int .i64)] (fun d => true) (fun d => [⟨.bool, f_impl_isDigest d.1⟩]) nilO)))))))
def O_impl_IsHead : Orac := OP_impl_IsHead N.impl_isDigest N.impl_InRange N.impl_isSpan N.impl_IsKeys N.impl_isMaybe N.impl_isWait N.impl_NoKeys
def impl_IsHead_P {ρ : Type} (f_impl_isDigest : Int → Bool) (f_impl_InRange : Int → Int → Int → Bool) (f_impl_isSpan : THead → Bool) (f_impl_IsKeys : TKeys → Bool) (f_impl_isMaybe : TKeys → Bool) (f_impl_isWait : Int → TKeys → Bool) (f_impl_NoKeys : TKeys → Bool) (k : Bool → Option ρ) (a0 : THead) : Option ρ := (cond (f_impl_isDigest a0.1) (cond (f_impl_isDigest a0.2.2.2.2.2.2.1) (cond (f_impl_isDigest a0.2.2.2.2.2.2.2.1) (cond (f_impl_InRange a0.2.1 (0 : Int) (200 : Int)) (cond (f_impl_InRange a0.2.2.1 (1 : Int) (3 : Int)) (cond (f_impl_isSpan a0) (cond (f_impl_InRange a0.2.2.2.2.2.1 (0 : Int) (12 : Int)) (cond (f_impl_IsKeys a0.2.2.2.2.2.2.2.2.1) (cond (f_impl_isMaybe a0.2.2.2.2.2.2.2.2.2.1) (cond (f_impl_isMaybe a0.2.2.2.2.2.2.2.2.2.2.2.1) (cond (f_impl_isWait a0.2.2.2.2.2.2.2.2.2.2.1 a0.2.2.2.2.2.2.2.2.2.1) (cond a0.2.2.2.2.2.2.2.2.2.2.2.2 (k (!(f_impl_NoKeys a0.2.2.2.2.2.2.2.2.2.2.2.1))) (k true)) (k false)) (k false)) (k false)) (k false)) (k false)) (k false)) (k false)) (k false)) (k false)) (k false)) (k false))
theorem ok_impl_IsHead : OracOk Try.prog sigs O_impl_IsHead := (orcX_ok rfl (fun d g => said_impl_NoKeys d.1) (orcX_ok rfl (fun d g => said_impl_isWait d.1 d.2.1) (orcX_ok rfl (fun d g => said_impl_isMaybe d.1) (orcX_ok rfl (fun d g => said_impl_IsKeys d.1) (orcX_ok rfl (fun d g => said_impl_isSpan d.1) (orcX_ok rfl (fun d g => said_impl_InRange d.1 d.2.1 d.2.2.1) (orcX_ok rfl (fun d g => said_impl_isDigest d.1) nilO_ok)))))))
def A_impl_IsHead : Ann := fun b => ⟨[], []⟩
theorem aP_impl_IsHead (f_impl_isDigest : Int → Bool) (f_impl_InRange : Int → Int → Int → Bool) (f_impl_isSpan : THead → Bool) (f_impl_IsKeys : TKeys → Bool) (f_impl_isMaybe : TKeys → Bool) (f_impl_isWait : Int → TKeys → Bool) (f_impl_NoKeys : TKeys → Bool) (n : Nat) (a0 : THead) : absF tab sigs (OP_impl_IsHead f_impl_isDigest f_impl_InRange f_impl_isSpan f_impl_IsKeys f_impl_isMaybe f_impl_isWait f_impl_NoKeys) A_impl_IsHead Try.f74 [(.bool, .no)] n [.val (.pair (.int .i64) (.pair (.int .i64) (.pair (.int .i64) (.pair (.int .i64) (.pair (.int .i64) (.pair (.int .i64) (.pair (.int .i64) (.pair (.int .i64) (.pair (.pair (.slice 3 (.int .i64)) (.int .i64)) (.pair (.pair (.slice 3 (.int .i64)) (.int .i64)) (.pair (.int .i64) (.pair (.pair (.slice 3 (.int .i64)) (.int .i64)) .bool)))))))))))) a0] = impl_IsHead_P f_impl_isDigest f_impl_InRange f_impl_isSpan f_impl_IsKeys f_impl_isMaybe f_impl_isWait f_impl_NoKeys (fun r0 => some [⟨.bool, r0⟩])  a0 := by kernel_rfl
theorem a_impl_IsHead (n : Nat) (a0 : THead) : absF tab sigs O_impl_IsHead A_impl_IsHead Try.f74 [(.bool, .no)] n [.val (.pair (.int .i64) (.pair (.int .i64) (.pair (.int .i64) (.pair (.int .i64) (.pair (.int .i64) (.pair (.int .i64) (.pair (.int .i64) (.pair (.int .i64) (.pair (.pair (.slice 3 (.int .i64)) (.int .i64)) (.pair (.pair (.slice 3 (.int .i64)) (.int .i64)) (.pair (.int .i64) (.pair (.pair (.slice 3 (.int .i64)) (.int .i64)) .bool)))))))))))) a0] = impl_IsHead (fun r0 => some [⟨.bool, r0⟩])  a0 := aP_impl_IsHead N.impl_isDigest N.impl_InRange N.impl_isSpan N.impl_IsKeys N.impl_isMaybe N.impl_isWait N.impl_NoKeys n a0
theorem said_impl_IsHead (a0 : THead) : Said Try.prog sigs_74 74 [.val (.pair (.int .i64) (.pair (.int .i64) (.pair (.int .i64) (.pair (.int .i64) (.pair (.int .i64) (.pair (.int .i64) (.pair (.int .i64) (.pair (.int .i64) (.pair (.pair (.slice 3 (.int .i64)) (.int .i64)) (.pair (.pair (.slice 3 (.int .i64)) (.int .i64)) (.pair (.int .i64) (.pair (.pair (.slice 3 (.int .i64)) (.int .i64)) .bool)))))))))))) a0] [⟨.bool, N.impl_IsHead a0⟩] := said_len (T := tab) (A := A_impl_IsHead) tabOk ok_impl_IsHead tabOk.follows Try.func74 (by kernel_rfl) (by kernel_rfl) (fun hl => ⟨0, (a_impl_IsHead 0 a0).trans (impl_IsHead_ok (ρ := Ret) (fun r0 => some [⟨.bool, r0⟩]) a0 hl.1)⟩)
/-! impl.ZoneOf -/
abbrev G.impl_ZoneOf (k : TKeys) (salt : Int) : Bool := decide (wK k ≤ 1048576)
abbrev N.impl_ZoneOf (k : TKeys) (salt : Int) : Int := zoneOf k salt
def impl_ZoneOf {ρ : Type} (k : Int → Option ρ) (a0 : TKeys) (a1 : Int) : Option ρ := (cond (G.impl_KeysInts a0) (cond (fit (List.length [(239 : Int), a1]) (List.length (N.impl_KeysInts a0))) (k (N.impl_Hash (List.append [(239 : Int), a1] (N.impl_KeysInts a0)))) none) none)
theorem impl_ZoneOf_ok {ρ : Type} (k : Int → Option ρ) (a0 : TKeys) (a1 : Int) (l_a0 : (lnL (fun _ => True) a0.1 ∧ True)) (g : G.impl_ZoneOf a0 a1 = true) : impl_ZoneOf k  a0 a1 = k (N.impl_ZoneOf a0 a1) := by
  unfold G.impl_ZoneOf at g
  have h : wK a0 ≤ 1048576 := of_decide_eq_true g
  have h1 : fit (List.length [(239 : Int), a1]) (List.length (keysInts a0)) = true := fit_of (by
    rw [keysInts_len]
    simp
    omega)
  show cond (decide (wK a0 ≤ 1048576)) (cond _ _ none) none = _
  rw [g, h1]
  rfl
def OP_impl_ZoneOf (f_impl_KeysInts : TKeys → (List Int)) (g_impl_KeysInts : TKeys → Bool) (f_impl_Hash : (List Int) → Int) : Orac := (orcX 113 [.val (.slice 3 (.int .i64))] (fun d => true) (fun d => [⟨(.int .i64), f_impl_Hash d.1⟩]) (orcX 93 [.val (.pair (.slice 3 (.int .i64)) (.int .i64))] (fun d => g_impl_KeysInts d.1) (fun d => [⟨(.slice 3 (.int .i64)), f_impl_KeysInts d.1⟩]) nilO))
def O_impl_ZoneOf : Orac := OP_impl_ZoneOf N.impl_KeysInts G.impl_KeysInts N.impl_Hash
def impl_ZoneOf_P {ρ : Type} (f_impl_KeysInts : TKeys → (List Int)) (g_impl_KeysInts : TKeys → Bool) (f_impl_Hash : (List Int) → Int) (k : Int → Option ρ) (a0 : TKeys) (a1 : Int) : Option ρ := (cond (g_impl_KeysInts a0) (cond (fit (List.length [(239 : Int), a1]) (List.length (f_impl_KeysInts a0))) (k (f_impl_Hash (List.append [(239 : Int), a1] (f_impl_KeysInts a0)))) none) none)
theorem ok_impl_ZoneOf : OracOk Try.prog sigs O_impl_ZoneOf := (orcX_ok rfl (fun d g => said_impl_Hash d.1) (orcX_ok rfl (fun d g => said_impl_KeysInts d.1 g) nilO_ok))
def A_impl_ZoneOf : Ann := fun b => ⟨[], []⟩
theorem aP_impl_ZoneOf (f_impl_KeysInts : TKeys → (List Int)) (g_impl_KeysInts : TKeys → Bool) (f_impl_Hash : (List Int) → Int) (n : Nat) (a0 : TKeys) (a1 : Int) : absF tab sigs (OP_impl_ZoneOf f_impl_KeysInts g_impl_KeysInts f_impl_Hash) A_impl_ZoneOf Try.f75 [((.int .i64), .no)] n [.val (.pair (.slice 3 (.int .i64)) (.int .i64)) a0, .val (.int .i64) a1] = impl_ZoneOf_P f_impl_KeysInts g_impl_KeysInts f_impl_Hash (fun r0 => some [⟨(.int .i64), r0⟩])  a0 a1 := by kernel_rfl
theorem a_impl_ZoneOf (n : Nat) (a0 : TKeys) (a1 : Int) : absF tab sigs O_impl_ZoneOf A_impl_ZoneOf Try.f75 [((.int .i64), .no)] n [.val (.pair (.slice 3 (.int .i64)) (.int .i64)) a0, .val (.int .i64) a1] = impl_ZoneOf (fun r0 => some [⟨(.int .i64), r0⟩])  a0 a1 := aP_impl_ZoneOf N.impl_KeysInts G.impl_KeysInts N.impl_Hash n a0 a1
theorem said_impl_ZoneOf (a0 : TKeys) (a1 : Int) (g : G.impl_ZoneOf a0 a1 = true) : Said Try.prog sigs_75 75 [.val (.pair (.slice 3 (.int .i64)) (.int .i64)) a0, .val (.int .i64) a1] [⟨(.int .i64), N.impl_ZoneOf a0 a1⟩] := said_len (T := tab) (A := A_impl_ZoneOf) tabOk ok_impl_ZoneOf tabOk.follows Try.func75 (by kernel_rfl) (by kernel_rfl) (fun hl => ⟨0, (a_impl_ZoneOf 0 a0 a1).trans (impl_ZoneOf_ok (ρ := Ret) (fun r0 => some [⟨(.int .i64), r0⟩]) a0 a1 hl.1 g)⟩)
/-! impl.IsSigned -/
abbrev G.impl_IsSigned (k : TKeys) (msg : List Int) (sigs : List TSig) : Bool := decide (msg.length ≤ 2097000)
abbrev N.impl_IsSigned (k : TKeys) (msg : List Int) (sigs : List TSig) : Bool := isSigned k msg sigs
def impl_IsSigned {ρ : Type} (k : Bool → Option ρ) (a0 : TKeys) (a1 : (List Int)) (a2 : (List TSig)) : Option ρ := (cond (N.impl_IsKeys a0) (cond (G.impl_CountSigs a0 a1 a2) (k (decide ((N.impl_CountSigs a0 a1 a2) ≥ a0.2))) none) (k false))
theorem impl_IsSigned_ok {ρ : Type} (k : Bool → Option ρ) (a0 : TKeys) (a1 : (List Int)) (a2 : (List TSig)) (l_a0 : (lnL (fun _ => True) a0.1 ∧ True)) (l_a1 : lnL (fun _ => True) a1) (l_a2 : lnL (fun y => (True ∧ True)) a2) (g : G.impl_IsSigned a0 a1 a2 = true) : impl_IsSigned k  a0 a1 a2 = k (N.impl_IsSigned a0 a1 a2) := by
  unfold G.impl_IsSigned at g
  show cond (isKeys a0) (cond (decide (a1.length ≤ 2097000)) (k (decide (countSigs a0 a1 a2 ≥ a0.2))) none) (k false) = k (isKeys a0 && decide (countSigs a0 a1 a2 ≥ a0.2))
  rw [g]
  exact cond_and k _ _
def OP_impl_IsSigned (f_impl_IsKeys : TKeys → Bool) (f_impl_CountSigs : TKeys → (List Int) → (List TSig) → Int) (g_impl_CountSigs : TKeys → (List Int) → (List TSig) → Bool) : Orac := (orcX 62 [.val (.pair (.slice 3 (.int .i64)) (.int .i64)), .val (.slice 3 (.int .i64)), .val (.slice 87 (.pair (.int .i64) (.int .i64)))] (fun d => g_impl_CountSigs d.1 d.2.1 d.2.2.1) (fun d => [⟨(.int .i64), f_impl_CountSigs d.1 d.2.1 d.2.2.1⟩]) (orcX 109 [.val (.pair (.slice 3 (.int .i64)) (.int .i64))] (fun d => true) (fun d => [⟨.bool, f_impl_IsKeys d.1⟩]) nilO))
def O_impl_IsSigned : Orac := OP_impl_IsSigned N.impl_IsKeys N.impl_CountSigs G.impl_CountSigs
def impl_IsSigned_P {ρ : Type} (f_impl_IsKeys : TKeys → Bool) (f_impl_CountSigs : TKeys → (List Int) → (List TSig) → Int) (g_impl_CountSigs : TKeys → (List Int) → (List TSig) → Bool) (k : Bool → Option ρ) (a0 : TKeys) (a1 : (List Int)) (a2 : (List TSig)) : Option ρ := (cond (f_impl_IsKeys a0) (cond (g_impl_CountSigs a0 a1 a2) (k (decide ((f_impl_CountSigs a0 a1 a2) ≥ a0.2))) none) (k false))
theorem ok_impl_IsSigned : OracOk Try.prog sigs O_impl_IsSigned := (orcX_ok rfl (fun d g => said_impl_CountSigs d.1 d.2.1 d.2.2.1 g) (orcX_ok rfl (fun d g => said_impl_IsKeys d.1) nilO_ok))
def A_impl_IsSigned : Ann := fun b => ⟨[], []⟩
theorem aP_impl_IsSigned (f_impl_IsKeys : TKeys → Bool) (f_impl_CountSigs : TKeys → (List Int) → (List TSig) → Int) (g_impl_CountSigs : TKeys → (List Int) → (List TSig) → Bool) (n : Nat) (a0 : TKeys) (a1 : (List Int)) (a2 : (List TSig)) : absF tab sigs (OP_impl_IsSigned f_impl_IsKeys f_impl_CountSigs g_impl_CountSigs) A_impl_IsSigned Try.f114 [(.bool, .no)] n [.val (.pair (.slice 3 (.int .i64)) (.int .i64)) a0, .val (.slice 3 (.int .i64)) a1, .val (.slice 87 (.pair (.int .i64) (.int .i64))) a2] = impl_IsSigned_P f_impl_IsKeys f_impl_CountSigs g_impl_CountSigs (fun r0 => some [⟨.bool, r0⟩])  a0 a1 a2 := by kernel_rfl
theorem a_impl_IsSigned (n : Nat) (a0 : TKeys) (a1 : (List Int)) (a2 : (List TSig)) : absF tab sigs O_impl_IsSigned A_impl_IsSigned Try.f114 [(.bool, .no)] n [.val (.pair (.slice 3 (.int .i64)) (.int .i64)) a0, .val (.slice 3 (.int .i64)) a1, .val (.slice 87 (.pair (.int .i64) (.int .i64))) a2] = impl_IsSigned (fun r0 => some [⟨.bool, r0⟩])  a0 a1 a2 := aP_impl_IsSigned N.impl_IsKeys N.impl_CountSigs G.impl_CountSigs n a0 a1 a2
theorem said_impl_IsSigned (a0 : TKeys) (a1 : (List Int)) (a2 : (List TSig)) (g : G.impl_IsSigned a0 a1 a2 = true) : Said Try.prog sigs_114 114 [.val (.pair (.slice 3 (.int .i64)) (.int .i64)) a0, .val (.slice 3 (.int .i64)) a1, .val (.slice 87 (.pair (.int .i64) (.int .i64))) a2] [⟨.bool, N.impl_IsSigned a0 a1 a2⟩] := said_len (T := tab) (A := A_impl_IsSigned) tabOk ok_impl_IsSigned tabOk.follows Try.func114 (by kernel_rfl) (by kernel_rfl) (fun hl => ⟨0, (a_impl_IsSigned 0 a0 a1 a2).trans (impl_IsSigned_ok (ρ := Ret) (fun r0 => some [⟨.bool, r0⟩]) a0 a1 a2 hl.1 hl.2.1 hl.2.2.1 g)⟩)
/-! (impl.Signed).isSignedBy -/
abbrev G._impl_Signed__isSignedBy (s : TSigned) (k : TKeys) : Bool := decide (wSd s ≤ 1048576)
abbrev N._impl_Signed__isSignedBy (s : TSigned) (k : TKeys) : Bool := isSigned k (headInts s.1) s.2
def _impl_Signed__isSignedBy {ρ : Type} (k : Bool → Option ρ) (a0 : TSigned) (a1 : TKeys) : Option ρ := (cond (G.impl_HeadInts a0.1) (cond (G.impl_IsSigned a1 (N.impl_HeadInts a0.1) a0.2) (k (N.impl_IsSigned a1 (N.impl_HeadInts a0.1) a0.2)) none) none)
theorem _impl_Signed__isSignedBy_ok {ρ : Type} (k : Bool → Option ρ) (a0 : TSigned) (a1 : TKeys) (l_a0 : ((True ∧ (True ∧ (True ∧ (True ∧ (True ∧ (True ∧ (True ∧ (True ∧ ((lnL (fun _ => True) a0.1.2.2.2.2.2.2.2.2.1.1 ∧ True) ∧ ((lnL (fun _ => True) a0.1.2.2.2.2.2.2.2.2.2.1.1 ∧ True) ∧ (True ∧ ((lnL (fun _ => True) a0.1.2.2.2.2.2.2.2.2.2.2.2.1.1 ∧ True) ∧ True)))))))))))) ∧ lnL (fun y => (True ∧ True)) a0.2)) (l_a1 : (lnL (fun _ => True) a1.1 ∧ True)) (g : G._impl_Signed__isSignedBy a0 a1 = true) : _impl_Signed__isSignedBy k  a0 a1 = k (N._impl_Signed__isSignedBy a0 a1) := by
  unfold G._impl_Signed__isSignedBy at g
  have h1 : wSd a0 ≤ 1048576 := of_decide_eq_true g
  unfold wSd at h1
  have g1 : G.impl_HeadInts a0.1 = true := decide_eq_true (by omega)
  have g2 : G.impl_IsSigned a1 (headInts a0.1) a0.2 = true := decide_eq_true (by rw [headInts_len]; omega)
  show cond (G.impl_HeadInts a0.1) (cond (G.impl_IsSigned a1 (headInts a0.1) a0.2) _ none) none = _
  rw [g1, g2]
  rfl
def OP__impl_Signed__isSignedBy (f_impl_HeadInts : THead → (List Int)) (g_impl_HeadInts : THead → Bool) (f_impl_IsSigned : TKeys → (List Int) → (List TSig) → Bool) (g_impl_IsSigned : TKeys → (List Int) → (List TSig) → Bool) : Orac := (orcX 114 [.val (.pair (.slice 3 (.int .i64)) (.int .i64)), .val (.slice 3 (.int .i64)), .val (.slice 87 (.pair (.int .i64) (.int .i64)))] (fun d => g_impl_IsSigned d.1 d.2.1 d.2.2.1) (fun d => [⟨.bool, f_impl_IsSigned d.1 d.2.1 d.2.2.1⟩]) (orcX 63 [.val (.pair (.int .i64) (.pair (.int .i64) (.pair (.int .i64) (.pair (.int .i64) (.pair (.int .i64) (.pair (.int .i64) (.pair (.int .i64) (.pair (.int .i64) (.pair (.pair (.slice 3 (.int .i64)) (.int .i64)) (.pair (.pair (.slice 3 (.int .i64)) (.int .i64)) (.pair (.int .i64) (.pair (.pair (.slice 3 (.int .i64)) (.int .i64)) .bool))))))))))))] (fun d => g_impl_HeadInts d.1) (fun d => [⟨(.slice 3 (.int .i64)), f_impl_HeadInts d.1⟩]) nilO))
def O__impl_Signed__isSignedBy : Orac := OP__impl_Signed__isSignedBy N.impl_HeadInts G.impl_HeadInts N.impl_IsSigned G.impl_IsSigned
def _impl_Signed__isSignedBy_P {ρ : Type} (f_impl_HeadInts : THead → (List Int)) (g_impl_HeadInts : THead → Bool) (f_impl_IsSigned : TKeys → (List Int) → (List TSig) → Bool) (g_impl_IsSigned : TKeys → (List Int) → (List TSig) → Bool) (k : Bool → Option ρ) (a0 : TSigned) (a1 : TKeys) : Option ρ := (cond (g_impl_HeadInts a0.1) (cond (g_impl_IsSigned a1 (f_impl_HeadInts a0.1) a0.2) (k (f_impl_IsSigned a1 (f_impl_HeadInts a0.1) a0.2)) none) none)
theorem ok__impl_Signed__isSignedBy : OracOk Try.prog sigs O__impl_Signed__isSignedBy := (orcX_ok rfl (fun d g => said_impl_IsSigned d.1 d.2.1 d.2.2.1 g) (orcX_ok rfl (fun d g => said_impl_HeadInts d.1 g) nilO_ok))
def A__impl_Signed__isSignedBy : Ann := fun b => ⟨[], []⟩
theorem aP__impl_Signed__isSignedBy (f_impl_HeadInts : THead → (List Int)) (g_impl_HeadInts : THead → Bool) (f_impl_IsSigned : TKeys → (List Int) → (List TSig) → Bool) (g_impl_IsSigned : TKeys → (List Int) → (List TSig) → Bool) (n : Nat) (a0 : TSigned) (a1 : TKeys) : absF tab sigs (OP__impl_Signed__isSignedBy f_impl_HeadInts g_impl_HeadInts f_impl_IsSigned g_impl_IsSigned) A__impl_Signed__isSignedBy Try.f76 [(.bool, .no)] n [.val (.pair (.pair (.int .i64) (.pair (.int .i64) (.pair (.int .i64) (.pair (.int .i64) (.pair (.int .i64) (.pair (.int .i64) (.pair (.int .i64) (.pair (.int .i64) (.pair (.pair (.slice 3 (.int .i64)) (.int .i64)) (.pair (.pair (.slice 3 (.int .i64)) (.int .i64)) (.pair (.int .i64) (.pair (.pair (.slice 3 (.int .i64)) (.int .i64)) .bool)))))))))))) (.slice 87 (.pair (.int .i64) (.int .i64)))) a0, .val (.pair (.slice 3 (.int .i64)) (.int .i64)) a1] = _impl_Signed__isSignedBy_P f_impl_HeadInts g_impl_HeadInts f_impl_IsSigned g_impl_IsSigned (fun r0 => some [⟨.bool, r0⟩])  a0 a1 := by kernel_rfl
theorem a__impl_Signed__isSignedBy (n : Nat) (a0 : TSigned) (a1 : TKeys) : absF tab sigs O__impl_Signed__isSignedBy A__impl_Signed__isSignedBy Try.f76 [(.bool, .no)] n [.val (.pair (.pair (.int .i64) (.pair (.int .i64) (.pair (.int .i64) (.pair (.int .i64) (.pair (.int .i64) (.pair (.int .i64) (.pair (.int .i64) (.pair (.int .i64) (.pair (.pair (.slice 3 (.int .i64)) (.int .i64)) (.pair (.pair (.slice 3 (.int .i64)) (.int .i64)) (.pair (.int .i64) (.pair (.pair (.slice 3 (.int .i64)) (.int .i64)) .bool)))))))))))) (.slice 87 (.pair (.int .i64) (.int .i64)))) a0, .val (.pair (.slice 3 (.int .i64)) (.int .i64)) a1] = _impl_Signed__isSignedBy (fun r0 => some [⟨.bool, r0⟩])  a0 a1 := aP__impl_Signed__isSignedBy N.impl_HeadInts G.impl_HeadInts N.impl_IsSigned G.impl_IsSigned n a0 a1
theorem said__impl_Signed__isSignedBy (a0 : TSigned) (a1 : TKeys) (g : G._impl_Signed__isSignedBy a0 a1 = true) : Said Try.prog sigs_76 76 [.val (.pair (.pair (.int .i64) (.pair (.int .i64) (.pair (.int .i64) (.pair (.int .i64) (.pair (.int .i64) (.pair (.int .i64) (.pair (.int .i64) (.pair (.int .i64) (.pair (.pair (.slice 3 (.int .i64)) (.int .i64)) (.pair (.pair (.slice 3 (.int .i64)) (.int .i64)) (.pair (.int .i64) (.pair (.pair (.slice 3 (.int .i64)) (.int .i64)) .bool)))))))))))) (.slice 87 (.pair (.int .i64) (.int .i64)))) a0, .val (.pair (.slice 3 (.int .i64)) (.int .i64)) a1] [⟨.bool, N._impl_Signed__isSignedBy a0 a1⟩] := said_len (T := tab) (A := A__impl_Signed__isSignedBy) tabOk ok__impl_Signed__isSignedBy tabOk.follows Try.func76 (by kernel_rfl) (by kernel_rfl) (fun hl => ⟨0, (a__impl_Signed__isSignedBy 0 a0 a1).trans (_impl_Signed__isSignedBy_ok (ρ := Ret) (fun r0 => some [⟨.bool, r0⟩]) a0 a1 hl.1 hl.2.1 g)⟩)
/-! impl.IsFirst -/
abbrev G.impl_IsFirst (s : TSigned) : Bool := decide (wSd s ≤ 1048576)
abbrev N.impl_IsFirst (s : TSigned) : Bool := isFirst s
def impl_IsFirst {ρ : Type} (k : Bool → Option ρ) (a0 : TSigned) : Option ρ := (cond (N.impl_IsHead a0.1) (cond (a0.1.2.1 == (0 : Int)) (cond (a0.1.2.2.1 == (1 : Int)) (cond (!a0.1.2.2.2.2.2.2.2.2.2.2.2.2) (cond (G.impl_ZoneOf a0.1.2.2.2.2.2.2.2.2.1 a0.1.2.2.2.2.2.2.2.1) (cond (a0.1.1 == (N.impl_ZoneOf a0.1.2.2.2.2.2.2.2.2.1 a0.1.2.2.2.2.2.2.2.1)) (cond (G._impl_Signed__isSignedBy a0 a0.1.2.2.2.2.2.2.2.2.1) (k (N._impl_Signed__isSignedBy a0 a0.1.2.2.2.2.2.2.2.2.1)) none) (k false)) none) (k false)) (k false)) (k false)) (k false))
theorem impl_IsFirst_ok {ρ : Type} (k : Bool → Option ρ) (a0 : TSigned) (l_a0 : ((True ∧ (True ∧ (True ∧ (True ∧ (True ∧ (True ∧ (True ∧ (True ∧ ((lnL (fun _ => True) a0.1.2.2.2.2.2.2.2.2.1.1 ∧ True) ∧ ((lnL (fun _ => True) a0.1.2.2.2.2.2.2.2.2.2.1.1 ∧ True) ∧ (True ∧ ((lnL (fun _ => True) a0.1.2.2.2.2.2.2.2.2.2.2.2.1.1 ∧ True) ∧ True)))))))))))) ∧ lnL (fun y => (True ∧ True)) a0.2)) (g : G.impl_IsFirst a0 = true) : impl_IsFirst k  a0 = k (N.impl_IsFirst a0) := by
  unfold G.impl_IsFirst at g
  have h1 : wSd a0 ≤ 1048576 := of_decide_eq_true g
  unfold wSd at h1
  have h2 := h1
  unfold wH at h2
  have g3 : decide (wK a0.1.2.2.2.2.2.2.2.2.1 ≤ 1048576) = true := decide_eq_true (by omega)
  simp only [impl_IsFirst, N.impl_IsHead, G.impl_ZoneOf, N.impl_ZoneOf, G._impl_Signed__isSignedBy, N._impl_Signed__isSignedBy, g, g3, cond_true]
  exact cond_first k _ _ _ _ _ _
def OP_impl_IsFirst (f_impl_IsHead : THead → Bool) (f_impl_ZoneOf : TKeys → Int → Int) (g_impl_ZoneOf : TKeys → Int → Bool) (f__impl_Signed__isSignedBy : TSigned → TKeys → Bool) (g__impl_Signed__isSignedBy : TSigned → TKeys → Bool) : Orac := (orcX 76 [.val (.pair (.pair (.int .i64) (.pair (.int .i64) (.pair (.int .i64) (.pair (.int .i64) (.pair (.int .i64) (.pair (.int .i64) (.pair (.int .i64) (.pair (.int .i64) (.pair (.pair (.slice 3 (.int .i64)) (.int .i64)) (.pair (.pair (.slice 3 (.int .i64)) (.int .i64)) (.pair (.int .i64) (.pair (.pair (.slice 3 (.int .i64)) (.int .i64)) .bool)))))))))))) (.slice 87 (.pair (.int .i64) (.int .i64)))), .val (.pair (.slice 3 (.int .i64)) (.int .i64))] (fun d => g__impl_Signed__isSignedBy d.1 d.2.1) (fun d => [⟨.bool, f__impl_Signed__isSignedBy d.1 d.2.1⟩]) (orcX 75 [.val (.pair (.slice 3 (.int .i64)) (.int .i64)), .val (.int .i64)] (fun d => g_impl_ZoneOf d.1 d.2.1) (fun d => [⟨(.int .i64), f_impl_ZoneOf d.1 d.2.1⟩]) (orcX 74 [.val (.pair (.int .i64) (.pair (.int .i64) (.pair (.int .i64) (.pair (.int .i64) (.pair (.int .i64) (.pair (.int .i64) (.pair (.int .i64) (.pair (.int .i64) (.pair (.pair (.slice 3 (.int .i64)) (.int .i64)) (.pair (.pair (.slice 3 (.int .i64)) (.int .i64)) (.pair (.int .i64) (.pair (.pair (.slice 3 (.int .i64)) (.int .i64)) .bool))))))))))))] (fun d => true) (fun d => [⟨.bool, f_impl_IsHead d.1⟩]) nilO)))
def O_impl_IsFirst : Orac := OP_impl_IsFirst N.impl_IsHead N.impl_ZoneOf G.impl_ZoneOf N._impl_Signed__isSignedBy G._impl_Signed__isSignedBy
def impl_IsFirst_P {ρ : Type} (f_impl_IsHead : THead → Bool) (f_impl_ZoneOf : TKeys → Int → Int) (g_impl_ZoneOf : TKeys → Int → Bool) (f__impl_Signed__isSignedBy : TSigned → TKeys → Bool) (g__impl_Signed__isSignedBy : TSigned → TKeys → Bool) (k : Bool → Option ρ) (a0 : TSigned) : Option ρ := (cond (f_impl_IsHead a0.1) (cond (a0.1.2.1 == (0 : Int)) (cond (a0.1.2.2.1 == (1 : Int)) (cond (!a0.1.2.2.2.2.2.2.2.2.2.2.2.2) (cond (g_impl_ZoneOf a0.1.2.2.2.2.2.2.2.2.1 a0.1.2.2.2.2.2.2.2.1) (cond (a0.1.1 == (f_impl_ZoneOf a0.1.2.2.2.2.2.2.2.2.1 a0.1.2.2.2.2.2.2.2.1)) (cond (g__impl_Signed__isSignedBy a0 a0.1.2.2.2.2.2.2.2.2.1) (k (f__impl_Signed__isSignedBy a0 a0.1.2.2.2.2.2.2.2.2.1)) none) (k false)) none) (k false)) (k false)) (k false)) (k false))
theorem ok_impl_IsFirst : OracOk Try.prog sigs O_impl_IsFirst := (orcX_ok rfl (fun d g => said__impl_Signed__isSignedBy d.1 d.2.1 g) (orcX_ok rfl (fun d g => said_impl_ZoneOf d.1 d.2.1 g) (orcX_ok rfl (fun d g => said_impl_IsHead d.1) nilO_ok)))
def A_impl_IsFirst : Ann := fun b => ⟨[], []⟩
theorem aP_impl_IsFirst (f_impl_IsHead : THead → Bool) (f_impl_ZoneOf : TKeys → Int → Int) (g_impl_ZoneOf : TKeys → Int → Bool) (f__impl_Signed__isSignedBy : TSigned → TKeys → Bool) (g__impl_Signed__isSignedBy : TSigned → TKeys → Bool) (n : Nat) (a0 : TSigned) : absF tab sigs (OP_impl_IsFirst f_impl_IsHead f_impl_ZoneOf g_impl_ZoneOf f__impl_Signed__isSignedBy g__impl_Signed__isSignedBy) A_impl_IsFirst Try.f42 [(.bool, .no)] n [.val (.pair (.pair (.int .i64) (.pair (.int .i64) (.pair (.int .i64) (.pair (.int .i64) (.pair (.int .i64) (.pair (.int .i64) (.pair (.int .i64) (.pair (.int .i64) (.pair (.pair (.slice 3 (.int .i64)) (.int .i64)) (.pair (.pair (.slice 3 (.int .i64)) (.int .i64)) (.pair (.int .i64) (.pair (.pair (.slice 3 (.int .i64)) (.int .i64)) .bool)))))))))))) (.slice 87 (.pair (.int .i64) (.int .i64)))) a0] = impl_IsFirst_P f_impl_IsHead f_impl_ZoneOf g_impl_ZoneOf f__impl_Signed__isSignedBy g__impl_Signed__isSignedBy (fun r0 => some [⟨.bool, r0⟩])  a0 := by kernel_rfl
theorem a_impl_IsFirst (n : Nat) (a0 : TSigned) : absF tab sigs O_impl_IsFirst A_impl_IsFirst Try.f42 [(.bool, .no)] n [.val (.pair (.pair (.int .i64) (.pair (.int .i64) (.pair (.int .i64) (.pair (.int .i64) (.pair (.int .i64) (.pair (.int .i64) (.pair (.int .i64) (.pair (.int .i64) (.pair (.pair (.slice 3 (.int .i64)) (.int .i64)) (.pair (.pair (.slice 3 (.int .i64)) (.int .i64)) (.pair (.int .i64) (.pair (.pair (.slice 3 (.int .i64)) (.int .i64)) .bool)))))))))))) (.slice 87 (.pair (.int .i64) (.int .i64)))) a0] = impl_IsFirst (fun r0 => some [⟨.bool, r0⟩])  a0 := aP_impl_IsFirst N.impl_IsHead N.impl_ZoneOf G.impl_ZoneOf N._impl_Signed__isSignedBy G._impl_Signed__isSignedBy n a0
theorem said_impl_IsFirst (a0 : TSigned) (g : G.impl_IsFirst a0 = true) : Said Try.prog sigs_42 42 [.val (.pair (.pair (.int .i64) (.pair (.int .i64) (.pair (.int .i64) (.pair (.int .i64) (.pair (.int .i64) (.pair (.int .i64) (.pair (.int .i64) (.pair (.int .i64) (.pair (.pair (.slice 3 (.int .i64)) (.int .i64)) (.pair (.pair (.slice 3 (.int .i64)) (.int .i64)) (.pair (.int .i64) (.pair (.pair (.slice 3 (.int .i64)) (.int .i64)) .bool)))))))))))) (.slice 87 (.pair (.int .i64) (.int .i64)))) a0] [⟨.bool, N.impl_IsFirst a0⟩] := said_len (T := tab) (A := A_impl_IsFirst) tabOk ok_impl_IsFirst tabOk.follows Try.func42 (by kernel_rfl) (by kernel_rfl) (fun hl => ⟨0, (a_impl_IsFirst 0 a0).trans (impl_IsFirst_ok (ρ := Ret) (fun r0 => some [⟨.bool, r0⟩]) a0 hl.1 g)⟩)
end Go.Proofs.Ytmoabgkgeebhaaa.Ref
