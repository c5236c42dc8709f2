/- Functions of the program: what each computes, and that it does so.
   Conditions: as each theorem states. -/
import Derived.Test.YthcenfbfgjcikaaSB1
set_option linter.unusedVariables false
set_option linter.unusedSimpArgs false
set_option maxRecDepth 100000
namespace Go.Proofs.Ythcenfbfgjcikaa.Ref
open Go.RowKit Go.Proofs.YthcenfbfgjcikaaW.PrintWords Go.Proofs.YthcenfbfgjcikaaW.PrintLast
/-! spec.MayFollow -/
abbrev G.spec_MayFollow (a : THead) (b : TSigned) : Bool := decide (wH a ≤ 1048576) && decide (wSd b ≤ 1048576)
abbrev N.spec_MayFollow (a : THead) (b : TSigned) : Bool := nextCode a b == 1
def spec_MayFollow {ρ : Type} (k : Bool → Option ρ) (a0 : THead) (a1 : TSigned) : Option ρ := (cond (G.spec_NextCode a0 a1) (k ((N.spec_NextCode a0 a1) == (1 : Int))) none)
theorem spec_MayFollow_ok {ρ : Type} (k : Bool → Option ρ) (a0 : THead) (a1 : TSigned) (l_a0 : (True ∧ (True ∧ (True ∧ (True ∧ (True ∧ (True ∧ (True ∧ (True ∧ ((lnL (fun _ => True) a0.2.2.2.2.2.2.2.2.1.1 ∧ True) ∧ ((lnL (fun _ => True) a0.2.2.2.2.2.2.2.2.2.1.1 ∧ True) ∧ (True ∧ ((lnL (fun _ => True) a0.2.2.2.2.2.2.2.2.2.2.2.1.1 ∧ True) ∧ True))))))))))))) (l_a1 : ((True ∧ (True ∧ (True ∧ (True ∧ (True ∧ (True ∧ (True ∧ (True ∧ ((lnL (fun _ => True) a1.1.2.2.2.2.2.2.2.2.1.1 ∧ True) ∧ ((lnL (fun _ => True) a1.1.2.2.2.2.2.2.2.2.2.1.1 ∧ True) ∧ (True ∧ ((lnL (fun _ => True) a1.1.2.2.2.2.2.2.2.2.2.2.2.1.1 ∧ True) ∧ True)))))))))))) ∧ lnL (fun y => (True ∧ True)) a1.2)) (g : G.spec_MayFollow a0 a1 = true) : spec_MayFollow k  a0 a1 = k (N.spec_MayFollow a0 a1) := by
  unfold G.spec_MayFollow at g
  simp only [spec_MayFollow, N.spec_NextCode, G.spec_NextCode, g, cond_true]
def OP_spec_MayFollow (f_spec_NextCode : THead → TSigned → Int) (g_spec_NextCode : THead → TSigned → Bool) : Orac := (orcX 10 [.val (.pair (.int .i64) (.pair (.int .i64) (.pair (.int .i64) (.pair (.int .i64) (.pair (.int .i64) (.pair (.int .i64) (.pair (.int .i64) (.pair (.int .i64) (.pair (.pair (.slice 3 (.int .i64)) (.int .i64)) (.pair (.pair (.slice 3 (.int .i64)) (.int .i64)) (.pair (.int .i64) (.pair (.pair (.slice 3 (.int .i64)) (.int .i64)) .bool)))))))))))), .val (.pair (.pair (.int .i64) (.pair (.int .i64) (.pair (.int .i64) (.pair (.int .i64) (.pair (.int .i64) (.pair (.int .i64) (.pair (.int .i64) (.pair (.int .i64) (.pair (.pair (.slice 3 (.int .i64)) (.int .i64)) (.pair (.pair (.slice 3 (.int .i64)) (.int .i64)) (.pair (.int .i64) (.pair (.pair (.slice 3 (.int .i64)) (.int .i64)) .bool)))))))))))) (.slice 100 (.pair (.int .i64) (.int .i64))))] (fun d => g_spec_NextCode d.1 d.2.1) (fun d => [⟨(.int .i64), f_spec_NextCode d.1 d.2.1⟩]) nilO)
def O_spec_MayFollow : Orac := OP_spec_MayFollow N.spec_NextCode G.spec_NextCode
def spec_MayFollow_P {ρ : Type} (f_spec_NextCode : THead → TSigned → Int) (g_spec_NextCode : THead → TSigned → Bool) (k : Bool → Option ρ) (a0 : THead) (a1 : TSigned) : Option ρ := (cond (g_spec_NextCode a0 a1) (k ((f_spec_NextCode a0 a1) == (1 : Int))) none)
theorem ok_spec_MayFollow : OracOk Try.prog sigs O_spec_MayFollow := (orcX_ok rfl (fun d g => said_spec_NextCode d.1 d.2.1 g) nilO_ok)
def A_spec_MayFollow : Ann := fun b => ⟨[], []⟩
theorem aP_spec_MayFollow (f_spec_NextCode : THead → TSigned → Int) (g_spec_NextCode : THead → TSigned → Bool) (n : Nat) (a0 : THead) (a1 : TSigned) : absF tab sigs (OP_spec_MayFollow f_spec_NextCode g_spec_NextCode) A_spec_MayFollow Try.f16 [(.bool, .no)] n [.val (.pair (.int .i64) (.pair (.int .i64) (.pair (.int .i64) (.pair (.int .i64) (.pair (.int .i64) (.pair (.int .i64) (.pair (.int .i64) (.pair (.int .i64) (.pair (.pair (.slice 3 (.int .i64)) (.int .i64)) (.pair (.pair (.slice 3 (.int .i64)) (.int .i64)) (.pair (.int .i64) (.pair (.pair (.slice 3 (.int .i64)) (.int .i64)) .bool)))))))))))) a0, .val (.pair (.pair (.int .i64) (.pair (.int .i64) (.pair (.int .i64) (.pair (.int .i64) (.pair (.int .i64) (.pair (.int .i64) (.pair (.int .i64) (.pair (.int .i64) (.pair (.pair (.slice 3 (.int .i64)) (.int .i64)) (.pair (.pair (.slice 3 (.int .i64)) (.int .i64)) (.pair (.int .i64) (.pair (.pair (.slice 3 (.int .i64)) (.int .i64)) .bool)))))))))))) (.slice 100 (.pair (.int .i64) (.int .i64)))) a1] = spec_MayFollow_P f_spec_NextCode g_spec_NextCode (fun r0 => some [⟨.bool, r0⟩])  a0 a1 := by kernel_rfl
theorem a_spec_MayFollow (n : Nat) (a0 : THead) (a1 : TSigned) : absF tab sigs O_spec_MayFollow A_spec_MayFollow Try.f16 [(.bool, .no)] n [.val (.pair (.int .i64) (.pair (.int .i64) (.pair (.int .i64) (.pair (.int .i64) (.pair (.int .i64) (.pair (.int .i64) (.pair (.int .i64) (.pair (.int .i64) (.pair (.pair (.slice 3 (.int .i64)) (.int .i64)) (.pair (.pair (.slice 3 (.int .i64)) (.int .i64)) (.pair (.int .i64) (.pair (.pair (.slice 3 (.int .i64)) (.int .i64)) .bool)))))))))))) a0, .val (.pair (.pair (.int .i64) (.pair (.int .i64) (.pair (.int .i64) (.pair (.int .i64) (.pair (.int .i64) (.pair (.int .i64) (.pair (.int .i64) (.pair (.int .i64) (.pair (.pair (.slice 3 (.int .i64)) (.int .i64)) (.pair (.pair (.slice 3 (.int .i64)) (.int .i64)) (.pair (.int .i64) (.pair (.pair (.slice 3 (.int .i64)) (.int .i64)) .bool)))))))))))) (.slice 100 (.pair (.int .i64) (.int .i64)))) a1] = spec_MayFollow (fun r0 => some [⟨.bool, r0⟩])  a0 a1 := aP_spec_MayFollow N.spec_NextCode G.spec_NextCode n a0 a1
theorem said_spec_MayFollow (a0 : THead) (a1 : TSigned) (g : G.spec_MayFollow a0 a1 = true) : Said Try.prog sigs_16 16 [.val (.pair (.int .i64) (.pair (.int .i64) (.pair (.int .i64) (.pair (.int .i64) (.pair (.int .i64) (.pair (.int .i64) (.pair (.int .i64) (.pair (.int .i64) (.pair (.pair (.slice 3 (.int .i64)) (.int .i64)) (.pair (.pair (.slice 3 (.int .i64)) (.int .i64)) (.pair (.int .i64) (.pair (.pair (.slice 3 (.int .i64)) (.int .i64)) .bool)))))))))))) a0, .val (.pair (.pair (.int .i64) (.pair (.int .i64) (.pair (.int .i64) (.pair (.int .i64) (.pair (.int .i64) (.pair (.int .i64) (.pair (.int .i64) (.pair (.int .i64) (.pair (.pair (.slice 3 (.int .i64)) (.int .i64)) (.pair (.pair (.slice 3 (.int .i64)) (.int .i64)) (.pair (.int .i64) (.pair (.pair (.slice 3 (.int .i64)) (.int .i64)) .bool)))))))))))) (.slice 100 (.pair (.int .i64) (.int .i64)))) a1] [⟨.bool, N.spec_MayFollow a0 a1⟩] := said_len (T := tab) (A := A_spec_MayFollow) tabOk ok_spec_MayFollow tabOk.follows Try.func16 (by kernel_rfl) (by kernel_rfl) (fun hl => ⟨0, (a_spec_MayFollow 0 a0 a1).trans (spec_MayFollow_ok (ρ := Ret) (fun r0 => some [⟨.bool, r0⟩]) a0 a1 hl.1 hl.2.1 g)⟩)
/-! spec.FirstWrong -/
abbrev G.spec_FirstWrong (l : List TSigned) : Bool := decide (wSds l ≤ 1048576)
abbrev N.spec_FirstWrong (l : List TSigned) : Int := wrongFrom l ((0, (0, (0, (0, (0, (0, (0, (0, (([], 0), (([], 0), (0, (([], 0), false)))))))))))), []) l.length 0
def spec_FirstWrong_L0 {ρ : Type} (k : Int → Option ρ) (L0 : (List TSigned) → Int → Option ρ) (v0_0 : (List TSigned)) (v0_1 : Int) : Option ρ := (cond (decide (v0_1 < (List.length v0_0 : Int))) (cond (v0_1 == (0 : Int)) (cond (inRange (0 : Int) (List.length v0_0)) (cond (G.spec_IsFirst (List.getD v0_0 0 (((0 : Int), ((0 : Int), ((0 : Int), ((0 : Int), ((0 : Int), ((0 : Int), ((0 : Int), ((0 : Int), (([], (0 : Int)), (([], (0 : Int)), ((0 : Int), (([], (0 : Int)), false)))))))))))), []))) (cond (!(N.spec_IsFirst (List.getD v0_0 0 (((0 : Int), ((0 : Int), ((0 : Int), ((0 : Int), ((0 : Int), ((0 : Int), ((0 : Int), ((0 : Int), (([], (0 : Int)), (([], (0 : Int)), ((0 : Int), (([], (0 : Int)), false)))))))))))), [])))) (k v0_1) (cond (decide (v0_1 > (0 : Int))) (cond (inRange (IntKind.wrap .i64 (v0_1 - (1 : Int))) (List.length v0_0)) (cond (inRange v0_1 (List.length v0_0)) (cond (G.spec_MayFollow (List.getD v0_0 (Int.toNat (IntKind.wrap .i64 (v0_1 - (1 : Int)))) (((0 : Int), ((0 : Int), ((0 : Int), ((0 : Int), ((0 : Int), ((0 : Int), ((0 : Int), ((0 : Int), (([], (0 : Int)), (([], (0 : Int)), ((0 : Int), (([], (0 : Int)), false)))))))))))), [])).1 (List.getD v0_0 (Int.toNat v0_1) (((0 : Int), ((0 : Int), ((0 : Int), ((0 : Int), ((0 : Int), ((0 : Int), ((0 : Int), ((0 : Int), (([], (0 : Int)), (([], (0 : Int)), ((0 : Int), (([], (0 : Int)), false)))))))))))), []))) (cond (!(N.spec_MayFollow (List.getD v0_0 (Int.toNat (IntKind.wrap .i64 (v0_1 - (1 : Int)))) (((0 : Int), ((0 : Int), ((0 : Int), ((0 : Int), ((0 : Int), ((0 : Int), ((0 : Int), ((0 : Int), (([], (0 : Int)), (([], (0 : Int)), ((0 : Int), (([], (0 : Int)), false)))))))))))), [])).1 (List.getD v0_0 (Int.toNat v0_1) (((0 : Int), ((0 : Int), ((0 : Int), ((0 : Int), ((0 : Int), ((0 : Int), ((0 : Int), ((0 : Int), (([], (0 : Int)), (([], (0 : Int)), ((0 : Int), (([], (0 : Int)), false)))))))))))), [])))) (k v0_1) (L0 v0_0 (IntKind.wrap .i64 (v0_1 + (1 : Int))))) none) none) none) (L0 v0_0 (IntKind.wrap .i64 (v0_1 + (1 : Int)))))) none) none) (cond (decide (v0_1 > (0 : Int))) (cond (inRange (IntKind.wrap .i64 (v0_1 - (1 : Int))) (List.length v0_0)) (cond (inRange v0_1 (List.length v0_0)) (cond (G.spec_MayFollow (List.getD v0_0 (Int.toNat (IntKind.wrap .i64 (v0_1 - (1 : Int)))) (((0 : Int), ((0 : Int), ((0 : Int), ((0 : Int), ((0 : Int), ((0 : Int), ((0 : Int), ((0 : Int), (([], (0 : Int)), (([], (0 : Int)), ((0 : Int), (([], (0 : Int)), false)))))))))))), [])).1 (List.getD v0_0 (Int.toNat v0_1) (((0 : Int), ((0 : Int), ((0 : Int), ((0 : Int), ((0 : Int), ((0 : Int), ((0 : Int), ((0 : Int), (([], (0 : Int)), (([], (0 : Int)), ((0 : Int), (([], (0 : Int)), false)))))))))))), []))) (cond (!(N.spec_MayFollow (List.getD v0_0 (Int.toNat (IntKind.wrap .i64 (v0_1 - (1 : Int)))) (((0 : Int), ((0 : Int), ((0 : Int), ((0 : Int), ((0 : Int), ((0 : Int), ((0 : Int), ((0 : Int), (([], (0 : Int)), (([], (0 : Int)), ((0 : Int), (([], (0 : Int)), false)))))))))))), [])).1 (List.getD v0_0 (Int.toNat v0_1) (((0 : Int), ((0 : Int), ((0 : Int), ((0 : Int), ((0 : Int), ((0 : Int), ((0 : Int), ((0 : Int), (([], (0 : Int)), (([], (0 : Int)), ((0 : Int), (([], (0 : Int)), false)))))))))))), [])))) (k v0_1) (L0 v0_0 (IntKind.wrap .i64 (v0_1 + (1 : Int))))) none) none) none) (L0 v0_0 (IntKind.wrap .i64 (v0_1 + (1 : Int)))))) (k (-1 : Int)))
def spec_FirstWrong {ρ : Type} (k : Int → Option ρ) (L0 : (List TSigned) → Int → Option ρ) (a0 : (List TSigned)) : Option ρ := (L0 a0 (0 : Int))
theorem spec_FirstWrong_ok {ρ : Type} (k : Int → Option ρ) (a0 : (List TSigned)) (l_a0 : lnL (fun y => ((True ∧ (True ∧ (True ∧ (True ∧ (True ∧ (True ∧ (True ∧ (True ∧ ((lnL (fun _ => True) y.1.2.2.2.2.2.2.2.2.1.1 ∧ True) ∧ ((lnL (fun _ => True) y.1.2.2.2.2.2.2.2.2.2.1.1 ∧ True) ∧ (True ∧ ((lnL (fun _ => True) y.1.2.2.2.2.2.2.2.2.2.2.2.1.1 ∧ True) ∧ True)))))))))))) ∧ lnL (fun y => (True ∧ True)) y.2)) a0) (g : G.spec_FirstWrong a0 = true) : ∃ n0, ∀ n, n0 ≤ n → ∀ (L0 : Nat → (List TSigned) → Int → Option ρ) (h0 : ∀ ( m : Nat) (v0_0 : (List TSigned)) (v0_1 : Int), L0 (m + 1) v0_0 v0_1 = spec_FirstWrong_L0 k (L0 m) v0_0 v0_1), spec_FirstWrong k (L0 n) a0 = k (N.spec_FirstWrong a0) := by
  unfold G.spec_FirstWrong at g
  have w1 : wSds a0 ≤ 1048576 := of_decide_eq_true g
  have l1 : a0.length ≤ 1048576 := by unfold wSds at w1; omega
  refine ⟨a0.length + 1, fun n hn L0 h0 => ?_⟩
  have key := raw_run0 (σ := Unit) (s := ()) (L := fun m i _ => L0 m a0 i) (R := fun i _ c => spec_FirstWrong_L0 k (fun _ i => c i ()) a0 i) (fun m i _ => h0 m a0 i) a0.length (fun _ _ => True) (fun j _ => k (wrongFrom a0 ((0, (0, (0, (0, (0, (0, (0, (0, (([], 0), (([], 0), (0, (([], 0), false)))))))))))), []) (a0.length - j) j)) (fun j s c hj _ hc => ?_) (fun s c _ => ?_) hn trivial
  · exact key
  · have hw : j < big := by unfold big; omega
    have m1 := wSds_mem (getD_mem (d := ((0, (0, (0, (0, (0, (0, (0, (0, (([], 0), (([], 0), (0, (([], 0), false)))))))))))), [])) hj)
    have e : a0.length - j = (a0.length - (j + 1)) + 1 := by omega
    have g1 : decide (wSd (a0.getD j ((0, (0, (0, (0, (0, (0, (0, (0, (([], 0), (([], 0), (0, (([], 0), false)))))))))))), [])) ≤ 1048576) = true := decide_eq_true (by omega)
    have h1 : decide ((j : Int) < (a0.length : Int)) = true := decide_eq_true (by omega)
    have h3 : inRange (j : Int) a0.length = true := by rw [inRange_nat]; exact decide_eq_true hj
    have hn1 := hc () trivial
    rw [e]
    cases j with
    | zero =>
      have h2 : (((0 : Nat) : Int) == (0 : Int)) = true := rfl
      have h4 : decide (((0 : Nat) : Int) > 0) = false := rfl
      have h5 : inRange (0 : Int) a0.length = true := h3
      have h6 : Int.toNat ((0 : Nat) : Int) = 0 := rfl
      simp only [spec_FirstWrong_L0, h1, h2, h3, h4, h5, h6, G.spec_IsFirst, N.spec_IsFirst, g1, wrap_succ hw, cond_true, cond_false]
      rw [hn1]
      exact k_cond2 k _ _ _
    | succ i =>
      have h2 : (((i + 1 : Nat) : Int) == (0 : Int)) = false := beq_eq_false_iff_ne.mpr (by omega)
      have h4 : decide (((i + 1 : Nat) : Int) > 0) = true := decide_eq_true (by omega)
      have e1 : IntKind.wrap .i64 (((i + 1 : Nat) : Int) - 1) = (i : Int) := by rw [wrap_id (by omega) (by omega)]; omega
      have hi : i < a0.length := by omega
      have h5 : inRange (i : Int) a0.length = true := by rw [inRange_nat]; exact decide_eq_true hi
      have m2 := wSds_mem (getD_mem (d := ((0, (0, (0, (0, (0, (0, (0, (0, (([], 0), (([], 0), (0, (([], 0), false)))))))))))), [])) hi)
      unfold wSd at m2
      have g2 : decide (wH (a0.getD i ((0, (0, (0, (0, (0, (0, (0, (0, (([], 0), (([], 0), (0, (([], 0), false)))))))))))), [])).1 ≤ 1048576) = true := decide_eq_true (by omega)
      simp only [spec_FirstWrong_L0, h1, h2, h3, h4, e1, h5, Int.toNat_natCast, G.spec_MayFollow, N.spec_MayFollow, g1, g2, wrap_succ hw, Bool.and_self, cond_true, cond_false]
      rw [hn1]
      exact k_cond2 k _ _ _
  · simp only [spec_FirstWrong_L0, lt_nat, Nat.lt_irrefl, decide_false, cond_false, Nat.sub_self]
    rfl
def OP_spec_FirstWrong (f_spec_IsFirst : TSigned → Bool) (g_spec_IsFirst : TSigned → Bool) (f_spec_MayFollow : THead → TSigned → Bool) (g_spec_MayFollow : THead → TSigned → Bool) : Orac := (orcX 16 [.val (.pair (.int .i64) (.pair (.int .i64) (.pair (.int .i64) (.pair (.int .i64) (.pair (.int .i64) (.pair (.int .i64) (.pair (.int .i64) (.pair (.int .i64) (.pair (.pair (.slice 3 (.int .i64)) (.int .i64)) (.pair (.pair (.slice 3 (.int .i64)) (.int .i64)) (.pair (.int .i64) (.pair (.pair (.slice 3 (.int .i64)) (.int .i64)) .bool)))))))))))), .val (.pair (.pair (.int .i64) (.pair (.int .i64) (.pair (.int .i64) (.pair (.int .i64) (.pair (.int .i64) (.pair (.int .i64) (.pair (.int .i64) (.pair (.int .i64) (.pair (.pair (.slice 3 (.int .i64)) (.int .i64)) (.pair (.pair (.slice 3 (.int .i64)) (.int .i64)) (.pair (.int .i64) (.pair (.pair (.slice 3 (.int .i64)) (.int .i64)) .bool)))))))))))) (.slice 100 (.pair (.int .i64) (.int .i64))))] (fun d => g_spec_MayFollow d.1 d.2.1) (fun d => [⟨.bool, f_spec_MayFollow d.1 d.2.1⟩]) (orcX 60 [.val (.pair (.pair (.int .i64) (.pair (.int .i64) (.pair (.int .i64) (.pair (.int .i64) (.pair (.int .i64) (.pair (.int .i64) (.pair (.int .i64) (.pair (.int .i64) (.pair (.pair (.slice 3 (.int .i64)) (.int .i64)) (.pair (.pair (.slice 3 (.int .i64)) (.int .i64)) (.pair (.int .i64) (.pair (.pair (.slice 3 (.int .i64)) (.int .i64)) .bool)))))))))))) (.slice 100 (.pair (.int .i64) (.int .i64))))] (fun d => g_spec_IsFirst d.1) (fun d => [⟨.bool, f_spec_IsFirst d.1⟩]) nilO))
def O_spec_FirstWrong : Orac := OP_spec_FirstWrong N.spec_IsFirst G.spec_IsFirst N.spec_MayFollow G.spec_MayFollow
def spec_FirstWrong_P_L0 {ρ : Type} (f_spec_IsFirst : TSigned → Bool) (g_spec_IsFirst : TSigned → Bool) (f_spec_MayFollow : THead → TSigned → Bool) (g_spec_MayFollow : THead → TSigned → Bool) (k : Int → Option ρ) (L0 : (List TSigned) → Int → Option ρ) (v0_0 : (List TSigned)) (v0_1 : Int) : Option ρ := (cond (decide (v0_1 < (List.length v0_0 : Int))) (cond (v0_1 == (0 : Int)) (cond (inRange (0 : Int) (List.length v0_0)) (cond (g_spec_IsFirst (List.getD v0_0 0 (((0 : Int), ((0 : Int), ((0 : Int), ((0 : Int), ((0 : Int), ((0 : Int), ((0 : Int), ((0 : Int), (([], (0 : Int)), (([], (0 : Int)), ((0 : Int), (([], (0 : Int)), false)))))))))))), []))) (cond (!(f_spec_IsFirst (List.getD v0_0 0 (((0 : Int), ((0 : Int), ((0 : Int), ((0 : Int), ((0 : Int), ((0 : Int), ((0 : Int), ((0 : Int), (([], (0 : Int)), (([], (0 : Int)), ((0 : Int), (([], (0 : Int)), false)))))))))))), [])))) (k v0_1) (cond (decide (v0_1 > (0 : Int))) (cond (inRange (IntKind.wrap .i64 (v0_1 - (1 : Int))) (List.length v0_0)) (cond (inRange v0_1 (List.length v0_0)) (cond (g_spec_MayFollow (List.getD v0_0 (Int.toNat (IntKind.wrap .i64 (v0_1 - (1 : Int)))) (((0 : Int), ((0 : Int), ((0 : Int), ((0 : Int), ((0 : Int), ((0 : Int), ((0 : Int), ((0 : Int), (([], (0 : Int)), (([], (0 : Int)), ((0 : Int), (([], (0 : Int)), false)))))))))))), [])).1 (List.getD v0_0 (Int.toNat v0_1) (((0 : Int), ((0 : Int), ((0 : Int), ((0 : Int), ((0 : Int), ((0 : Int), ((0 : Int), ((0 : Int), (([], (0 : Int)), (([], (0 : Int)), ((0 : Int), (([], (0 : Int)), false)))))))))))), []))) (cond (!(f_spec_MayFollow (List.getD v0_0 (Int.toNat (IntKind.wrap .i64 (v0_1 - (1 : Int)))) (((0 : Int), ((0 : Int), ((0 : Int), ((0 : Int), ((0 : Int), ((0 : Int), ((0 : Int), ((0 : Int), (([], (0 : Int)), (([], (0 : Int)), ((0 : Int), (([], (0 : Int)), false)))))))))))), [])).1 (List.getD v0_0 (Int.toNat v0_1) (((0 : Int), ((0 : Int), ((0 : Int), ((0 : Int), ((0 : Int), ((0 : Int), ((0 : Int), ((0 : Int), (([], (0 : Int)), (([], (0 : Int)), ((0 : Int), (([], (0 : Int)), false)))))))))))), [])))) (k v0_1) (L0 v0_0 (IntKind.wrap .i64 (v0_1 + (1 : Int))))) none) none) none) (L0 v0_0 (IntKind.wrap .i64 (v0_1 + (1 : Int)))))) none) none) (cond (decide (v0_1 > (0 : Int))) (cond (inRange (IntKind.wrap .i64 (v0_1 - (1 : Int))) (List.length v0_0)) (cond (inRange v0_1 (List.length v0_0)) (cond (g_spec_MayFollow (List.getD v0_0 (Int.toNat (IntKind.wrap .i64 (v0_1 - (1 : Int)))) (((0 : Int), ((0 : Int), ((0 : Int), ((0 : Int), ((0 : Int), ((0 : Int), ((0 : Int), ((0 : Int), (([], (0 : Int)), (([], (0 : Int)), ((0 : Int), (([], (0 : Int)), false)))))))))))), [])).1 (List.getD v0_0 (Int.toNat v0_1) (((0 : Int), ((0 : Int), ((0 : Int), ((0 : Int), ((0 : Int), ((0 : Int), ((0 : Int), ((0 : Int), (([], (0 : Int)), (([], (0 : Int)), ((0 : Int), (([], (0 : Int)), false)))))))))))), []))) (cond (!(f_spec_MayFollow (List.getD v0_0 (Int.toNat (IntKind.wrap .i64 (v0_1 - (1 : Int)))) (((0 : Int), ((0 : Int), ((0 : Int), ((0 : Int), ((0 : Int), ((0 : Int), ((0 : Int), ((0 : Int), (([], (0 : Int)), (([], (0 : Int)), ((0 : Int), (([], (0 : Int)), false)))))))))))), [])).1 (List.getD v0_0 (Int.toNat v0_1) (((0 : Int), ((0 : Int), ((0 : Int), ((0 : Int), ((0 : Int), ((0 : Int), ((0 : Int), ((0 : Int), (([], (0 : Int)), (([], (0 : Int)), ((0 : Int), (([], (0 : Int)), false)))))))))))), [])))) (k v0_1) (L0 v0_0 (IntKind.wrap .i64 (v0_1 + (1 : Int))))) none) none) none) (L0 v0_0 (IntKind.wrap .i64 (v0_1 + (1 : Int)))))) (k (-1 : Int)))
def spec_FirstWrong_P {ρ : Type} (f_spec_IsFirst : TSigned → Bool) (g_spec_IsFirst : TSigned → Bool) (f_spec_MayFollow : THead → TSigned → Bool) (g_spec_MayFollow : THead → TSigned → Bool) (k : Int → Option ρ) (L0 : (List TSigned) → Int → Option ρ) (a0 : (List TSigned)) : Option ρ := (L0 a0 (0 : Int))
theorem ok_spec_FirstWrong : OracOk Try.prog sigs O_spec_FirstWrong := (orcX_ok rfl (fun d g => said_spec_MayFollow d.1 d.2.1 g) (orcX_ok rfl (fun d g => said_spec_IsFirst d.1 g) nilO_ok))
def A_spec_FirstWrong : Ann := fun b => cond (Nat.beq b 0) ⟨[(0, false), (3, false)], []⟩ (⟨[], []⟩)
def S_spec_FirstWrong_0 (v0_0 : (List TSigned)) (v0_1 : Int) : St := [(kT 0, some (.tv (.v (.slice 39 (.pair (.pair (.int .i64) (.pair (.int .i64) (.pair (.int .i64) (.pair (.int .i64) (.pair (.int .i64) (.pair (.int .i64) (.pair (.int .i64) (.pair (.int .i64) (.pair (.pair (.slice 3 (.int .i64)) (.int .i64)) (.pair (.pair (.slice 3 (.int .i64)) (.int .i64)) (.pair (.int .i64) (.pair (.pair (.slice 3 (.int .i64)) (.int .i64)) .bool)))))))))))) (.slice 100 (.pair (.int .i64) (.int .i64))))) v0_0 .no))), (kT 3, some (.tv (.v (.int .i64) v0_1 .no)))]
noncomputable def L_P_spec_FirstWrong_0 (f_spec_IsFirst : TSigned → Bool) (g_spec_IsFirst : TSigned → Bool) (f_spec_MayFollow : THead → TSigned → Bool) (g_spec_MayFollow : THead → TSigned → Bool) (n m : Nat) : St → Option Ret := loopOf tab sigs (OP_spec_FirstWrong f_spec_IsFirst g_spec_IsFirst f_spec_MayFollow g_spec_MayFollow) A_spec_FirstWrong Try.f26 [((.int .i64), .no)] n (fun _ => 0) 0 m
noncomputable def L_spec_FirstWrong_0 (n m : Nat) : St → Option Ret := L_P_spec_FirstWrong_0 N.spec_IsFirst G.spec_IsFirst N.spec_MayFollow G.spec_MayFollow n m
theorem bP_spec_FirstWrong_0 (f_spec_IsFirst : TSigned → Bool) (g_spec_IsFirst : TSigned → Bool) (f_spec_MayFollow : THead → TSigned → Bool) (g_spec_MayFollow : THead → TSigned → Bool) (n m : Nat) (v0_0 : (List TSigned)) (v0_1 : Int) : L_P_spec_FirstWrong_0 f_spec_IsFirst g_spec_IsFirst f_spec_MayFollow g_spec_MayFollow n (m + 1) (S_spec_FirstWrong_0 v0_0 v0_1) = spec_FirstWrong_P_L0 f_spec_IsFirst g_spec_IsFirst f_spec_MayFollow g_spec_MayFollow (fun r0 => some [⟨(.int .i64), r0⟩]) (fun v0_0 v0_1 => L_P_spec_FirstWrong_0 f_spec_IsFirst g_spec_IsFirst f_spec_MayFollow g_spec_MayFollow n m (S_spec_FirstWrong_0 v0_0 v0_1)) v0_0 v0_1 := by kernel_rfl
theorem b_spec_FirstWrong_0 (n m : Nat) (v0_0 : (List TSigned)) (v0_1 : Int) : L_spec_FirstWrong_0 n (m + 1) (S_spec_FirstWrong_0 v0_0 v0_1) = spec_FirstWrong_L0 (fun r0 => some [⟨(.int .i64), r0⟩]) (fun v0_0 v0_1 => L_spec_FirstWrong_0 n m (S_spec_FirstWrong_0 v0_0 v0_1)) v0_0 v0_1 := bP_spec_FirstWrong_0 N.spec_IsFirst G.spec_IsFirst N.spec_MayFollow G.spec_MayFollow n m v0_0 v0_1
theorem aP_spec_FirstWrong (f_spec_IsFirst : TSigned → Bool) (g_spec_IsFirst : TSigned → Bool) (f_spec_MayFollow : THead → TSigned → Bool) (g_spec_MayFollow : THead → TSigned → Bool) (n : Nat) (a0 : (List TSigned)) : absF tab sigs (OP_spec_FirstWrong f_spec_IsFirst g_spec_IsFirst f_spec_MayFollow g_spec_MayFollow) A_spec_FirstWrong Try.f26 [((.int .i64), .no)] n [.val (.slice 39 (.pair (.pair (.int .i64) (.pair (.int .i64) (.pair (.int .i64) (.pair (.int .i64) (.pair (.int .i64) (.pair (.int .i64) (.pair (.int .i64) (.pair (.int .i64) (.pair (.pair (.slice 3 (.int .i64)) (.int .i64)) (.pair (.pair (.slice 3 (.int .i64)) (.int .i64)) (.pair (.int .i64) (.pair (.pair (.slice 3 (.int .i64)) (.int .i64)) .bool)))))))))))) (.slice 100 (.pair (.int .i64) (.int .i64))))) a0] = spec_FirstWrong_P f_spec_IsFirst g_spec_IsFirst f_spec_MayFollow g_spec_MayFollow (fun r0 => some [⟨(.int .i64), r0⟩]) (fun v0_0 v0_1 => L_P_spec_FirstWrong_0 f_spec_IsFirst g_spec_IsFirst f_spec_MayFollow g_spec_MayFollow n n (S_spec_FirstWrong_0 v0_0 v0_1)) a0 := by kernel_rfl
theorem a_spec_FirstWrong (n : Nat) (a0 : (List TSigned)) : absF tab sigs O_spec_FirstWrong A_spec_FirstWrong Try.f26 [((.int .i64), .no)] n [.val (.slice 39 (.pair (.pair (.int .i64) (.pair (.int .i64) (.pair (.int .i64) (.pair (.int .i64) (.pair (.int .i64) (.pair (.int .i64) (.pair (.int .i64) (.pair (.int .i64) (.pair (.pair (.slice 3 (.int .i64)) (.int .i64)) (.pair (.pair (.slice 3 (.int .i64)) (.int .i64)) (.pair (.int .i64) (.pair (.pair (.slice 3 (.int .i64)) (.int .i64)) .bool)))))))))))) (.slice 100 (.pair (.int .i64) (.int .i64))))) a0] = spec_FirstWrong (fun r0 => some [⟨(.int .i64), r0⟩]) (fun v0_0 v0_1 => L_spec_FirstWrong_0 n n (S_spec_FirstWrong_0 v0_0 v0_1)) a0 := aP_spec_FirstWrong N.spec_IsFirst G.spec_IsFirst N.spec_MayFollow G.spec_MayFollow n a0
theorem said_spec_FirstWrong (a0 : (List TSigned)) (g : G.spec_FirstWrong a0 = true) : Said Try.prog sigs_26 26 [.val (.slice 39 (.pair (.pair (.int .i64) (.pair (.int .i64) (.pair (.int .i64) (.pair (.int .i64) (.pair (.int .i64) (.pair (.int .i64) (.pair (.int .i64) (.pair (.int .i64) (.pair (.pair (.slice 3 (.int .i64)) (.int .i64)) (.pair (.pair (.slice 3 (.int .i64)) (.int .i64)) (.pair (.int .i64) (.pair (.pair (.slice 3 (.int .i64)) (.int .i64)) .bool)))))))))))) (.slice 100 (.pair (.int .i64) (.int .i64))))) a0] [⟨(.int .i64), N.spec_FirstWrong a0⟩] := said_len (T := tab) (A := A_spec_FirstWrong) tabOk ok_spec_FirstWrong tabOk.follows Try.func26 (by kernel_rfl) (by kernel_rfl) (fun hl => let ⟨n, hn⟩ := spec_FirstWrong_ok (ρ := Ret) (fun r0 => some [⟨(.int .i64), r0⟩]) a0 hl.1 g; ⟨n, (a_spec_FirstWrong n a0).trans (hn n (Nat.le_refl n) (fun  m v0_0 v0_1 => L_spec_FirstWrong_0 n  m (S_spec_FirstWrong_0 v0_0 v0_1)) (fun  m v0_0 v0_1 => b_spec_FirstWrong_0 n  m v0_0 v0_1))⟩)
/-! impl.InRange -/
abbrev N.impl_InRange (n lo hi : Int) : Bool := inR n lo hi
def impl_InRange {ρ : Type} (k : Bool → Option ρ) (a0 : Int) (a1 : Int) (a2 : Int) : Option ρ := (cond (decide (a1 ≤ a0)) (k (decide (a0 ≤ a2))) (k false))
theorem impl_InRange_ok {ρ : Type} (k : Bool → Option ρ) (a0 : Int) (a1 : Int) (a2 : Int) : impl_InRange k  a0 a1 a2 = k (N.impl_InRange a0 a1 a2) := by
  simp only [impl_InRange, inR]
  cases decide (a1 ≤ a0) <;> rfl
def O_impl_InRange : Orac := nilO
theorem ok_impl_InRange : OracOk Try.prog sigs O_impl_InRange := nilO_ok
def A_impl_InRange : Ann := fun b => ⟨[], []⟩
theorem a_impl_InRange (n : Nat) (a0 : Int) (a1 : Int) (a2 : Int) : absF tab sigs O_impl_InRange A_impl_InRange Try.f86 [(.bool, .no)] n [.val (.int .i64) a0, .val (.int .i64) a1, .val (.int .i64) a2] = impl_InRange (fun r0 => some [⟨.bool, r0⟩])  a0 a1 a2 := by kernel_rfl
theorem said_impl_InRange (a0 : Int) (a1 : Int) (a2 : Int) : Said Try.prog sigs_86 86 [.val (.int .i64) a0, .val (.int .i64) a1, .val (.int .i64) a2] [⟨.bool, N.impl_InRange a0 a1 a2⟩] := said_len (T := tab) (A := A_impl_InRange) tabOk ok_impl_InRange tabOk.follows Try.func86 (by kernel_rfl) (by kernel_rfl) (fun hl => ⟨0, (a_impl_InRange 0 a0 a1 a2).trans (impl_InRange_ok (ρ := Ret) (fun r0 => some [⟨.bool, r0⟩]) a0 a1 a2)⟩)
/-! impl.isDigest -/
abbrev N.impl_isDigest (n : Int) : Bool := isDigest n
def impl_isDigest {ρ : Type} (k : Bool → Option ρ) (a0 : Int) : Option ρ := (k (N.impl_InRange a0 (0 : Int) (2147483646 : Int)))
theorem impl_isDigest_ok {ρ : Type} (k : Bool → Option ρ) (a0 : Int) : impl_isDigest k  a0 = k (N.impl_isDigest a0) := by
  rfl
def OP_impl_isDigest (f_impl_InRange : Int → Int → Int → Bool) : Orac := (orcX 86 [.val (.int .i64), .val (.int .i64), .val (.int .i64)] (fun d => true) (fun d => [⟨.bool, f_impl_InRange d.1 d.2.1 d.2.2.1⟩]) nilO)
def O_impl_isDigest : Orac := OP_impl_isDigest N.impl_InRange
def impl_isDigest_P {ρ : Type} (f_impl_InRange : Int → Int → Int → Bool) (k : Bool → Option ρ) (a0 : Int) : Option ρ := (k (f_impl_InRange a0 (0 : Int) (2147483646 : Int)))
theorem ok_impl_isDigest : OracOk Try.prog sigs O_impl_isDigest := (orcX_ok rfl (fun d g => said_impl_InRange d.1 d.2.1 d.2.2.1) nilO_ok)
def A_impl_isDigest : Ann := fun b => ⟨[], []⟩
theorem aP_impl_isDigest (f_impl_InRange : Int → Int → Int → Bool) (n : Nat) (a0 : Int) : absF tab sigs (OP_impl_isDigest f_impl_InRange) A_impl_isDigest Try.f85 [(.bool, .no)] n [.val (.int .i64) a0] = impl_isDigest_P f_impl_InRange (fun r0 => some [⟨.bool, r0⟩])  a0 := by kernel_rfl
theorem a_impl_isDigest (n : Nat) (a0 : Int) : absF tab sigs O_impl_isDigest A_impl_isDigest Try.f85 [(.bool, .no)] n [.val (.int .i64) a0] = impl_isDigest (fun r0 => some [⟨.bool, r0⟩])  a0 := aP_impl_isDigest N.impl_InRange n a0
theorem said_impl_isDigest (a0 : Int) : Said Try.prog sigs_85 85 [.val (.int .i64) a0] [⟨.bool, N.impl_isDigest a0⟩] := said_len (T := tab) (A := A_impl_isDigest) tabOk ok_impl_isDigest tabOk.follows Try.func85 (by kernel_rfl) (by kernel_rfl) (fun hl => ⟨0, (a_impl_isDigest 0 a0).trans (impl_isDigest_ok (ρ := Ret) (fun r0 => some [⟨.bool, r0⟩]) a0)⟩)
/-! impl.isSpan -/
abbrev N.impl_isSpan (h : THead) : Bool := isSpan h
def impl_isSpan {ρ : Type} (k : Bool → Option ρ) (a0 : THead) : Option ρ := (cond (decide (a0.2.2.2.1 ≥ (0 : Int))) (cond (decide (a0.2.2.2.1 ≤ a0.2.2.2.2.1)) (cond (decide (a0.2.2.2.2.1 ≤ (100000 : Int))) (k (decide ((IntKind.wrap .i64 (a0.2.2.2.2.1 - a0.2.2.2.1)) ≤ (200 : Int)))) (k false)) (k false)) (k false))
theorem impl_isSpan_ok {ρ : Type} (k : Bool → Option ρ) (a0 : THead) (l_a0 : (True ∧ (True ∧ (True ∧ (True ∧ (True ∧ (True ∧ (True ∧ (True ∧ ((lnL (fun _ => True) a0.2.2.2.2.2.2.2.2.1.1 ∧ True) ∧ ((lnL (fun _ => True) a0.2.2.2.2.2.2.2.2.2.1.1 ∧ True) ∧ (True ∧ ((lnL (fun _ => True) a0.2.2.2.2.2.2.2.2.2.2.2.1.1 ∧ True) ∧ True))))))))))))) : impl_isSpan k  a0 = k (N.impl_isSpan a0) := by
  simp only [impl_isSpan, isSpan, ge_iff_le]
  cases decide (0 ≤ a0.2.2.2.1)
  · rfl
  cases decide (a0.2.2.2.1 ≤ a0.2.2.2.2.1)
  · rfl
  cases decide (a0.2.2.2.2.1 ≤ 100000) <;> rfl
def O_impl_isSpan : Orac := nilO
theorem ok_impl_isSpan : OracOk Try.prog sigs O_impl_isSpan := nilO_ok
def A_impl_isSpan : Ann := fun b => ⟨[], []⟩
theorem a_impl_isSpan (n : Nat) (a0 : THead) : absF tab sigs O_impl_isSpan A_impl_isSpan Try.f87 [(.bool, .no)] n [.val (.pair (.int .i64) (.pair (.int .i64) (.pair (.int .i64) (.pair (.int .i64) (.pair (.int .i64) (.pair (.int .i64) (.pair (.int .i64) (.pair (.int .i64) (.pair (.pair (.slice 3 (.int .i64)) (.int .i64)) (.pair (.pair (.slice 3 (.int .i64)) (.int .i64)) (.pair (.int .i64) (.pair (.pair (.slice 3 (.int .i64)) (.int .i64)) .bool)))))))))))) a0] = impl_isSpan (fun r0 => some [⟨.bool, r0⟩])  a0 := by kernel_rfl
theorem said_impl_isSpan (a0 : THead) : Said Try.prog sigs_87 87 [.val (.pair (.int .i64) (.pair (.int .i64) (.pair (.int .i64) (.pair (.int .i64) (.pair (.int .i64) (.pair (.int .i64) (.pair (.int .i64) (.pair (.int .i64) (.pair (.pair (.slice 3 (.int .i64)) (.int .i64)) (.pair (.pair (.slice 3 (.int .i64)) (.int .i64)) (.pair (.int .i64) (.pair (.pair (.slice 3 (.int .i64)) (.int .i64)) .bool)))))))))))) a0] [⟨.bool, N.impl_isSpan a0⟩] := said_len (T := tab) (A := A_impl_isSpan) tabOk ok_impl_isSpan tabOk.follows Try.func87 (by kernel_rfl) (by kernel_rfl) (fun hl => ⟨0, (a_impl_isSpan 0 a0).trans (impl_isSpan_ok (ρ := Ret) (fun r0 => some [⟨.bool, r0⟩]) a0 hl.1)⟩)
/-! impl.ascending -/
abbrev N.impl_ascending (l : List Int) : Bool := asc l
def impl_ascending_L0 {ρ : Type} (k : Bool → Option ρ) (L0 : (List Int) → Int → Int → Option ρ) (v0_0 : (List Int)) (v0_1 : Int) (v0_2 : Int) : Option ρ := (cond (decide (v0_2 < v0_1)) (cond (decide (v0_2 > (0 : Int))) (cond (inRange v0_2 (List.length v0_0)) (cond (inRange (IntKind.wrap .i64 (v0_2 - (1 : Int))) (List.length v0_0)) (cond (decide ((List.getD v0_0 (Int.toNat v0_2) (0 : Int)) ≤ (List.getD v0_0 (Int.toNat (IntKind.wrap .i64 (v0_2 - (1 : Int)))) (0 : Int)))) (k false) (L0 v0_0 v0_1 (IntKind.wrap .i64 (v0_2 + (1 : Int))))) none) none) (L0 v0_0 v0_1 (IntKind.wrap .i64 (v0_2 + (1 : Int))))) (k true))
def impl_ascending {ρ : Type} (k : Bool → Option ρ) (L0 : (List Int) → Int → Int → Option ρ) (a0 : (List Int)) : Option ρ := (L0 a0 (List.length a0 : Int) (0 : Int))
theorem impl_ascending_ok {ρ : Type} (k : Bool → Option ρ) (a0 : (List Int)) (l_a0 : lnL (fun _ => True) a0) : ∃ n0, ∀ n, n0 ≤ n → ∀ (L0 : Nat → (List Int) → Int → Int → Option ρ) (h0 : ∀ ( m : Nat) (v0_0 : (List Int)) (v0_1 : Int) (v0_2 : Int), L0 (m + 1) v0_0 v0_1 v0_2 = impl_ascending_L0 k (L0 m) v0_0 v0_1 v0_2), impl_ascending k (L0 n) a0 = k (N.impl_ascending a0) := by
  refine ⟨a0.length + 1, fun n hn L0 h0 => ?_⟩
  have hb : a0.length ≤ 9223372036854775807 := l_a0.1
  have hrun := raw_run0 (σ := Unit) (s := ()) (L := fun m i _ => L0 m a0 (a0.length : Int) i) (R := fun i _ c => impl_ascending_L0 k (fun _ _ i => c i ()) a0 (a0.length : Int) i) (fun m i s => h0 m a0 (a0.length : Int) i) a0.length (fun _ _ => True) (fun j _ => k (ascFrom a0 (a0.length - j) j)) (fun j s c hj _ hc => ?_) (fun s c _ => ?_) hn trivial
  · refine hrun.trans ?_
    rw [Nat.sub_zero]
    rfl
  · obtain ⟨m, hm⟩ : ∃ m, a0.length - j = m + 1 := ⟨a0.length - j - 1, by omega⟩
    have hm2 : a0.length - (j + 1) = m := by omega
    have hc' := hc () trivial
    rw [hm2] at hc'
    rw [hm]
    unfold ascFrom
    by_cases h0j : j = 0
    · subst h0j
      simp only [impl_ascending_L0, lt_nat, inRange_nat, decide_eq_true hj, cond_true, wrap_succ (j := 0) (by unfold big; omega), hc']
      simp
    · have e1 : decide ((j : Int) > 0) = true := by simp; omega
      have e2 : IntKind.wrap .i64 ((j : Int) - 1) = ((j - 1 : Nat) : Int) := by rw [wrap_id (by omega) (by omega)]; omega
      have e3 : j - 1 < a0.length := by omega
      have e4 : decide (a0.getD j 0 ≤ a0.getD (j - 1) 0) = !decide (a0.getD (j - 1) 0 < a0.getD j 0) := by rw [← decide_not]; simp
      simp only [impl_ascending_L0, lt_nat, inRange_nat, decide_eq_true hj, cond_true, Int.toNat_natCast, e1, e2, e4, decide_eq_true e3, wrap_succ (j := j) (by unfold big; omega), hc', decide_eq_false h0j]
      cases decide (a0.getD (j - 1) 0 < a0.getD j 0) <;> simp
  · rw [Nat.sub_self]
    simp [impl_ascending_L0, ascFrom]
def O_impl_ascending : Orac := nilO
theorem ok_impl_ascending : OracOk Try.prog sigs O_impl_ascending := nilO_ok
def A_impl_ascending : Ann := fun b => cond (Nat.beq b 0) ⟨[(0, false), (5, false), (6, false)], []⟩ (⟨[], []⟩)
def S_impl_ascending_0 (v0_0 : (List Int)) (v0_1 : Int) (v0_2 : Int) : St := [(kT 0, some (.tv (.v (.slice 3 (.int .i64)) v0_0 .no))), (kT 5, some (.tv (.v (.int .i64) v0_1 .no))), (kT 6, some (.tv (.v (.int .i64) v0_2 .no)))]
noncomputable def L_impl_ascending_0 (n m : Nat) : St → Option Ret := loopOf tab sigs O_impl_ascending A_impl_ascending Try.f116 [(.bool, .no)] n (fun _ => 0) 0 m
theorem b_impl_ascending_0 (n m : Nat) (v0_0 : (List Int)) (v0_1 : Int) (v0_2 : Int) : L_impl_ascending_0 n (m + 1) (S_impl_ascending_0 v0_0 v0_1 v0_2) = impl_ascending_L0 (fun r0 => some [⟨.bool, r0⟩]) (fun v0_0 v0_1 v0_2 => L_impl_ascending_0 n m (S_impl_ascending_0 v0_0 v0_1 v0_2)) v0_0 v0_1 v0_2 := by kernel_rfl
theorem a_impl_ascending (n : Nat) (a0 : (List Int)) : absF tab sigs O_impl_ascending A_impl_ascending Try.f116 [(.bool, .no)] n [.val (.slice 3 (.int .i64)) a0] = impl_ascending (fun r0 => some [⟨.bool, r0⟩]) (fun v0_0 v0_1 v0_2 => L_impl_ascending_0 n n (S_impl_ascending_0 v0_0 v0_1 v0_2)) a0 := by kernel_rfl
theorem said_impl_ascending (a0 : (List Int)) : Said Try.prog sigs_116 116 [.val (.slice 3 (.int .i64)) a0] [⟨.bool, N.impl_ascending a0⟩] := said_len (T := tab) (A := A_impl_ascending) tabOk ok_impl_ascending tabOk.follows Try.func116 (by kernel_rfl) (by kernel_rfl) (fun hl => let ⟨n, hn⟩ := impl_ascending_ok (ρ := Ret) (fun r0 => some [⟨.bool, r0⟩]) a0 hl.1; ⟨n, (a_impl_ascending n a0).trans (hn n (Nat.le_refl n) (fun  m v0_0 v0_1 v0_2 => L_impl_ascending_0 n  m (S_impl_ascending_0 v0_0 v0_1 v0_2)) (fun  m v0_0 v0_1 v0_2 => b_impl_ascending_0 n  m v0_0 v0_1 v0_2))⟩)
/-! impl.isKey -/
abbrev N.impl_isKey (n : Int) : Bool := isKey n
def impl_isKey {ρ : Type} (k : Bool → Option ρ) (a0 : Int) : Option ρ := (k (N.impl_InRange a0 (1 : Int) (99 : Int)))
theorem impl_isKey_ok {ρ : Type} (k : Bool → Option ρ) (a0 : Int) : impl_isKey k  a0 = k (N.impl_isKey a0) := by
  rfl
def OP_impl_isKey (f_impl_InRange : Int → Int → Int → Bool) : Orac := (orcX 86 [.val (.int .i64), .val (.int .i64), .val (.int .i64)] (fun d => true) (fun d => [⟨.bool, f_impl_InRange d.1 d.2.1 d.2.2.1⟩]) nilO)
def O_impl_isKey : Orac := OP_impl_isKey N.impl_InRange
def impl_isKey_P {ρ : Type} (f_impl_InRange : Int → Int → Int → Bool) (k : Bool → Option ρ) (a0 : Int) : Option ρ := (k (f_impl_InRange a0 (1 : Int) (99 : Int)))
theorem ok_impl_isKey : OracOk Try.prog sigs O_impl_isKey := (orcX_ok rfl (fun d g => said_impl_InRange d.1 d.2.1 d.2.2.1) nilO_ok)
def A_impl_isKey : Ann := fun b => ⟨[], []⟩
theorem aP_impl_isKey (f_impl_InRange : Int → Int → Int → Bool) (n : Nat) (a0 : Int) : absF tab sigs (OP_impl_isKey f_impl_InRange) A_impl_isKey Try.f117 [(.bool, .no)] n [.val (.int .i64) a0] = impl_isKey_P f_impl_InRange (fun r0 => some [⟨.bool, r0⟩])  a0 := by kernel_rfl
theorem a_impl_isKey (n : Nat) (a0 : Int) : absF tab sigs O_impl_isKey A_impl_isKey Try.f117 [(.bool, .no)] n [.val (.int .i64) a0] = impl_isKey (fun r0 => some [⟨.bool, r0⟩])  a0 := aP_impl_isKey N.impl_InRange n a0
theorem said_impl_isKey (a0 : Int) : Said Try.prog sigs_117 117 [.val (.int .i64) a0] [⟨.bool, N.impl_isKey a0⟩] := said_len (T := tab) (A := A_impl_isKey) tabOk ok_impl_isKey tabOk.follows Try.func117 (by kernel_rfl) (by kernel_rfl) (fun hl => ⟨0, (a_impl_isKey 0 a0).trans (impl_isKey_ok (ρ := Ret) (fun r0 => some [⟨.bool, r0⟩]) a0)⟩)
/-! impl.IsKeys -/
abbrev N.impl_IsKeys (k : TKeys) : Bool := isKeys k
def impl_IsKeys {ρ : Type} (k : Bool → Option ρ) (a0 : TKeys) : Option ρ := (cond (N.impl_InRange (List.length a0.1 : Int) (1 : Int) (4 : Int)) (cond (N.impl_ascending a0.1) (cond (inRange (0 : Int) (List.length a0.1)) (cond (N.impl_isKey (List.getD a0.1 0 (0 : Int))) (cond (inRange (IntKind.wrap .i64 ((List.length a0.1 : Int) - (1 : Int))) (List.length a0.1)) (cond (N.impl_isKey (List.getD a0.1 (Int.toNat (IntKind.wrap .i64 ((List.length a0.1 : Int) - (1 : Int)))) (0 : Int))) (k (N.impl_InRange a0.2 (1 : Int) (List.length a0.1 : Int))) (k false)) none) (k false)) none) (k false)) (k false))
theorem impl_IsKeys_ok {ρ : Type} (k : Bool → Option ρ) (a0 : TKeys) (l_a0 : (lnL (fun _ => True) a0.1 ∧ True)) : impl_IsKeys k  a0 = k (N.impl_IsKeys a0) := by
  have hb : a0.1.length ≤ 9223372036854775807 := l_a0.1.1
  simp only [impl_IsKeys, N.impl_InRange, N.impl_ascending, N.impl_isKey, N.impl_IsKeys, isKeys]
  cases hr : inR (a0.1.length : Int) 1 4 with
  | false => rfl
  | true =>
    have hr2 : 1 ≤ (a0.1.length : Int) ∧ (a0.1.length : Int) ≤ 4 := by simpa [inR] using hr
    have e0 : inRange 0 a0.1.length = true := by
      unfold inRange
      rw [decide_eq_true (p := (0 : Int) < (a0.1.length : Int)) (by omega)]
      rfl
    have e1 : IntKind.wrap .i64 ((a0.1.length : Int) - 1) = ((a0.1.length - 1 : Nat) : Int) := by rw [wrap_id (by omega) (by omega)]; omega
    have e2 : inRange ((a0.1.length - 1 : Nat) : Int) a0.1.length = true := by rw [inRange_nat]; simp; omega
    simp only [e0, e1, e2, cond_true, Int.toNat_natCast]
    cases asc a0.1 <;> cases isKey (a0.1.getD 0 0) <;> cases isKey (a0.1.getD (a0.1.length - 1) 0) <;> rfl
def OP_impl_IsKeys (f_impl_InRange : Int → Int → Int → Bool) (f_impl_ascending : (List Int) → Bool) (f_impl_isKey : Int → Bool) : Orac := (orcX 117 [.val (.int .i64)] (fun d => true) (fun d => [⟨.bool, f_impl_isKey d.1⟩]) (orcX 116 [.val (.slice 3 (.int .i64))] (fun d => true) (fun d => [⟨.bool, f_impl_ascending d.1⟩]) (orcX 86 [.val (.int .i64), .val (.int .i64), .val (.int .i64)] (fun d => true) (fun d => [⟨.bool, f_impl_InRange d.1 d.2.1 d.2.2.1⟩]) nilO)))
def O_impl_IsKeys : Orac := OP_impl_IsKeys N.impl_InRange N.impl_ascending N.impl_isKey
def impl_IsKeys_P {ρ : Type} (f_impl_InRange : Int → Int → Int → Bool) (f_impl_ascending : (List Int) → Bool) (f_impl_isKey : Int → Bool) (k : Bool → Option ρ) (a0 : TKeys) : Option ρ := (cond (f_impl_InRange (List.length a0.1 : Int) (1 : Int) (4 : Int)) (cond (f_impl_ascending a0.1) (cond (inRange (0 : Int) (List.length a0.1)) (cond (f_impl_isKey (List.getD a0.1 0 (0 : Int))) (cond (inRange (IntKind.wrap .i64 ((List.length a0.1 : Int) - (1 : Int))) (List.length a0.1)) (cond (f_impl_isKey (List.getD a0.1 (Int.toNat (IntKind.wrap .i64 ((List.length a0.1 : Int) - (1 : Int)))) (0 : Int))) (k (f_impl_InRange a0.2 (1 : Int) (List.length a0.1 : Int))) (k false)) none) (k false)) none) (k false)) (k false))
theorem ok_impl_IsKeys : OracOk Try.prog sigs O_impl_IsKeys := (orcX_ok rfl (fun d g => said_impl_isKey d.1) (orcX_ok rfl (fun d g => said_impl_ascending d.1) (orcX_ok rfl (fun d g => said_impl_InRange d.1 d.2.1 d.2.2.1) nilO_ok)))
def A_impl_IsKeys : Ann := fun b => ⟨[], []⟩
theorem aP_impl_IsKeys (f_impl_InRange : Int → Int → Int → Bool) (f_impl_ascending : (List Int) → Bool) (f_impl_isKey : Int → Bool) (n : Nat) (a0 : TKeys) : absF tab sigs (OP_impl_IsKeys f_impl_InRange f_impl_ascending f_impl_isKey) A_impl_IsKeys Try.f88 [(.bool, .no)] n [.val (.pair (.slice 3 (.int .i64)) (.int .i64)) a0] = impl_IsKeys_P f_impl_InRange f_impl_ascending f_impl_isKey (fun r0 => some [⟨.bool, r0⟩])  a0 := by kernel_rfl
theorem a_impl_IsKeys (n : Nat) (a0 : TKeys) : absF tab sigs O_impl_IsKeys A_impl_IsKeys Try.f88 [(.bool, .no)] n [.val (.pair (.slice 3 (.int .i64)) (.int .i64)) a0] = impl_IsKeys (fun r0 => some [⟨.bool, r0⟩])  a0 := aP_impl_IsKeys N.impl_InRange N.impl_ascending N.impl_isKey n a0
theorem said_impl_IsKeys (a0 : TKeys) : Said Try.prog sigs_88 88 [.val (.pair (.slice 3 (.int .i64)) (.int .i64)) a0] [⟨.bool, N.impl_IsKeys a0⟩] := said_len (T := tab) (A := A_impl_IsKeys) tabOk ok_impl_IsKeys tabOk.follows Try.func88 (by kernel_rfl) (by kernel_rfl) (fun hl => ⟨0, (a_impl_IsKeys 0 a0).trans (impl_IsKeys_ok (ρ := Ret) (fun r0 => some [⟨.bool, r0⟩]) a0 hl.1)⟩)
/-! impl.NoKeys -/
abbrev N.impl_NoKeys (k : TKeys) : Bool := noKeys k
def impl_NoKeys {ρ : Type} (k : Bool → Option ρ) (a0 : TKeys) : Option ρ := (cond (a0.2 == (0 : Int)) (k ((List.length a0.1 : Int) == (0 : Int))) (k false))
theorem impl_NoKeys_ok {ρ : Type} (k : Bool → Option ρ) (a0 : TKeys) (l_a0 : (lnL (fun _ => True) a0.1 ∧ True)) : impl_NoKeys k  a0 = k (N.impl_NoKeys a0) := by
  simp only [impl_NoKeys, N.impl_NoKeys, noKeys]
  cases a0.2 == 0 <;> rfl
def O_impl_NoKeys : Orac := nilO
theorem ok_impl_NoKeys : OracOk Try.prog sigs O_impl_NoKeys := nilO_ok
def A_impl_NoKeys : Ann := fun b => ⟨[], []⟩
theorem a_impl_NoKeys (n : Nat) (a0 : TKeys) : absF tab sigs O_impl_NoKeys A_impl_NoKeys Try.f91 [(.bool, .no)] n [.val (.pair (.slice 3 (.int .i64)) (.int .i64)) a0] = impl_NoKeys (fun r0 => some [⟨.bool, r0⟩])  a0 := by kernel_rfl
theorem said_impl_NoKeys (a0 : TKeys) : Said Try.prog sigs_91 91 [.val (.pair (.slice 3 (.int .i64)) (.int .i64)) a0] [⟨.bool, N.impl_NoKeys a0⟩] := said_len (T := tab) (A := A_impl_NoKeys) tabOk ok_impl_NoKeys tabOk.follows Try.func91 (by kernel_rfl) (by kernel_rfl) (fun hl => ⟨0, (a_impl_NoKeys 0 a0).trans (impl_NoKeys_ok (ρ := Ret) (fun r0 => some [⟨.bool, r0⟩]) a0 hl.1)⟩)
/-! impl.isMaybe -/
abbrev N.impl_isMaybe (k : TKeys) : Bool := isMaybe k
def impl_isMaybe {ρ : Type} (k : Bool → Option ρ) (a0 : TKeys) : Option ρ := (cond (N.impl_NoKeys a0) (k true) (k (N.impl_IsKeys a0)))
theorem impl_isMaybe_ok {ρ : Type} (k : Bool → Option ρ) (a0 : TKeys) (l_a0 : (lnL (fun _ => True) a0.1 ∧ True)) : impl_isMaybe k  a0 = k (N.impl_isMaybe a0) := by
  simp only [impl_isMaybe, N.impl_NoKeys, N.impl_IsKeys, N.impl_isMaybe, isMaybe]
  cases noKeys a0 <;> rfl
def OP_impl_isMaybe (f_impl_NoKeys : TKeys → Bool) (f_impl_IsKeys : TKeys → Bool) : Orac := (orcX 88 [.val (.pair (.slice 3 (.int .i64)) (.int .i64))] (fun d => true) (fun d => [⟨.bool, f_impl_IsKeys d.1⟩]) (orcX 91 [.val (.pair (.slice 3 (.int .i64)) (.int .i64))] (fun d => true) (fun d => [⟨.bool, f_impl_NoKeys d.1⟩]) nilO))
def O_impl_isMaybe : Orac := OP_impl_isMaybe N.impl_NoKeys N.impl_IsKeys
def impl_isMaybe_P {ρ : Type} (f_impl_NoKeys : TKeys → Bool) (f_impl_IsKeys : TKeys → Bool) (k : Bool → Option ρ) (a0 : TKeys) : Option ρ := (cond (f_impl_NoKeys a0) (k true) (k (f_impl_IsKeys a0)))
theorem ok_impl_isMaybe : OracOk Try.prog sigs O_impl_isMaybe := (orcX_ok rfl (fun d g => said_impl_IsKeys d.1) (orcX_ok rfl (fun d g => said_impl_NoKeys d.1) nilO_ok))
def A_impl_isMaybe : Ann := fun b => ⟨[], []⟩
theorem aP_impl_isMaybe (f_impl_NoKeys : TKeys → Bool) (f_impl_IsKeys : TKeys → Bool) (n : Nat) (a0 : TKeys) : absF tab sigs (OP_impl_isMaybe f_impl_NoKeys f_impl_IsKeys) A_impl_isMaybe Try.f89 [(.bool, .no)] n [.val (.pair (.slice 3 (.int .i64)) (.int .i64)) a0] = impl_isMaybe_P f_impl_NoKeys f_impl_IsKeys (fun r0 => some [⟨.bool, r0⟩])  a0 := by kernel_rfl
theorem a_impl_isMaybe (n : Nat) (a0 : TKeys) : absF tab sigs O_impl_isMaybe A_impl_isMaybe Try.f89 [(.bool, .no)] n [.val (.pair (.slice 3 (.int .i64)) (.int .i64)) a0] = impl_isMaybe (fun r0 => some [⟨.bool, r0⟩])  a0 := aP_impl_isMaybe N.impl_NoKeys N.impl_IsKeys n a0
theorem said_impl_isMaybe (a0 : TKeys) : Said Try.prog sigs_89 89 [.val (.pair (.slice 3 (.int .i64)) (.int .i64)) a0] [⟨.bool, N.impl_isMaybe a0⟩] := said_len (T := tab) (A := A_impl_isMaybe) tabOk ok_impl_isMaybe tabOk.follows Try.func89 (by kernel_rfl) (by kernel_rfl) (fun hl => ⟨0, (a_impl_isMaybe 0 a0).trans (impl_isMaybe_ok (ρ := Ret) (fun r0 => some [⟨.bool, r0⟩]) a0 hl.1)⟩)
/-! impl.isWait -/
abbrev N.impl_isWait (w : Int) (k : TKeys) : Bool := isWait w k
def impl_isWait {ρ : Type} (k : Bool → Option ρ) (a0 : Int) (a1 : TKeys) : Option ρ := (cond (N.impl_NoKeys a1) (k (a0 == (0 : Int))) (k (N.impl_InRange a0 (1 : Int) (500 : Int))))
theorem impl_isWait_ok {ρ : Type} (k : Bool → Option ρ) (a0 : Int) (a1 : TKeys) (l_a1 : (lnL (fun _ => True) a1.1 ∧ True)) : impl_isWait k  a0 a1 = k (N.impl_isWait a0 a1) := by
  simp only [impl_isWait, N.impl_NoKeys, N.impl_InRange, N.impl_isWait, isWait]
  cases noKeys a1 <;> rfl
def OP_impl_isWait (f_impl_NoKeys : TKeys → Bool) (f_impl_InRange : Int → Int → Int → Bool) : Orac := (orcX 86 [.val (.int .i64), .val (.int .i64), .val (.int .i64)] (fun d => true) (fun d => [⟨.bool, f_impl_InRange d.1 d.2.1 d.2.2.1⟩]) (orcX 91 [.val (.pair (.slice 3 (.int .i64)) (.int .i64))] (fun d => true) (fun d => [⟨.bool, f_impl_NoKeys d.1⟩]) nilO))
def O_impl_isWait : Orac := OP_impl_isWait N.impl_NoKeys N.impl_InRange
def impl_isWait_P {ρ : Type} (f_impl_NoKeys : TKeys → Bool) (f_impl_InRange : Int → Int → Int → Bool) (k : Bool → Option ρ) (a0 : Int) (a1 : TKeys) : Option ρ := (cond (f_impl_NoKeys a1) (k (a0 == (0 : Int))) (k (f_impl_InRange a0 (1 : Int) (500 : Int))))
theorem ok_impl_isWait : OracOk Try.prog sigs O_impl_isWait := (orcX_ok rfl (fun d g => said_impl_InRange d.1 d.2.1 d.2.2.1) (orcX_ok rfl (fun d g => said_impl_NoKeys d.1) nilO_ok))
def A_impl_isWait : Ann := fun b => ⟨[], []⟩
theorem aP_impl_isWait (f_impl_NoKeys : TKeys → Bool) (f_impl_InRange : Int → Int → Int → Bool) (n : Nat) (a0 : Int) (a1 : TKeys) : absF tab sigs (OP_impl_isWait f_impl_NoKeys f_impl_InRange) A_impl_isWait Try.f90 [(.bool, .no)] n [.val (.int .i64) a0, .val (.pair (.slice 3 (.int .i64)) (.int .i64)) a1] = impl_isWait_P f_impl_NoKeys f_impl_InRange (fun r0 => some [⟨.bool, r0⟩])  a0 a1 := by kernel_rfl
theorem a_impl_isWait (n : Nat) (a0 : Int) (a1 : TKeys) : absF tab sigs O_impl_isWait A_impl_isWait Try.f90 [(.bool, .no)] n [.val (.int .i64) a0, .val (.pair (.slice 3 (.int .i64)) (.int .i64)) a1] = impl_isWait (fun r0 => some [⟨.bool, r0⟩])  a0 a1 := aP_impl_isWait N.impl_NoKeys N.impl_InRange n a0 a1
theorem said_impl_isWait (a0 : Int) (a1 : TKeys) : Said Try.prog sigs_90 90 [.val (.int .i64) a0, .val (.pair (.slice 3 (.int .i64)) (.int .i64)) a1] [⟨.bool, N.impl_isWait a0 a1⟩] := said_len (T := tab) (A := A_impl_isWait) tabOk ok_impl_isWait tabOk.follows Try.func90 (by kernel_rfl) (by kernel_rfl) (fun hl => ⟨0, (a_impl_isWait 0 a0 a1).trans (impl_isWait_ok (ρ := Ret) (fun r0 => some [⟨.bool, r0⟩]) a0 a1 hl.2.1)⟩)
/-! impl.IsHead -/
abbrev N.impl_IsHead (h : THead) : Bool := isHead h
def impl_IsHead {ρ : Type} (k : Bool → Option ρ) (a0 : THead) : Option ρ := (cond (N.impl_isDigest a0.1) (cond (N.impl_isDigest a0.2.2.2.2.2.2.1) (cond (N.impl_isDigest a0.2.2.2.2.2.2.2.1) (cond (N.impl_InRange a0.2.1 (0 : Int) (200 : Int)) (cond (N.impl_InRange a0.2.2.1 (1 : Int) (3 : Int)) (cond (N.impl_isSpan a0) (cond (N.impl_InRange a0.2.2.2.2.2.1 (0 : Int) (12 : Int)) (cond (N.impl_IsKeys a0.2.2.2.2.2.2.2.2.1) (cond (N.impl_isMaybe a0.2.2.2.2.2.2.2.2.2.1) (cond (N.impl_isMaybe a0.2.2.2.2.2.2.2.2.2.2.2.1) (cond (N.impl_isWait a0.2.2.2.2.2.2.2.2.2.2.1 a0.2.2.2.2.2.2.2.2.2.1) (cond a0.2.2.2.2.2.2.2.2.2.2.2.2 (k (!(N.impl_NoKeys a0.2.2.2.2.2.2.2.2.2.2.2.1))) (k true)) (k false)) (k false)) (k false)) (k false)) (k false)) (k false)) (k false)) (k false)) (k false)) (k false)) (k false))
theorem impl_IsHead_ok {ρ : Type} (k : Bool → Option ρ) (a0 : THead) (l_a0 : (True ∧ (True ∧ (True ∧ (True ∧ (True ∧ (True ∧ (True ∧ (True ∧ ((lnL (fun _ => True) a0.2.2.2.2.2.2.2.2.1.1 ∧ True) ∧ ((lnL (fun _ => True) a0.2.2.2.2.2.2.2.2.2.1.1 ∧ True) ∧ (True ∧ ((lnL (fun _ => True) a0.2.2.2.2.2.2.2.2.2.2.2.1.1 ∧ True) ∧ True))))))))))))) : impl_IsHead k  a0 = k (N.impl_IsHead a0) := by
  simp only [impl_IsHead, N.impl_isDigest, N.impl_InRange, N.impl_isSpan, N.impl_IsKeys, N.impl_isMaybe, N.impl_isWait, N.impl_NoKeys, N.impl_IsHead, isHead]
  cases isDigest a0.1
  · rfl
  cases isDigest a0.2.2.2.2.2.2.1
  · rfl
  cases isDigest a0.2.2.2.2.2.2.2.1
  · rfl
  cases inR a0.2.1 0 200
  · rfl
  cases inR a0.2.2.1 1 3
  · rfl
  cases isSpan a0
  · rfl
  cases inR a0.2.2.2.2.2.1 0 12
  · rfl
  cases isKeys a0.2.2.2.2.2.2.2.2.1
  · rfl
  cases isMaybe a0.2.2.2.2.2.2.2.2.2.1
  · rfl
  cases isMaybe a0.2.2.2.2.2.2.2.2.2.2.2.1
  · rfl
  cases isWait a0.2.2.2.2.2.2.2.2.2.2.1 a0.2.2.2.2.2.2.2.2.2.1
  · rfl
  cases a0.2.2.2.2.2.2.2.2.2.2.2.2 <;> rfl
def OP_impl_IsHead (f_impl_isDigest : Int → Bool) (f_impl_InRange : Int → Int → Int → Bool) (f_impl_isSpan : THead → Bool) (f_impl_IsKeys : TKeys → Bool) (f_impl_isMaybe : TKeys → Bool) (f_impl_isWait : Int → TKeys → Bool) (f_impl_NoKeys : TKeys → Bool) : Orac := (orcX 91 [.val (.pair (.slice 3 (.int .i64)) (.int .i64))] (fun d => true) (fun d => [⟨.bool, f_impl_NoKeys d.1⟩]) (orcX 90 [.val (.int .i64), .val (.pair (.slice 3 (.int .i64)) (.int .i64))] (fun d => true) (fun d => [⟨.bool, f_impl_isWait d.1 d.2.1⟩]) (orcX 89 [.val (.pair (.slice 3 (.int .i64)) (.int .i64))] (fun d => true) (fun d => [⟨.bool, f_impl_isMaybe d.1⟩]) (orcX 88 [.val (.pair (.slice 3 (.int .i64)) (.int .i64))] (fun d => true) (fun d => [⟨.bool, f_impl_IsKeys d.1⟩]) (orcX 87 [.val (.pair (.int .i64) (.pair (.int .i64) (.pair (.int .i64) (.pair (.int .i64) (.pair (.int .i64) (.pair (.int .i64) (.pair (.int .i64) (.pair (.int .i64) (.pair (.pair (.slice 3 (.int .i64)) (.int .i64)) (.pair (.pair (.slice 3 (.int .i64)) (.int .i64)) (.pair (.int .i64) (.pair (.pair (.slice 3 (.int .i64)) (.int .i64)) .bool))))))))))))] (fun d => true) (fun d => [⟨.bool, f_impl_isSpan d.1⟩]) (orcX 86 [.val (.int .i64), .val (.int .i64), .val (.int .i64)] (fun d => true) (fun d => [⟨.bool, f_impl_InRange d.1 d.2.1 d.2.2.1⟩]) (orcX 85 [.val (.int .i64)] (fun d => true) (fun d => [⟨.bool, f_impl_isDigest d.1⟩]) nilO)))))))
def O_impl_IsHead : Orac := OP_impl_IsHead N.impl_isDigest N.impl_InRange N.impl_isSpan N.impl_IsKeys N.impl_isMaybe N.impl_isWait N.impl_NoKeys
def impl_IsHead_P {ρ : Type} (f_impl_isDigest : Int → Bool) (f_impl_InRange : Int → Int → Int → Bool) (f_impl_isSpan : THead → Bool) (f_impl_IsKeys : TKeys → Bool) (f_impl_isMaybe : TKeys → Bool) (f_impl_isWait : Int → TKeys → Bool) (f_impl_NoKeys : TKeys → Bool) (k : Bool → Option ρ) (a0 : THead) : Option ρ := (cond (f_impl_isDigest a0.1) (cond (f_impl_isDigest a0.2.2.2.2.2.2.1) (cond (f_impl_isDigest a0.2.2.2.2.2.2.2.1) (cond (f_impl_InRange a0.2.1 (0 : Int) (200 : Int)) (cond (f_impl_InRange a0.2.2.1 (1 : Int) (3 : Int)) (cond (f_impl_isSpan a0) (cond (f_impl_InRange a0.2.2.2.2.2.1 (0 : Int) (12 : Int)) (cond (f_impl_IsKeys a0.2.2.2.2.2.2.2.2.1) (cond (f_impl_isMaybe a0.2.2.2.2.2.2.2.2.2.1) (cond (f_impl_isMaybe a0.2.2.2.2.2.2.2.2.2.2.2.1) (cond (f_impl_isWait a0.2.2.2.2.2.2.2.2.2.2.1 a0.2.2.2.2.2.2.2.2.2.1) (cond a0.2.2.2.2.2.2.2.2.2.2.2.2 (k (!(f_impl_NoKeys a0.2.2.2.2.2.2.2.2.2.2.2.1))) (k true)) (k false)) (k false)) (k false)) (k false)) (k false)) (k false)) (k false)) (k false)) (k false)) (k false)) (k false))
theorem ok_impl_IsHead : OracOk Try.prog sigs O_impl_IsHead := (orcX_ok rfl (fun d g => said_impl_NoKeys d.1) (orcX_ok rfl (fun d g => said_impl_isWait d.1 d.2.1) (orcX_ok rfl (fun d g => said_impl_isMaybe d.1) (orcX_ok rfl (fun d g => said_impl_IsKeys d.1) (orcX_ok rfl (fun d g => said_impl_isSpan d.1) (orcX_ok rfl (fun d g => said_impl_InRange d.1 d.2.1 d.2.2.1) (orcX_ok rfl (fun d g => said_impl_isDigest d.1) nilO_ok)))))))
def A_impl_IsHead : Ann := fun b => ⟨[], []⟩
theorem aP_impl_IsHead (f_impl_isDigest : Int → Bool) (f_impl_InRange : Int → Int → Int → Bool) (f_impl_isSpan : THead → Bool) (f_impl_IsKeys : TKeys → Bool) (f_impl_isMaybe : TKeys → Bool) (f_impl_isWait : Int → TKeys → Bool) (f_impl_NoKeys : TKeys → Bool) (n : Nat) (a0 : THead) : absF tab sigs (OP_impl_IsHead f_impl_isDigest f_impl_InRange f_impl_isSpan f_impl_IsKeys f_impl_isMaybe f_impl_isWait f_impl_NoKeys) A_impl_IsHead Try.f48 [(.bool, .no)] n [.val (.pair (.int .i64) (.pair (.int .i64) (.pair (.int .i64) (.pair (.int .i64) (.pair (.int .i64) (.pair (.int .i64) (.pair (.int .i64) (.pair (.int .i64) (.pair (.pair (.slice 3 (.int .i64)) (.int .i64)) (.pair (.pair (.slice 3 (.int .i64)) (.int .i64)) (.pair (.int .i64) (.pair (.pair (.slice 3 (.int .i64)) (.int .i64)) .bool)))))))))))) a0] = impl_IsHead_P f_impl_isDigest f_impl_InRange f_impl_isSpan f_impl_IsKeys f_impl_isMaybe f_impl_isWait f_impl_NoKeys (fun r0 => some [⟨.bool, r0⟩])  a0 := by kernel_rfl
theorem a_impl_IsHead (n : Nat) (a0 : THead) : absF tab sigs O_impl_IsHead A_impl_IsHead Try.f48 [(.bool, .no)] n [.val (.pair (.int .i64) (.pair (.int .i64) (.pair (.int .i64) (.pair (.int .i64) (.pair (.int .i64) (.pair (.int .i64) (.pair (.int .i64) (.pair (.int .i64) (.pair (.pair (.slice 3 (.int .i64)) (.int .i64)) (.pair (.pair (.slice 3 (.int .i64)) (.int .i64)) (.pair (.int .i64) (.pair (.pair (.slice 3 (.int .i64)) (.int .i64)) .bool)))))))))))) a0] = impl_IsHead (fun r0 => some [⟨.bool, r0⟩])  a0 := aP_impl_IsHead N.impl_isDigest N.impl_InRange N.impl_isSpan N.impl_IsKeys N.impl_isMaybe N.impl_isWait N.impl_NoKeys n a0
theorem said_impl_IsHead (a0 : THead) : Said Try.prog sigs_48 48 [.val (.pair (.int .i64) (.pair (.int .i64) (.pair (.int .i64) (.pair (.int .i64) (.pair (.int .i64) (.pair (.int .i64) (.pair (.int .i64) (.pair (.int .i64) (.pair (.pair (.slice 3 (.int .i64)) (.int .i64)) (.pair (.pair (.slice 3 (.int .i64)) (.int .i64)) (.pair (.int .i64) (.pair (.pair (.slice 3 (.int .i64)) (.int .i64)) .bool)))))))))))) a0] [⟨.bool, N.impl_IsHead a0⟩] := said_len (T := tab) (A := A_impl_IsHead) tabOk ok_impl_IsHead tabOk.follows Try.func48 (by kernel_rfl) (by kernel_rfl) (fun hl => ⟨0, (a_impl_IsHead 0 a0).trans (impl_IsHead_ok (ρ := Ret) (fun r0 => some [⟨.bool, r0⟩]) a0 hl.1)⟩)
/-! impl.KeysInts -/
abbrev G.impl_KeysInts (k : TKeys) : Bool := decide (wK k ≤ 1048576)
abbrev N.impl_KeysInts (k : TKeys) : List Int := keysInts k
def impl_KeysInts {ρ : Type} (k : (List Int) → Option ρ) (a0 : TKeys) : Option ρ := (cond (fit (List.length [a0.2, (List.length a0.1 : Int)]) (List.length a0.1)) (k (List.append [a0.2, (List.length a0.1 : Int)] a0.1)) none)
theorem impl_KeysInts_ok {ρ : Type} (k : (List Int) → Option ρ) (a0 : TKeys) (l_a0 : (lnL (fun _ => True) a0.1 ∧ True)) (g : G.impl_KeysInts a0 = true) : impl_KeysInts k  a0 = k (N.impl_KeysInts a0) := by
  unfold G.impl_KeysInts at g
  have h : wK a0 ≤ 1048576 := of_decide_eq_true g
  have h1 : fit (List.length [a0.2, (List.length a0.1 : Int)]) (List.length a0.1) = true := fit_of (by
    unfold wK at h
    simp
    omega)
  show cond _ _ none = _
  rw [h1]
  rfl
def O_impl_KeysInts : Orac := nilO
theorem ok_impl_KeysInts : OracOk Try.prog sigs O_impl_KeysInts := nilO_ok
def A_impl_KeysInts : Ann := fun b => ⟨[], []⟩
theorem a_impl_KeysInts (n : Nat) (a0 : TKeys) : absF tab sigs O_impl_KeysInts A_impl_KeysInts Try.f106 [((.slice 3 (.int .i64)), (.own 0))] n [.val (.pair (.slice 3 (.int .i64)) (.int .i64)) a0] = impl_KeysInts (fun r0 => some [⟨(.slice 3 (.int .i64)), r0⟩])  a0 := by kernel_rfl
theorem said_impl_KeysInts (a0 : TKeys) (g : G.impl_KeysInts a0 = true) : Said Try.prog sigs_106 106 [.val (.pair (.slice 3 (.int .i64)) (.int .i64)) a0] [⟨(.slice 3 (.int .i64)), N.impl_KeysInts a0⟩] := said_len (T := tab) (A := A_impl_KeysInts) tabOk ok_impl_KeysInts tabOk.follows Try.func106 (by kernel_rfl) (by kernel_rfl) (fun hl => ⟨0, (a_impl_KeysInts 0 a0).trans (impl_KeysInts_ok (ρ := Ret) (fun r0 => some [⟨(.slice 3 (.int .i64)), r0⟩]) a0 hl.1 g)⟩)
/-! impl.Mod -/
abbrev N.impl_Mod (n m : Int) : Int := modM n m
def impl_Mod {ρ : Type} (k : Int → Option ρ) (a0 : Int) (a1 : Int) : Option ρ := (cond (!(N.impl_InRange a1 (1 : Int) (1000000000000 : Int))) (k (0 : Int)) (cond (!(decide (a1 = 0))) (cond (!(decide (a1 = 0))) (k (Int.tmod (IntKind.wrap .i64 ((Int.tmod a0 a1) + a1)) a1)) none) none))
theorem impl_Mod_ok {ρ : Type} (k : Int → Option ρ) (a0 : Int) (a1 : Int) : impl_Mod k  a0 a1 = k (N.impl_Mod a0 a1) := by
  simp only [impl_Mod, N.impl_InRange, modM]
  cases h : inR a1 1 1000000000000
  · rfl
  · have h1 : 1 ≤ a1 := by
      unfold inR at h
      simp only [Bool.and_eq_true, decide_eq_true_eq] at h
      exact h.1
    have h2 : decide (a1 = 0) = false := by simp; omega
    simp [h2]
def OP_impl_Mod (f_impl_InRange : Int → Int → Int → Bool) : Orac := (orcX 86 [.val (.int .i64), .val (.int .i64), .val (.int .i64)] (fun d => true) (fun d => [⟨.bool, f_impl_InRange d.1 d.2.1 d.2.2.1⟩]) nilO)
def O_impl_Mod : Orac := OP_impl_Mod N.impl_InRange
def impl_Mod_P {ρ : Type} (f_impl_InRange : Int → Int → Int → Bool) (k : Int → Option ρ) (a0 : Int) (a1 : Int) : Option ρ := (cond (!(f_impl_InRange a1 (1 : Int) (1000000000000 : Int))) (k (0 : Int)) (cond (!(decide (a1 = 0))) (cond (!(decide (a1 = 0))) (k (Int.tmod (IntKind.wrap .i64 ((Int.tmod a0 a1) + a1)) a1)) none) none))
theorem ok_impl_Mod : OracOk Try.prog sigs O_impl_Mod := (orcX_ok rfl (fun d g => said_impl_InRange d.1 d.2.1 d.2.2.1) nilO_ok)
def A_impl_Mod : Ann := fun b => ⟨[], []⟩
theorem aP_impl_Mod (f_impl_InRange : Int → Int → Int → Bool) (n : Nat) (a0 : Int) (a1 : Int) : absF tab sigs (OP_impl_Mod f_impl_InRange) A_impl_Mod Try.f125 [((.int .i64), .no)] n [.val (.int .i64) a0, .val (.int .i64) a1] = impl_Mod_P f_impl_InRange (fun r0 => some [⟨(.int .i64), r0⟩])  a0 a1 := by kernel_rfl
theorem a_impl_Mod (n : Nat) (a0 : Int) (a1 : Int) : absF tab sigs O_impl_Mod A_impl_Mod Try.f125 [((.int .i64), .no)] n [.val (.int .i64) a0, .val (.int .i64) a1] = impl_Mod (fun r0 => some [⟨(.int .i64), r0⟩])  a0 a1 := aP_impl_Mod N.impl_InRange n a0 a1
theorem said_impl_Mod (a0 : Int) (a1 : Int) : Said Try.prog sigs_125 125 [.val (.int .i64) a0, .val (.int .i64) a1] [⟨(.int .i64), N.impl_Mod a0 a1⟩] := said_len (T := tab) (A := A_impl_Mod) tabOk ok_impl_Mod tabOk.follows Try.func125 (by kernel_rfl) (by kernel_rfl) (fun hl => ⟨0, (a_impl_Mod 0 a0 a1).trans (impl_Mod_ok (ρ := Ret) (fun r0 => some [⟨(.int .i64), r0⟩]) a0 a1)⟩)
/-! impl.Hash -/
abbrev N.impl_Hash (l : List Int) : Int := hash l
def impl_Hash_L0 {ρ : Type} (k : Int → Option ρ) (L0 : Int → (List Int) → Int → Int → Option ρ) (v0_0 : Int) (v0_1 : (List Int)) (v0_2 : Int) (v0_3 : Int) : Option ρ := (cond (decide (v0_3 < v0_2)) (cond (inRange v0_3 (List.length v0_1)) (L0 (Int.tmod (IntKind.wrap .i64 ((IntKind.wrap .i64 ((IntKind.wrap .i64 (v0_0 * (1000003 : Int))) + (N.impl_Mod (List.getD v0_1 (Int.toNat v0_3) (0 : Int)) (2147483647 : Int)))) + (13 : Int))) (2147483647 : Int)) v0_1 v0_2 (IntKind.wrap .i64 (v0_3 + (1 : Int)))) none) (k v0_0))
def impl_Hash {ρ : Type} (k : Int → Option ρ) (L0 : Int → (List Int) → Int → Int → Option ρ) (a0 : (List Int)) : Option ρ := (L0 (11 : Int) a0 (List.length a0 : Int) (0 : Int))
theorem impl_Hash_ok {ρ : Type} (k : Int → Option ρ) (a0 : (List Int)) (l_a0 : lnL (fun _ => True) a0) : ∃ n0, ∀ n, n0 ≤ n → ∀ (L0 : Nat → Int → (List Int) → Int → Int → Option ρ) (h0 : ∀ ( m : Nat) (v0_0 : Int) (v0_1 : (List Int)) (v0_2 : Int) (v0_3 : Int), L0 (m + 1) v0_0 v0_1 v0_2 v0_3 = impl_Hash_L0 k (L0 m) v0_0 v0_1 v0_2 v0_3), impl_Hash k (L0 n) a0 = k (N.impl_Hash a0) := by
  refine ⟨a0.length + 1, fun n hn L0 h0 => ?_⟩
  refine raw_foldl (a := a0) 0 hashStep (k := k) (L := fun m i s => L0 m s a0 (a0.length : Int) i) (R := fun i s c => impl_Hash_L0 k (fun s _ _ i => c i s) s a0 (a0.length : Int) i) (fun m i s => h0 m s a0 (a0.length : Int) i) (fun _ _ => True) (fun j s c hj _ => ?_) (fun _ _ _ _ => trivial) (fun s c => ?_) hn trivial
  · have : j < big := by have := l_a0.1; omega
    simp [impl_Hash_L0, lt_nat, inRange_nat, hj, wrap_succ this, hashStep]
  · simp [impl_Hash_L0]
def OP_impl_Hash (f_impl_Mod : Int → Int → Int) : Orac := (orcX 125 [.val (.int .i64), .val (.int .i64)] (fun d => true) (fun d => [⟨(.int .i64), f_impl_Mod d.1 d.2.1⟩]) nilO)
def O_impl_Hash : Orac := OP_impl_Hash N.impl_Mod
def impl_Hash_P_L0 {ρ : Type} (f_impl_Mod : Int → Int → Int) (k : Int → Option ρ) (L0 : Int → (List Int) → Int → Int → Option ρ) (v0_0 : Int) (v0_1 : (List Int)) (v0_2 : Int) (v0_3 : Int) : Option ρ := (cond (decide (v0_3 < v0_2)) (cond (inRange v0_3 (List.length v0_1)) (L0 (Int.tmod (IntKind.wrap .i64 ((IntKind.wrap .i64 ((IntKind.wrap .i64 (v0_0 * (1000003 : Int))) + (f_impl_Mod (List.getD v0_1 (Int.toNat v0_3) (0 : Int)) (2147483647 : Int)))) + (13 : Int))) (2147483647 : Int)) v0_1 v0_2 (IntKind.wrap .i64 (v0_3 + (1 : Int)))) none) (k v0_0))
def impl_Hash_P {ρ : Type} (f_impl_Mod : Int → Int → Int) (k : Int → Option ρ) (L0 : Int → (List Int) → Int → Int → Option ρ) (a0 : (List Int)) : Option ρ := (L0 (11 : Int) a0 (List.length a0 : Int) (0 : Int))
theorem ok_impl_Hash : OracOk Try.prog sigs O_impl_Hash := (orcX_ok rfl (fun d g => said_impl_Mod d.1 d.2.1) nilO_ok)
def A_impl_Hash : Ann := fun b => cond (Nat.beq b 0) ⟨[(3, false), (6, false), (7, false), (8, false)], []⟩ (⟨[], []⟩)
def S_impl_Hash_0 (v0_0 : Int) (v0_1 : (List Int)) (v0_2 : Int) (v0_3 : Int) : St := [(kT 3, some (.tv (.v (.int .i64) v0_0 .no))), (kT 6, some (.tv (.v (.slice 3 (.int .i64)) v0_1 .no))), (kT 7, some (.tv (.v (.int .i64) v0_2 .no))), (kT 8, some (.tv (.v (.int .i64) v0_3 .no)))]
noncomputable def L_P_impl_Hash_0 (f_impl_Mod : Int → Int → Int) (n m : Nat) : St → Option Ret := loopOf tab sigs (OP_impl_Hash f_impl_Mod) A_impl_Hash Try.f105 [((.int .i64), .no)] n (fun _ => 0) 0 m
noncomputable def L_impl_Hash_0 (n m : Nat) : St → Option Ret := L_P_impl_Hash_0 N.impl_Mod n m
theorem bP_impl_Hash_0 (f_impl_Mod : Int → Int → Int) (n m : Nat) (v0_0 : Int) (v0_1 : (List Int)) (v0_2 : Int) (v0_3 : Int) : L_P_impl_Hash_0 f_impl_Mod n (m + 1) (S_impl_Hash_0 v0_0 v0_1 v0_2 v0_3) = impl_Hash_P_L0 f_impl_Mod (fun r0 => some [⟨(.int .i64), r0⟩]) (fun v0_0 v0_1 v0_2 v0_3 => L_P_impl_Hash_0 f_impl_Mod n m (S_impl_Hash_0 v0_0 v0_1 v0_2 v0_3)) v0_0 v0_1 v0_2 v0_3 := by kernel_rfl
theorem b_impl_Hash_0 (n m : Nat) (v0_0 : Int) (v0_1 : (List Int)) (v0_2 : Int) (v0_3 : Int) : L_impl_Hash_0 n (m + 1) (S_impl_Hash_0 v0_0 v0_1 v0_2 v0_3) = impl_Hash_L0 (fun r0 => some [⟨(.int .i64), r0⟩]) (fun v0_0 v0_1 v0_2 v0_3 => L_impl_Hash_0 n m (S_impl_Hash_0 v0_0 v0_1 v0_2 v0_3)) v0_0 v0_1 v0_2 v0_3 := bP_impl_Hash_0 N.impl_Mod n m v0_0 v0_1 v0_2 v0_3
theorem aP_impl_Hash (f_impl_Mod : Int → Int → Int) (n : Nat) (a0 : (List Int)) : absF tab sigs (OP_impl_Hash f_impl_Mod) A_impl_Hash Try.f105 [((.int .i64), .no)] n [.val (.slice 3 (.int .i64)) a0] = impl_Hash_P f_impl_Mod (fun r0 => some [⟨(.int .i64), r0⟩]) (fun v0_0 v0_1 v0_2 v0_3 => L_P_impl_Hash_0 f_impl_Mod n n (S_impl_Hash_0 v0_0 v0_1 v0_2 v0_3)) a0 := by kernel_rfl
theorem a_impl_Hash (n : Nat) (a0 : (List Int)) : absF tab sigs O_impl_Hash A_impl_Hash Try.f105 [((.int .i64), .no)] n [.val (.slice 3 (.int .i64)) a0] = impl_Hash (fun r0 => some [⟨(.int .i64), r0⟩]) (fun v0_0 v0_1 v0_2 v0_3 => L_impl_Hash_0 n n (S_impl_Hash_0 v0_0 v0_1 v0_2 v0_3)) a0 := aP_impl_Hash N.impl_Mod n a0
theorem said_impl_Hash (a0 : (List Int)) : Said Try.prog sigs_105 105 [.val (.slice 3 (.int .i64)) a0] [⟨(.int .i64), N.impl_Hash a0⟩] := said_len (T := tab) (A := A_impl_Hash) tabOk ok_impl_Hash tabOk.follows Try.func105 (by kernel_rfl) (by kernel_rfl) (fun hl => let ⟨n, hn⟩ := impl_Hash_ok (ρ := Ret) (fun r0 => some [⟨(.int .i64), r0⟩]) a0 hl.1; ⟨n, (a_impl_Hash n a0).trans (hn n (Nat.le_refl n) (fun  m v0_0 v0_1 v0_2 v0_3 => L_impl_Hash_0 n  m (S_impl_Hash_0 v0_0 v0_1 v0_2 v0_3)) (fun  m v0_0 v0_1 v0_2 v0_3 => b_impl_Hash_0 n  m v0_0 v0_1 v0_2 v0_3))⟩)
/-! impl.ZoneOf -/
abbrev G.impl_ZoneOf (k : TKeys) (salt : Int) : Bool := decide (wK k ≤ 1048576)
abbrev N.impl_ZoneOf (k : TKeys) (salt : Int) : Int := zoneOf k salt
def impl_ZoneOf {ρ : Type} (k : Int → Option ρ) (a0 : TKeys) (a1 : Int) : Option ρ := (cond (G.impl_KeysInts a0) (cond (fit (List.length [(239 : Int), a1]) (List.length (N.impl_KeysInts a0))) (k (N.impl_Hash (List.append [(239 : Int), a1] (N.impl_KeysInts a0)))) none) none)
theorem impl_ZoneOf_ok {ρ : Type} (k : Int → Option ρ) (a0 : TKeys) (a1 : Int) (l_a0 : (lnL (fun _ => True) a0.1 ∧ True)) (g : G.impl_ZoneOf a0 a1 = true) : impl_ZoneOf k  a0 a1 = k (N.impl_ZoneOf a0 a1) := by
  unfold G.impl_ZoneOf at g
  have h : wK a0 ≤ 1048576 := of_decide_eq_true g
  have h1 : fit (List.length [(239 : Int), a1]) (List.length (keysInts a0)) = true := fit_of (by
    rw [keysInts_len]
    simp
    omega)
  show cond (decide (wK a0 ≤ 1048576)) (cond _ _ none) none = _
  rw [g, h1]
  rfl
def OP_impl_ZoneOf (f_impl_KeysInts : TKeys → (List Int)) (g_impl_KeysInts : TKeys → Bool) (f_impl_Hash : (List Int) → Int) : Orac := (orcX 105 [.val (.slice 3 (.int .i64))] (fun d => true) (fun d => [⟨(.int .i64), f_impl_Hash d.1⟩]) (orcX 106 [.val (.pair (.slice 3 (.int .i64)) (.int .i64))] (fun d => g_impl_KeysInts d.1) (fun d => [⟨(.slice 3 (.int .i64)), f_impl_KeysInts d.1⟩]) nilO))
def O_impl_ZoneOf : Orac := OP_impl_ZoneOf N.impl_KeysInts G.impl_KeysInts N.impl_Hash
def impl_ZoneOf_P {ρ : Type} (f_impl_KeysInts : TKeys → (List Int)) (g_impl_KeysInts : TKeys → Bool) (f_impl_Hash : (List Int) → Int) (k : Int → Option ρ) (a0 : TKeys) (a1 : Int) : Option ρ := (cond (g_impl_KeysInts a0) (cond (fit (List.length [(239 : Int), a1]) (List.length (f_impl_KeysInts a0))) (k (f_impl_Hash (List.append [(239 : Int), a1] (f_impl_KeysInts a0)))) none) none)
theorem ok_impl_ZoneOf : OracOk Try.prog sigs O_impl_ZoneOf := (orcX_ok rfl (fun d g => said_impl_Hash d.1) (orcX_ok rfl (fun d g => said_impl_KeysInts d.1 g) nilO_ok))
def A_impl_ZoneOf : Ann := fun b => ⟨[], []⟩
theorem aP_impl_ZoneOf (f_impl_KeysInts : TKeys → (List Int)) (g_impl_KeysInts : TKeys → Bool) (f_impl_Hash : (List Int) → Int) (n : Nat) (a0 : TKeys) (a1 : Int) : absF tab sigs (OP_impl_ZoneOf f_impl_KeysInts g_impl_KeysInts f_impl_Hash) A_impl_ZoneOf Try.f70 [((.int .i64), .no)] n [.val (.pair (.slice 3 (.int .i64)) (.int .i64)) a0, .val (.int .i64) a1] = impl_ZoneOf_P f_impl_KeysInts g_impl_KeysInts f_impl_Hash (fun r0 => some [⟨(.int .i64), r0⟩])  a0 a1 := by kernel_rfl
theorem a_impl_ZoneOf (n : Nat) (a0 : TKeys) (a1 : Int) : absF tab sigs O_impl_ZoneOf A_impl_ZoneOf Try.f70 [((.int .i64), .no)] n [.val (.pair (.slice 3 (.int .i64)) (.int .i64)) a0, .val (.int .i64) a1] = impl_ZoneOf (fun r0 => some [⟨(.int .i64), r0⟩])  a0 a1 := aP_impl_ZoneOf N.impl_KeysInts G.impl_KeysInts N.impl_Hash n a0 a1
theorem said_impl_ZoneOf (a0 : TKeys) (a1 : Int) (g : G.impl_ZoneOf a0 a1 = true) : Said Try.prog sigs_70 70 [.val (.pair (.slice 3 (.int .i64)) (.int .i64)) a0, .val (.int .i64) a1] [⟨(.int .i64), N.impl_ZoneOf a0 a1⟩] := said_len (T := tab) (A := A_impl_ZoneOf) tabOk ok_impl_ZoneOf tabOk.follows Try.func70 (by kernel_rfl) (by kernel_rfl) (fun hl => ⟨0, (a_impl_ZoneOf 0 a0 a1).trans (impl_ZoneOf_ok (ρ := Ret) (fun r0 => some [⟨(.int .i64), r0⟩]) a0 a1 hl.1 g)⟩)
/-! impl.bit -/
abbrev N.impl_bit (b : Bool) : Int := bitOf b
def impl_bit {ρ : Type} (k : Int → Option ρ) (a0 : Bool) : Option ρ := (cond a0 (k (1 : Int)) (k (0 : Int)))
theorem impl_bit_ok {ρ : Type} (k : Int → Option ρ) (a0 : Bool) : impl_bit k  a0 = k (N.impl_bit a0) := by
  simp only [impl_bit, N.impl_bit, bitOf]
  cases a0 <;> rfl
def O_impl_bit : Orac := nilO
theorem ok_impl_bit : OracOk Try.prog sigs O_impl_bit := nilO_ok
def A_impl_bit : Ann := fun b => ⟨[], []⟩
theorem a_impl_bit (n : Nat) (a0 : Bool) : absF tab sigs O_impl_bit A_impl_bit Try.f134 [((.int .i64), .no)] n [.val .bool a0] = impl_bit (fun r0 => some [⟨(.int .i64), r0⟩])  a0 := by kernel_rfl
theorem said_impl_bit (a0 : Bool) : Said Try.prog sigs_134 134 [.val .bool a0] [⟨(.int .i64), N.impl_bit a0⟩] := said_len (T := tab) (A := A_impl_bit) tabOk ok_impl_bit tabOk.follows Try.func134 (by kernel_rfl) (by kernel_rfl) (fun hl => ⟨0, (a_impl_bit 0 a0).trans (impl_bit_ok (ρ := Ret) (fun r0 => some [⟨(.int .i64), r0⟩]) a0)⟩)
/-! slices.Grow[[]int,int] -/
abbrev G.slices_Grow_int__nil (n : Int) : Bool := decide (0 ≤ n) && decide (n ≤ 4194304)
abbrev N.slices_Grow_int__nil (n : Int) : List Int := []
def slices_Grow_int__nil {ρ : Type} (k : (List Int) → Option ρ) (a1 : Int) : Option ρ := (cond (decide (a1 < (0 : Int))) none (cond (decide ((IntKind.wrap .i64 (a1 - (IntKind.wrap .i64 ((0 : Int) - (List.length ([] : (List Int)) : Int))))) > (0 : Int))) (cond (decide (0 ≤ (IntKind.wrap .i64 (a1 - (IntKind.wrap .i64 ((0 : Int) - (List.length ([] : (List Int)) : Int))))))) (cond (fit (List.length ([] : (List Int))) (Int.toNat (IntKind.wrap .i64 (a1 - (IntKind.wrap .i64 ((0 : Int) - (List.length ([] : (List Int)) : Int))))))) (cond (decide (0 ≤ (List.length ([] : (List Int)) : Int)) && decide ((List.length ([] : (List Int)) : Int) ≤ (List.length (List.append ([] : (List Int)) (List.replicate (Int.toNat (IntKind.wrap .i64 (a1 - (IntKind.wrap .i64 ((0 : Int) - (List.length ([] : (List Int)) : Int)))))) (0 : Int))) : Int))) (k (List.take (Int.toNat (List.length ([] : (List Int)) : Int)) (List.append ([] : (List Int)) (List.replicate (Int.toNat (IntKind.wrap .i64 (a1 - (IntKind.wrap .i64 ((0 : Int) - (List.length ([] : (List Int)) : Int)))))) (0 : Int))))) none) none) none) (k [])))
theorem slices_Grow_int__nil_ok {ρ : Type} (k : (List Int) → Option ρ) (a1 : Int) (g : G.slices_Grow_int__nil a1 = true) : slices_Grow_int__nil k  a1 = k (N.slices_Grow_int__nil a1) := by
  unfold G.slices_Grow_int__nil at g
  replace g := (Bool.and_eq_true _ _).mp g
  have g1 : 0 ≤ a1 := of_decide_eq_true g.1
  have g2 : a1 ≤ 4194304 := of_decide_eq_true g.2
  have e0 : IntKind.wrap .i64 ((0 : Int) - (List.length ([] : List Int) : Int)) = 0 := by decide
  have e1 : IntKind.wrap .i64 (a1 - 0) = a1 := by rw [wrap_id (by omega) (by omega)]; omega
  have e2 : decide (a1 < 0) = false := decide_eq_false (by omega)
  simp only [slices_Grow_int__nil, e0, e1, e2, cond_false]
  by_cases h : a1 > 0
  · have e3 : fit (List.length ([] : List Int)) (Int.toNat a1) = true := fit_of (by simp; omega)
    simp only [decide_eq_true h, decide_eq_true g1, e3, cond_true]
    have e4 : decide (0 ≤ max a1 0) = true := decide_eq_true (by omega)
    simp
    rw [e4]
    rfl
  · simp only [decide_eq_false h, cond_false]
def O_slices_Grow_int__nil : Orac := nilO
theorem ok_slices_Grow_int__nil : OracOk Try.prog sigs O_slices_Grow_int__nil := nilO_ok
def A_slices_Grow_int__nil : Ann := fun b => ⟨[], []⟩
theorem a_slices_Grow_int__nil (n : Nat) (a1 : Int) : absF tab sigs O_slices_Grow_int__nil A_slices_Grow_int__nil Try.f144 [((.slice 3 (.int .i64)), (.own 0))] n [.nil 3 (.int .i64), .val (.int .i64) a1] = slices_Grow_int__nil (fun r0 => some [⟨(.slice 3 (.int .i64)), r0⟩])  a1 := by kernel_rfl
theorem said_slices_Grow_int__nil (a1 : Int) (g : G.slices_Grow_int__nil a1 = true) : Said Try.prog sigs_144 144 [.nil 3 (.int .i64), .val (.int .i64) a1] [⟨(.slice 3 (.int .i64)), N.slices_Grow_int__nil a1⟩] := said_len (T := tab) (A := A_slices_Grow_int__nil) tabOk ok_slices_Grow_int__nil tabOk.follows Try.func144 (by kernel_rfl) (by kernel_rfl) (fun hl => ⟨0, (a_slices_Grow_int__nil 0 a1).trans (slices_Grow_int__nil_ok (ρ := Ret) (fun r0 => some [⟨(.slice 3 (.int .i64)), r0⟩]) a1 g)⟩)
/-! slices.Concat[[]int,int] -/
abbrev G.slices_Concat_int (l : List (List Int)) : Bool := decide (l.length ≤ 64) && decide (l.flatten.length ≤ 4194304)
abbrev N.slices_Concat_int (l : List (List Int)) : List Int := l.flatten
def slices_Concat_int_L2 {ρ : Type} (k : (List Int) → Option ρ) (L2 : (List (List Int)) → Int → Int → (List Int) → Option ρ) (v2_0 : (List (List Int))) (v2_1 : Int) (v2_2 : Int) (v2_3 : (List Int)) : Option ρ := (cond (decide (v2_2 < v2_1)) (cond (inRange v2_2 (List.length v2_0)) (cond (fit (List.length v2_3) (List.length (List.getD v2_0 (Int.toNat v2_2) []))) (L2 v2_0 v2_1 (IntKind.wrap .i64 (v2_2 + (1 : Int))) (List.append v2_3 (List.getD v2_0 (Int.toNat v2_2) []))) none) none) (k v2_3))
def slices_Concat_int_L0 {ρ : Type} (k : (List Int) → Option ρ) (L0 : (List (List Int)) → Int → (List (List Int)) → Int → Int → Option ρ) (L2 : (List (List Int)) → Int → Int → (List Int) → Option ρ) (v0_0 : (List (List Int))) (v0_1 : Int) (v0_2 : (List (List Int))) (v0_3 : Int) (v0_4 : Int) : Option ρ := (cond (decide (v0_4 < v0_3)) (cond (inRange v0_4 (List.length v0_2)) (cond (decide ((IntKind.wrap .i64 (v0_1 + (List.length (List.getD v0_2 (Int.toNat v0_4) []) : Int))) < (0 : Int))) none (L0 v0_0 (IntKind.wrap .i64 (v0_1 + (List.length (List.getD v0_2 (Int.toNat v0_4) []) : Int))) v0_2 v0_3 (IntKind.wrap .i64 (v0_4 + (1 : Int))))) none) (cond (G.slices_Grow_int__nil v0_1) (L2 v0_0 (List.length v0_0 : Int) (0 : Int) (N.slices_Grow_int__nil v0_1)) none))
def slices_Concat_int {ρ : Type} (k : (List Int) → Option ρ) (L0 : (List (List Int)) → Int → (List (List Int)) → Int → Int → Option ρ) (a0 : (List (List Int))) : Option ρ := (L0 a0 (0 : Int) a0 (List.length a0 : Int) (0 : Int))
theorem slices_Concat_int_ok {ρ : Type} (k : (List Int) → Option ρ) (a0 : (List (List Int))) (l_a0 : lnL (fun y => lnL (fun _ => True) y) a0) (g : G.slices_Concat_int a0 = true) : ∃ n0, ∀ n, n0 ≤ n → ∀ (L0 : Nat → (List (List Int)) → Int → (List (List Int)) → Int → Int → Option ρ) (L2 : Nat → (List (List Int)) → Int → Int → (List Int) → Option ρ) (h0 : ∀ ( m : Nat) (v0_0 : (List (List Int))) (v0_1 : Int) (v0_2 : (List (List Int))) (v0_3 : Int) (v0_4 : Int), L0 (m + 1) v0_0 v0_1 v0_2 v0_3 v0_4 = slices_Concat_int_L0 k (L0 m) (L2 n) v0_0 v0_1 v0_2 v0_3 v0_4) (h2 : ∀ ( m : Nat) (v2_0 : (List (List Int))) (v2_1 : Int) (v2_2 : Int) (v2_3 : (List Int)), L2 (m + 1) v2_0 v2_1 v2_2 v2_3 = slices_Concat_int_L2 k (L2 m) v2_0 v2_1 v2_2 v2_3), slices_Concat_int k (L0 n) a0 = k (N.slices_Concat_int a0) := by
  unfold G.slices_Concat_int at g
  replace g := (Bool.and_eq_true _ _).mp g
  have g1 : a0.length ≤ 64 := of_decide_eq_true g.1
  have g2 : a0.flatten.length ≤ 4194304 := of_decide_eq_true g.2
  refine ⟨a0.length + 1, fun n hn L0 L2 h0 h2 => ?_⟩
  have hrun := raw_run0 (σ := Int) (s := 0) (L := fun m i s => L0 m a0 s a0 (a0.length : Int) i) (R := fun i s c => slices_Concat_int_L0 k (fun _ s _ _ i => c i s) (L2 n) a0 s a0 (a0.length : Int) i) (fun m i s => h0 m a0 s a0 (a0.length : Int) i) a0.length (fun j s => s = ((a0.take j).flatten.length : Int)) (fun j s => L2 n a0 (a0.length : Int) 0 []) (fun j s c hj hI hc => ?_) (fun s c hI => ?_) hn (by simp)
  · refine hrun.trans ?_
    refine (raw_foldl (a := a0) [] (fun o x => o ++ x) (k := k) (s := []) (L := fun m i s => L2 m a0 (a0.length : Int) i s) (R := fun i s c => slices_Concat_int_L2 k (fun _ _ i s => c i s) a0 (a0.length : Int) i s) (fun m i s => h2 m a0 (a0.length : Int) i s) (fun j o => o.length = (a0.take j).flatten.length) (fun j s c hj hI => ?_) (fun j s hj hI => ?_) (fun s c => ?_) hn (by simp)).trans (by rw [foldl_flat]; rfl)
    · have hs := take_flat_succ a0 j hj
      have hle := take_flat_le a0 (j + 1)
      have e3 : fit s.length (a0.getD j []).length = true := fit_of (by omega)
      simp only [slices_Concat_int_L2, lt_nat, inRange_nat, decide_eq_true hj, cond_true, Int.toNat_natCast, e3, wrap_succ (j := j) (by unfold big; omega), List.append_eq]
    · rw [List.length_append, take_flat_succ a0 j hj, hI]
    · simp [slices_Concat_int_L2]
  · have hs := take_flat_succ a0 j hj
    have hle := take_flat_le a0 (j + 1)
    have e1 : IntKind.wrap .i64 (s + ((a0.getD j []).length : Int)) = ((a0.take (j + 1)).flatten.length : Int) := by rw [hI, wrap_id (by omega) (by omega)]; omega
    have e2 : decide ((((a0.take (j + 1)).flatten.length : Nat) : Int) < 0) = false := decide_eq_false (by omega)
    have := hc _ rfl
    simp only [slices_Concat_int_L0, lt_nat, inRange_nat, decide_eq_true hj, cond_true, cond_false, Int.toNat_natCast, e1, e2, wrap_succ (j := j) (by unfold big; omega), this]
  · rw [List.take_length] at hI
    have e1 : G.slices_Grow_int__nil s = true := by
      unfold G.slices_Grow_int__nil
      rw [decide_eq_true (by omega), decide_eq_true (by omega)]
      rfl
    simp only [slices_Concat_int_L0, lt_nat, Nat.lt_irrefl, decide_false, cond_false, e1, cond_true]
def OP_slices_Concat_int (f_slices_Grow_int__nil : Int → (List Int)) (g_slices_Grow_int__nil : Int → Bool) : Orac := (orcX 144 [.nil 3 (.int .i64), .val (.int .i64)] (fun d => g_slices_Grow_int__nil d.2.1) (fun d => [⟨(.slice 3 (.int .i64)), f_slices_Grow_int__nil d.2.1⟩]) nilO)
def O_slices_Concat_int : Orac := OP_slices_Concat_int N.slices_Grow_int__nil G.slices_Grow_int__nil
def slices_Concat_int_P_L2 {ρ : Type} (f_slices_Grow_int__nil : Int → (List Int)) (g_slices_Grow_int__nil : Int → Bool) (k : (List Int) → Option ρ) (L2 : (List (List Int)) → Int → Int → (List Int) → Option ρ) (v2_0 : (List (List Int))) (v2_1 : Int) (v2_2 : Int) (v2_3 : (List Int)) : Option ρ := (cond (decide (v2_2 < v2_1)) (cond (inRange v2_2 (List.length v2_0)) (cond (fit (List.length v2_3) (List.length (List.getD v2_0 (Int.toNat v2_2) []))) (L2 v2_0 v2_1 (IntKind.wrap .i64 (v2_2 + (1 : Int))) (List.append v2_3 (List.getD v2_0 (Int.toNat v2_2) []))) none) none) (k v2_3))
def slices_Concat_int_P_L0 {ρ : Type} (f_slices_Grow_int__nil : Int → (List Int)) (g_slices_Grow_int__nil : Int → Bool) (k : (List Int) → Option ρ) (L0 : (List (List Int)) → Int → (List (List Int)) → Int → Int → Option ρ) (L2 : (List (List Int)) → Int → Int → (List Int) → Option ρ) (v0_0 : (List (List Int))) (v0_1 : Int) (v0_2 : (List (List Int))) (v0_3 : Int) (v0_4 : Int) : Option ρ := (cond (decide (v0_4 < v0_3)) (cond (inRange v0_4 (List.length v0_2)) (cond (decide ((IntKind.wrap .i64 (v0_1 + (List.length (List.getD v0_2 (Int.toNat v0_4) []) : Int))) < (0 : Int))) none (L0 v0_0 (IntKind.wrap .i64 (v0_1 + (List.length (List.getD v0_2 (Int.toNat v0_4) []) : Int))) v0_2 v0_3 (IntKind.wrap .i64 (v0_4 + (1 : Int))))) none) (cond (g_slices_Grow_int__nil v0_1) (L2 v0_0 (List.length v0_0 : Int) (0 : Int) (f_slices_Grow_int__nil v0_1)) none))
def slices_Concat_int_P {ρ : Type} (f_slices_Grow_int__nil : Int → (List Int)) (g_slices_Grow_int__nil : Int → Bool) (k : (List Int) → Option ρ) (L0 : (List (List Int)) → Int → (List (List Int)) → Int → Int → Option ρ) (a0 : (List (List Int))) : Option ρ := (L0 a0 (0 : Int) a0 (List.length a0 : Int) (0 : Int))
theorem ok_slices_Concat_int : OracOk Try.prog sigs O_slices_Concat_int := (orcX_ok rfl (fun d g => said_slices_Grow_int__nil d.2.1 g) nilO_ok)
def A_slices_Concat_int : Ann := fun b => cond (Nat.beq b 2) ⟨[(6, true), (25, false), (26, false), (27, false)], []⟩ (cond (Nat.beq b 0) ⟨[(0, false), (3, false), (9, false), (10, false), (11, false)], []⟩ (⟨[], []⟩))
def S_slices_Concat_int_0 (v0_0 : (List (List Int))) (v0_1 : Int) (v0_2 : (List (List Int))) (v0_3 : Int) (v0_4 : Int) : St := [(kT 0, some (.tv (.v (.slice 22 (.slice 3 (.int .i64))) v0_0 .no))), (kT 3, some (.tv (.v (.int .i64) v0_1 .no))), (kT 9, some (.tv (.v (.slice 22 (.slice 3 (.int .i64))) v0_2 .no))), (kT 10, some (.tv (.v (.int .i64) v0_3 .no))), (kT 11, some (.tv (.v (.int .i64) v0_4 .no)))]
noncomputable def L_P_slices_Concat_int_0 (f_slices_Grow_int__nil : Int → (List Int)) (g_slices_Grow_int__nil : Int → Bool) (n m : Nat) : St → Option Ret := loopOf tab sigs (OP_slices_Concat_int f_slices_Grow_int__nil g_slices_Grow_int__nil) A_slices_Concat_int Try.f133 [((.slice 3 (.int .i64)), (.own 0))] n (fun _ => 0) 0 m
noncomputable def L_slices_Concat_int_0 (n m : Nat) : St → Option Ret := L_P_slices_Concat_int_0 N.slices_Grow_int__nil G.slices_Grow_int__nil n m
def S_slices_Concat_int_2 (v2_0 : (List (List Int))) (v2_1 : Int) (v2_2 : Int) (v2_3 : (List Int)) : St := [(kT 6, some (.tv (.v (.slice 3 (.int .i64)) [] (.own 48)))), (kT 25, some (.tv (.v (.slice 22 (.slice 3 (.int .i64))) v2_0 .no))), (kT 26, some (.tv (.v (.int .i64) v2_1 .no))), (kT 27, some (.tv (.v (.int .i64) v2_2 .no))), (kR 48, some (.row 3 (.int .i64) v2_3))]
noncomputable def L_P_slices_Concat_int_2 (f_slices_Grow_int__nil : Int → (List Int)) (g_slices_Grow_int__nil : Int → Bool) (n m : Nat) : St → Option Ret := loopOf tab sigs (OP_slices_Concat_int f_slices_Grow_int__nil g_slices_Grow_int__nil) A_slices_Concat_int Try.f133 [((.slice 3 (.int .i64)), (.own 0))] n (fun _ => 0) 2 m
noncomputable def L_slices_Concat_int_2 (n m : Nat) : St → Option Ret := L_P_slices_Concat_int_2 N.slices_Grow_int__nil G.slices_Grow_int__nil n m
theorem bP_slices_Concat_int_0 (f_slices_Grow_int__nil : Int → (List Int)) (g_slices_Grow_int__nil : Int → Bool) (n m : Nat) (v0_0 : (List (List Int))) (v0_1 : Int) (v0_2 : (List (List Int))) (v0_3 : Int) (v0_4 : Int) : L_P_slices_Concat_int_0 f_slices_Grow_int__nil g_slices_Grow_int__nil n (m + 1) (S_slices_Concat_int_0 v0_0 v0_1 v0_2 v0_3 v0_4) = slices_Concat_int_P_L0 f_slices_Grow_int__nil g_slices_Grow_int__nil (fun r0 => some [⟨(.slice 3 (.int .i64)), r0⟩]) (fun v0_0 v0_1 v0_2 v0_3 v0_4 => L_P_slices_Concat_int_0 f_slices_Grow_int__nil g_slices_Grow_int__nil n m (S_slices_Concat_int_0 v0_0 v0_1 v0_2 v0_3 v0_4)) (fun v2_0 v2_1 v2_2 v2_3 => L_P_slices_Concat_int_2 f_slices_Grow_int__nil g_slices_Grow_int__nil n n (S_slices_Concat_int_2 v2_0 v2_1 v2_2 v2_3)) v0_0 v0_1 v0_2 v0_3 v0_4 := by kernel_rfl
theorem b_slices_Concat_int_0 (n m : Nat) (v0_0 : (List (List Int))) (v0_1 : Int) (v0_2 : (List (List Int))) (v0_3 : Int) (v0_4 : Int) : L_slices_Concat_int_0 n (m + 1) (S_slices_Concat_int_0 v0_0 v0_1 v0_2 v0_3 v0_4) = slices_Concat_int_L0 (fun r0 => some [⟨(.slice 3 (.int .i64)), r0⟩]) (fun v0_0 v0_1 v0_2 v0_3 v0_4 => L_slices_Concat_int_0 n m (S_slices_Concat_int_0 v0_0 v0_1 v0_2 v0_3 v0_4)) (fun v2_0 v2_1 v2_2 v2_3 => L_slices_Concat_int_2 n n (S_slices_Concat_int_2 v2_0 v2_1 v2_2 v2_3)) v0_0 v0_1 v0_2 v0_3 v0_4 := bP_slices_Concat_int_0 N.slices_Grow_int__nil G.slices_Grow_int__nil n m v0_0 v0_1 v0_2 v0_3 v0_4
theorem bP_slices_Concat_int_2 (f_slices_Grow_int__nil : Int → (List Int)) (g_slices_Grow_int__nil : Int → Bool) (n m : Nat) (v2_0 : (List (List Int))) (v2_1 : Int) (v2_2 : Int) (v2_3 : (List Int)) : L_P_slices_Concat_int_2 f_slices_Grow_int__nil g_slices_Grow_int__nil n (m + 1) (S_slices_Concat_int_2 v2_0 v2_1 v2_2 v2_3) = slices_Concat_int_P_L2 f_slices_Grow_int__nil g_slices_Grow_int__nil (fun r0 => some [⟨(.slice 3 (.int .i64)), r0⟩]) (fun v2_0 v2_1 v2_2 v2_3 => L_P_slices_Concat_int_2 f_slices_Grow_int__nil g_slices_Grow_int__nil n m (S_slices_Concat_int_2 v2_0 v2_1 v2_2 v2_3)) v2_0 v2_1 v2_2 v2_3 := by kernel_rfl
theorem b_slices_Concat_int_2 (n m : Nat) (v2_0 : (List (List Int))) (v2_1 : Int) (v2_2 : Int) (v2_3 : (List Int)) : L_slices_Concat_int_2 n (m + 1) (S_slices_Concat_int_2 v2_0 v2_1 v2_2 v2_3) = slices_Concat_int_L2 (fun r0 => some [⟨(.slice 3 (.int .i64)), r0⟩]) (fun v2_0 v2_1 v2_2 v2_3 => L_slices_Concat_int_2 n m (S_slices_Concat_int_2 v2_0 v2_1 v2_2 v2_3)) v2_0 v2_1 v2_2 v2_3 := bP_slices_Concat_int_2 N.slices_Grow_int__nil G.slices_Grow_int__nil n m v2_0 v2_1 v2_2 v2_3
theorem aP_slices_Concat_int (f_slices_Grow_int__nil : Int → (List Int)) (g_slices_Grow_int__nil : Int → Bool) (n : Nat) (a0 : (List (List Int))) : absF tab sigs (OP_slices_Concat_int f_slices_Grow_int__nil g_slices_Grow_int__nil) A_slices_Concat_int Try.f133 [((.slice 3 (.int .i64)), (.own 0))] n [.val (.slice 22 (.slice 3 (.int .i64))) a0] = slices_Concat_int_P f_slices_Grow_int__nil g_slices_Grow_int__nil (fun r0 => some [⟨(.slice 3 (.int .i64)), r0⟩]) (fun v0_0 v0_1 v0_2 v0_3 v0_4 => L_P_slices_Concat_int_0 f_slices_Grow_int__nil g_slices_Grow_int__nil n n (S_slices_Concat_int_0 v0_0 v0_1 v0_2 v0_3 v0_4)) a0 := by kernel_rfl
theorem a_slices_Concat_int (n : Nat) (a0 : (List (List Int))) : absF tab sigs O_slices_Concat_int A_slices_Concat_int Try.f133 [((.slice 3 (.int .i64)), (.own 0))] n [.val (.slice 22 (.slice 3 (.int .i64))) a0] = slices_Concat_int (fun r0 => some [⟨(.slice 3 (.int .i64)), r0⟩]) (fun v0_0 v0_1 v0_2 v0_3 v0_4 => L_slices_Concat_int_0 n n (S_slices_Concat_int_0 v0_0 v0_1 v0_2 v0_3 v0_4)) a0 := aP_slices_Concat_int N.slices_Grow_int__nil G.slices_Grow_int__nil n a0
theorem said_slices_Concat_int (a0 : (List (List Int))) (g : G.slices_Concat_int a0 = true) : Said Try.prog sigs_133 133 [.val (.slice 22 (.slice 3 (.int .i64))) a0] [⟨(.slice 3 (.int .i64)), N.slices_Concat_int a0⟩] := said_len (T := tab) (A := A_slices_Concat_int) tabOk ok_slices_Concat_int tabOk.follows Try.func133 (by kernel_rfl) (by kernel_rfl) (fun hl => let ⟨n, hn⟩ := slices_Concat_int_ok (ρ := Ret) (fun r0 => some [⟨(.slice 3 (.int .i64)), r0⟩]) a0 hl.1 g; ⟨n, (a_slices_Concat_int n a0).trans (hn n (Nat.le_refl n) (fun  m v0_0 v0_1 v0_2 v0_3 v0_4 => L_slices_Concat_int_0 n  m (S_slices_Concat_int_0 v0_0 v0_1 v0_2 v0_3 v0_4)) (fun  m v2_0 v2_1 v2_2 v2_3 => L_slices_Concat_int_2 n  m (S_slices_Concat_int_2 v2_0 v2_1 v2_2 v2_3)) (fun  m v0_0 v0_1 v0_2 v0_3 v0_4 => b_slices_Concat_int_0 n  m v0_0 v0_1 v0_2 v0_3 v0_4) (fun  m v2_0 v2_1 v2_2 v2_3 => b_slices_Concat_int_2 n  m v2_0 v2_1 v2_2 v2_3))⟩)
/-! impl.HeadInts -/
abbrev G.impl_HeadInts (h : THead) : Bool := decide (wH h ≤ 1048576)
abbrev N.impl_HeadInts (h : THead) : List Int := headInts h
def impl_HeadInts {ρ : Type} (k : (List Int) → Option ρ) (a0 : THead) : Option ρ := (cond (G.impl_KeysInts a0.2.2.2.2.2.2.2.2.1) (cond (G.impl_KeysInts a0.2.2.2.2.2.2.2.2.2.1) (cond (G.impl_KeysInts a0.2.2.2.2.2.2.2.2.2.2.2.1) (cond (G.slices_Concat_int [[a0.1, a0.2.1, a0.2.2.1, a0.2.2.2.1, a0.2.2.2.2.1, a0.2.2.2.2.2.1, a0.2.2.2.2.2.2.1, a0.2.2.2.2.2.2.2.1], (N.impl_KeysInts a0.2.2.2.2.2.2.2.2.1), (N.impl_KeysInts a0.2.2.2.2.2.2.2.2.2.1), [a0.2.2.2.2.2.2.2.2.2.2.1], (N.impl_KeysInts a0.2.2.2.2.2.2.2.2.2.2.2.1), [(N.impl_bit a0.2.2.2.2.2.2.2.2.2.2.2.2)]]) (k (N.slices_Concat_int [[a0.1, a0.2.1, a0.2.2.1, a0.2.2.2.1, a0.2.2.2.2.1, a0.2.2.2.2.2.1, a0.2.2.2.2.2.2.1, a0.2.2.2.2.2.2.2.1], (N.impl_KeysInts a0.2.2.2.2.2.2.2.2.1), (N.impl_KeysInts a0.2.2.2.2.2.2.2.2.2.1), [a0.2.2.2.2.2.2.2.2.2.2.1], (N.impl_KeysInts a0.2.2.2.2.2.2.2.2.2.2.2.1), [(N.impl_bit a0.2.2.2.2.2.2.2.2.2.2.2.2)]])) none) none) none) none)
theorem impl_HeadInts_ok {ρ : Type} (k : (List Int) → Option ρ) (a0 : THead) (l_a0 : (True ∧ (True ∧ (True ∧ (True ∧ (True ∧ (True ∧ (True ∧ (True ∧ ((lnL (fun _ => True) a0.2.2.2.2.2.2.2.2.1.1 ∧ True) ∧ ((lnL (fun _ => True) a0.2.2.2.2.2.2.2.2.2.1.1 ∧ True) ∧ (True ∧ ((lnL (fun _ => True) a0.2.2.2.2.2.2.2.2.2.2.2.1.1 ∧ True) ∧ True))))))))))))) (g : G.impl_HeadInts a0 = true) : impl_HeadInts k  a0 = k (N.impl_HeadInts a0) := by
  unfold G.impl_HeadInts at g
  have hw : wH a0 ≤ 1048576 := of_decide_eq_true g
  unfold wH at hw
  have g1 : decide (wK a0.2.2.2.2.2.2.2.2.1 ≤ 1048576) = true := decide_eq_true (by omega)
  have g2 : decide (wK a0.2.2.2.2.2.2.2.2.2.1 ≤ 1048576) = true := decide_eq_true (by omega)
  have g3 : decide (wK a0.2.2.2.2.2.2.2.2.2.2.2.1 ≤ 1048576) = true := decide_eq_true (by omega)
  have hf : ([[a0.1, a0.2.1, a0.2.2.1, a0.2.2.2.1, a0.2.2.2.2.1, a0.2.2.2.2.2.1, a0.2.2.2.2.2.2.1, a0.2.2.2.2.2.2.2.1], keysInts a0.2.2.2.2.2.2.2.2.1, keysInts a0.2.2.2.2.2.2.2.2.2.1, [a0.2.2.2.2.2.2.2.2.2.2.1], keysInts a0.2.2.2.2.2.2.2.2.2.2.2.1, [bitOf a0.2.2.2.2.2.2.2.2.2.2.2.2]] : List (List Int)).flatten = headInts a0 := by
    unfold headInts
    simp
  have g4 : (decide (([[a0.1, a0.2.1, a0.2.2.1, a0.2.2.2.1, a0.2.2.2.2.1, a0.2.2.2.2.2.1, a0.2.2.2.2.2.2.1, a0.2.2.2.2.2.2.2.1], keysInts a0.2.2.2.2.2.2.2.2.1, keysInts a0.2.2.2.2.2.2.2.2.2.1, [a0.2.2.2.2.2.2.2.2.2.2.1], keysInts a0.2.2.2.2.2.2.2.2.2.2.2.1, [bitOf a0.2.2.2.2.2.2.2.2.2.2.2.2]] : List (List Int)).length ≤ 64) && decide ((headInts a0).length ≤ 4194304)) = true := by
    have h1 := headInts_len a0
    unfold wH at h1
    rw [decide_eq_true (p := (headInts a0).length ≤ 4194304) (by omega)]
    rfl
  simp only [impl_HeadInts, G.impl_KeysInts, N.impl_KeysInts, N.impl_bit, g1, g2, g3, cond_true, G.slices_Concat_int, N.slices_Concat_int, hf, g4, N.impl_HeadInts]
def OP_impl_HeadInts (f_impl_KeysInts : TKeys → (List Int)) (g_impl_KeysInts : TKeys → Bool) (f_impl_bit : Bool → Int) (f_slices_Concat_int : (List (List Int)) → (List Int)) (g_slices_Concat_int : (List (List Int)) → Bool) : Orac := (orcX 133 [.val (.slice 22 (.slice 3 (.int .i64)))] (fun d => g_slices_Concat_int d.1) (fun d => [⟨(.slice 3 (.int .i64)), f_slices_Concat_int d.1⟩]) (orcX 134 [.val .bool] (fun d => true) (fun d => [⟨(.int .i64), f_impl_bit d.1⟩]) (orcX 106 [.val (.pair (.slice 3 (.int .i64)) (.int .i64))] (fun d => g_impl_KeysInts d.1) (fun d => [⟨(.slice 3 (.int .i64)), f_impl_KeysInts d.1⟩]) nilO)))
def O_impl_HeadInts : Orac := OP_impl_HeadInts N.impl_KeysInts G.impl_KeysInts N.impl_bit N.slices_Concat_int G.slices_Concat_int
def impl_HeadInts_P {ρ : Type} (f_impl_KeysInts : TKeys → (List Int)) (g_impl_KeysInts : TKeys → Bool) (f_impl_bit : Bool → Int) (f_slices_Concat_int : (List (List Int)) → (List Int)) (g_slices_Concat_int : (List (List Int)) → Bool) (k : (List Int) → Option ρ) (a0 : THead) : Option ρ := (cond (g_impl_KeysInts a0.2.2.2.2.2.2.2.2.1) (cond (g_impl_KeysInts a0.2.2.2.2.2.2.2.2.2.1) (cond (g_impl_KeysInts a0.2.2.2.2.2.2.2.2.2.2.2.1) (cond (g_slices_Concat_int [[a0.1, a0.2.1, a0.2.2.1, a0.2.2.2.1, a0.2.2.2.2.1, a0.2.2.2.2.2.1, a0.2.2.2.2.2.2.1, a0.2.2.2.2.2.2.2.1], (f_impl_KeysInts a0.2.2.2.2.2.2.2.2.1), (f_impl_KeysInts a0.2.2.2.2.2.2.2.2.2.1), [a0.2.2.2.2.2.2.2.2.2.2.1], (f_impl_KeysInts a0.2.2.2.2.2.2.2.2.2.2.2.1), [(f_impl_bit a0.2.2.2.2.2.2.2.2.2.2.2.2)]]) (k (f_slices_Concat_int [[a0.1, a0.2.1, a0.2.2.1, a0.2.2.2.1, a0.2.2.2.2.1, a0.2.2.2.2.2.1, a0.2.2.2.2.2.2.1, a0.2.2.2.2.2.2.2.1], (f_impl_KeysInts a0.2.2.2.2.2.2.2.2.1), (f_impl_KeysInts a0.2.2.2.2.2.2.2.2.2.1), [a0.2.2.2.2.2.2.2.2.2.2.1], (f_impl_KeysInts a0.2.2.2.2.2.2.2.2.2.2.2.1), [(f_impl_bit a0.2.2.2.2.2.2.2.2.2.2.2.2)]])) none) none) none) none)
theorem ok_impl_HeadInts : OracOk Try.prog sigs O_impl_HeadInts := (orcX_ok rfl (fun d g => said_slices_Concat_int d.1 g) (orcX_ok rfl (fun d g => said_impl_bit d.1) (orcX_ok rfl (fun d g => said_impl_KeysInts d.1 g) nilO_ok)))
def A_impl_HeadInts : Ann := fun b => ⟨[], []⟩
theorem aP_impl_HeadInts (f_impl_KeysInts : TKeys → (List Int)) (g_impl_KeysInts : TKeys → Bool) (f_impl_bit : Bool → Int) (f_slices_Concat_int : (List (List Int)) → (List Int)) (g_slices_Concat_int : (List (List Int)) → Bool) (n : Nat) (a0 : THead) : absF tab sigs (OP_impl_HeadInts f_impl_KeysInts g_impl_KeysInts f_impl_bit f_slices_Concat_int g_slices_Concat_int) A_impl_HeadInts Try.f118 [((.slice 3 (.int .i64)), (.own 0))] n [.val (.pair (.int .i64) (.pair (.int .i64) (.pair (.int .i64) (.pair (.int .i64) (.pair (.int .i64) (.pair (.int .i64) (.pair (.int .i64) (.pair (.int .i64) (.pair (.pair (.slice 3 (.int .i64)) (.int .i64)) (.pair (.pair (.slice 3 (.int .i64)) (.int .i64)) (.pair (.int .i64) (.pair (.pair (.slice 3 (.int .i64)) (.int .i64)) .bool)))))))))))) a0] = impl_HeadInts_P f_impl_KeysInts g_impl_KeysInts f_impl_bit f_slices_Concat_int g_slices_Concat_int (fun r0 => some [⟨(.slice 3 (.int .i64)), r0⟩])  a0 := by kernel_rfl
theorem a_impl_HeadInts (n : Nat) (a0 : THead) : absF tab sigs O_impl_HeadInts A_impl_HeadInts Try.f118 [((.slice 3 (.int .i64)), (.own 0))] n [.val (.pair (.int .i64) (.pair (.int .i64) (.pair (.int .i64) (.pair (.int .i64) (.pair (.int .i64) (.pair (.int .i64) (.pair (.int .i64) (.pair (.int .i64) (.pair (.pair (.slice 3 (.int .i64)) (.int .i64)) (.pair (.pair (.slice 3 (.int .i64)) (.int .i64)) (.pair (.int .i64) (.pair (.pair (.slice 3 (.int .i64)) (.int .i64)) .bool)))))))))))) a0] = impl_HeadInts (fun r0 => some [⟨(.slice 3 (.int .i64)), r0⟩])  a0 := aP_impl_HeadInts N.impl_KeysInts G.impl_KeysInts N.impl_bit N.slices_Concat_int G.slices_Concat_int n a0
theorem said_impl_HeadInts (a0 : THead) (g : G.impl_HeadInts a0 = true) : Said Try.prog sigs_118 118 [.val (.pair (.int .i64) (.pair (.int .i64) (.pair (.int .i64) (.pair (.int .i64) (.pair (.int .i64) (.pair (.int .i64) (.pair (.int .i64) (.pair (.int .i64) (.pair (.pair (.slice 3 (.int .i64)) (.int .i64)) (.pair (.pair (.slice 3 (.int .i64)) (.int .i64)) (.pair (.int .i64) (.pair (.pair (.slice 3 (.int .i64)) (.int .i64)) .bool)))))))))))) a0] [⟨(.slice 3 (.int .i64)), N.impl_HeadInts a0⟩] := said_len (T := tab) (A := A_impl_HeadInts) tabOk ok_impl_HeadInts tabOk.follows Try.func118 (by kernel_rfl) (by kernel_rfl) (fun hl => ⟨0, (a_impl_HeadInts 0 a0).trans (impl_HeadInts_ok (ρ := Ret) (fun r0 => some [⟨(.slice 3 (.int .i64)), r0⟩]) a0 hl.1 g)⟩)
end Go.Proofs.Ythcenfbfgjcikaa.Ref
