/- Functions of the program: what each computes, and that it does so.
   Conditions: as each theorem states. -/
import Derived.Test.YthgbcbnmdioknaaGreatSB3
set_option linter.unusedVariables false
set_option linter.unusedSimpArgs false
set_option maxRecDepth 100000
namespace Go.Proofs.YthgbcbnmdioknaaGreat.Ref
open Go.RowKit Go.Proofs.YthgbcbnmdioknaaGreatW.PrintWords Go.Proofs.YthgbcbnmdioknaaGreatW.PrintLast
abbrev G.impl_neighbourHolds (root count : Int) (e : TEntry) (p : TProof) (i : Int) : Bool := decide (wE e ≤ 1048576)
abbrev N.impl_neighbourHolds (root count : Int) (e : TEntry) (p : TProof) (i : Int) : Bool := cond (inR i 0 (IntKind.wrap .i64 (count - 1))) (checkEntry root count e p && p.1 == i) (noneAt e p)
def impl_neighbourHolds {ρ : Type} (k : Bool → Option ρ) (a0 : Int) (a1 : Int) (a2 : TEntry) (a3 : TProof) (a4 : Int) : Option ρ := (cond (!(N.impl_InRange a4 (0 : Int) (IntKind.wrap .i64 (a1 - (1 : Int))))) (cond (N.impl_isZeroEntry a2) (k (N.impl_isZeroProof a3)) (k false)) (cond (G.impl_CheckEntry a0 a1 a2 a3) (cond (N.impl_CheckEntry a0 a1 a2 a3) (k (a3.1 == a4)) (k false)) none))
theorem impl_neighbourHolds_ok {ρ : Type} (k : Bool → Option ρ) (a0 : Int) (a1 : Int) (a2 : TEntry) (a3 : TProof) (a4 : Int) (l_a2 : (True ∧ (True ∧ (True ∧ lnL (fun _ => True) a2.2.2.2)))) (l_a3 : (True ∧ lnL (fun _ => True) a3.2)) (g : G.impl_neighbourHolds a0 a1 a2 a3 a4 = true) : impl_neighbourHolds k  a0 a1 a2 a3 a4 = k (N.impl_neighbourHolds a0 a1 a2 a3 a4) := by
  unfold G.impl_neighbourHolds at g
  simp only [impl_neighbourHolds, N.impl_InRange, N.impl_isZeroEntry, N.impl_isZeroProof, G.impl_CheckEntry, N.impl_CheckEntry, N.impl_neighbourHolds, g, cond_true, noneAt]
  cases inR a4 0 (IntKind.wrap .i64 (a1 - 1)) <;> cases eqEntry a2 (ByteArray.empty, ((0 : Int), ((0 : Int), []))) <;> cases checkEntry a0 a1 a2 a3 <;> rfl
def OP_impl_neighbourHolds (f0 : Int → Int → Int → Bool) (f1 : TEntry → Bool) (f2 : TProof → Bool) (f3 : Int → Int → TEntry → TProof → Bool) (g3 : Int → Int → TEntry → TProof → Bool) : Orac := (orcX 96 [.val (.int .i64), .val (.int .i64), .val TyEntry, .val (.pair (.int .i64) (.slice 3 (.int .i64)))] (fun d => g3 d.1 d.2.1 d.2.2.1 d.2.2.2.1) (fun d => [⟨.bool, f3 d.1 d.2.1 d.2.2.1 d.2.2.2.1⟩]) (orcX 95 [.val (.pair (.int .i64) (.slice 3 (.int .i64)))] (fun d => true) (fun d => [⟨.bool, f2 d.1⟩]) (orcX 94 [.val TyEntry] (fun d => true) (fun d => [⟨.bool, f1 d.1⟩]) (orcX 45 [.val (.int .i64), .val (.int .i64), .val (.int .i64)] (fun d => true) (fun d => [⟨.bool, f0 d.1 d.2.1 d.2.2.1⟩]) nilO))))
def O_impl_neighbourHolds : Orac := OP_impl_neighbourHolds N.impl_InRange N.impl_isZeroEntry N.impl_isZeroProof N.impl_CheckEntry G.impl_CheckEntry
def impl_neighbourHolds_P {ρ : Type} (f0 : Int → Int → Int → Bool) (f1 : TEntry → Bool) (f2 : TProof → Bool) (f3 : Int → Int → TEntry → TProof → Bool) (g3 : Int → Int → TEntry → TProof → Bool) (k : Bool → Option ρ) (a0 : Int) (a1 : Int) (a2 : TEntry) (a3 : TProof) (a4 : Int) : Option ρ := (cond (!(f0 a4 (0 : Int) (IntKind.wrap .i64 (a1 - (1 : Int))))) (cond (f1 a2) (k (f2 a3)) (k false)) (cond (g3 a0 a1 a2 a3) (cond (f3 a0 a1 a2 a3) (k (a3.1 == a4)) (k false)) none))
theorem ok_impl_neighbourHolds : OracOk Tryz.prog sigs O_impl_neighbourHolds := (orcX_ok rfl rfl (fun d g => said_impl_CheckEntry d.1 d.2.1 d.2.2.1 d.2.2.2.1 g) (orcX_ok rfl rfl (fun d g => said_impl_isZeroProof d.1) (orcX_ok rfl rfl (fun d g => said_impl_isZeroEntry d.1) (orcX_ok rfl rfl (fun d g => said_impl_InRange d.1 d.2.1 d.2.2.1) nilO_ok))))
def A_impl_neighbourHolds : Ann := fun b => ⟨[], []⟩
theorem aP_impl_neighbourHolds (f0 : Int → Int → Int → Bool) (f1 : TEntry → Bool) (f2 : TProof → Bool) (f3 : Int → Int → TEntry → TProof → Bool) (g3 : Int → Int → TEntry → TProof → Bool) (n : Nat) (a0 : Int) (a1 : Int) (a2 : TEntry) (a3 : TProof) (a4 : Int) : absF tab sigs (OP_impl_neighbourHolds f0 f1 f2 f3 g3) A_impl_neighbourHolds Tryz.f46 [(.bool, .no)] n [.val (.int .i64) a0, .val (.int .i64) a1, .val TyEntry a2, .val (.pair (.int .i64) (.slice 3 (.int .i64))) a3, .val (.int .i64) a4] = impl_neighbourHolds_P f0 f1 f2 f3 g3 (fun r0 => some [⟨.bool, r0⟩])  a0 a1 a2 a3 a4 := by kernel_rfl
theorem said_impl_neighbourHolds (a0 : Int) (a1 : Int) (a2 : TEntry) (a3 : TProof) (a4 : Int) (g : G.impl_neighbourHolds a0 a1 a2 a3 a4 = true) : Said Tryz.prog sigs_46 46 [.val (.int .i64) a0, .val (.int .i64) a1, .val TyEntry a2, .val (.pair (.int .i64) (.slice 3 (.int .i64))) a3, .val (.int .i64) a4] [⟨.bool, N.impl_neighbourHolds a0 a1 a2 a3 a4⟩] := said_len (T := tab) (A := A_impl_neighbourHolds) tabOk ok_impl_neighbourHolds tabOk.follows Tryz.func46 (by kernel_rfl) (by kernel_rfl) (fun hl => ⟨0, (aP_impl_neighbourHolds N.impl_InRange N.impl_isZeroEntry N.impl_isZeroProof N.impl_CheckEntry G.impl_CheckEntry 0 a0 a1 a2 a3 a4).trans (impl_neighbourHolds_ok (ρ := Ret) (fun r0 => some [⟨.bool, r0⟩]) a0 a1 a2 a3 a4 hl.2.2.1 hl.2.2.2.1 g)⟩)
abbrev G.impl_CheckAbsence (root count : Int) (s : ByteArray) (g : TGap) : Bool := gI count && (gS s && decide (wG g ≤ 1048576))
abbrev N.impl_CheckAbsence (root count : Int) (s : ByteArray) (g : TGap) : Bool := checkAbsence root count s g
def impl_CheckAbsence_P {ρ : Type} (f0 : ByteArray → Bool) (g0 : ByteArray → Bool) (f1 : Int → Int → Int → Bool) (f2 : (List TEntry) → Int) (g2 : (List TEntry) → Bool) (f3 : Int → Int → TEntry → TProof → Int → Bool) (g3 : Int → Int → TEntry → TProof → Int → Bool) (f4 : ByteArray → ByteArray → Int) (k : Bool → Option ρ) (a0 : Int) (a1 : Int) (a2 : ByteArray) (a3 : TGap) : Option ρ := (cond (g0 a2) (cond (!(f0 a2)) (k false) (cond (!(f1 a3.1 (0 : Int) a1)) (k false) (cond (a1 == (0 : Int)) (cond (g2 []) (cond (a0 != (f2 [])) (k false) (cond (g3 a0 a1 a3.2.1 a3.2.2.2.1 (IntKind.wrap .i64 (a3.1 - (1 : Int)))) (cond (!(f3 a0 a1 a3.2.1 a3.2.2.2.1 (IntKind.wrap .i64 (a3.1 - (1 : Int))))) (k false) (cond (g3 a0 a1 a3.2.2.1 a3.2.2.2.2 a3.1) (cond (!(f3 a0 a1 a3.2.2.1 a3.2.2.2.2 a3.1)) (k false) (cond (a3.1 == (0 : Int)) (cond (a3.1 == a1) (k true) (k (decide ((f4 a3.2.2.1.1 a2) > (0 : Int))))) (cond (decide ((f4 a3.2.1.1 a2) < (0 : Int))) (cond (a3.1 == a1) (k true) (k (decide ((f4 a3.2.2.1.1 a2) > (0 : Int))))) (k false)))) none)) none)) none) (cond (g3 a0 a1 a3.2.1 a3.2.2.2.1 (IntKind.wrap .i64 (a3.1 - (1 : Int)))) (cond (!(f3 a0 a1 a3.2.1 a3.2.2.2.1 (IntKind.wrap .i64 (a3.1 - (1 : Int))))) (k false) (cond (g3 a0 a1 a3.2.2.1 a3.2.2.2.2 a3.1) (cond (!(f3 a0 a1 a3.2.2.1 a3.2.2.2.2 a3.1)) (k false) (cond (a3.1 == (0 : Int)) (cond (a3.1 == a1) (k true) (k (decide ((f4 a3.2.2.1.1 a2) > (0 : Int))))) (cond (decide ((f4 a3.2.1.1 a2) < (0 : Int))) (cond (a3.1 == a1) (k true) (k (decide ((f4 a3.2.2.1.1 a2) > (0 : Int))))) (k false)))) none)) none)))) none)
def impl_CheckAbsence {ρ : Type} (k : Bool → Option ρ) (a0 : Int) (a1 : Int) (a2 : ByteArray) (a3 : TGap) : Option ρ := impl_CheckAbsence_P N.impl_IsLabel G.impl_IsLabel N.impl_InRange N.impl_RootOf G.impl_RootOf N.impl_neighbourHolds G.impl_neighbourHolds N.impl_CompareLabels k a0 a1 a2 a3
theorem impl_CheckAbsence_ok {ρ : Type} (k : Bool → Option ρ) (a0 : Int) (a1 : Int) (a2 : ByteArray) (a3 : TGap) (l_a3 : (True ∧ ((True ∧ (True ∧ (True ∧ lnL (fun _ => True) a3.2.1.2.2.2))) ∧ ((True ∧ (True ∧ (True ∧ lnL (fun _ => True) a3.2.2.1.2.2.2))) ∧ ((True ∧ lnL (fun _ => True) a3.2.2.2.1.2) ∧ (True ∧ lnL (fun _ => True) a3.2.2.2.2.2)))))) (g : G.impl_CheckAbsence a0 a1 a2 a3 = true) : impl_CheckAbsence k  a0 a1 a2 a3 = k (N.impl_CheckAbsence a0 a1 a2 a3) := by
  unfold G.impl_CheckAbsence at g
  have g' := (Bool.and_eq_true _ _).mp g
  have hc := gI_iff.1 g'.1
  have g2 := (Bool.and_eq_true _ _).mp g'.2
  have hw : wG a3 ≤ 1048576 := of_decide_eq_true g2.2
  unfold wG at hw
  have d1 : decide (wE a3.2.1 ≤ 1048576) = true := decide_eq_true (by omega)
  have d2 : decide (wE a3.2.2.1 ≤ 1048576) = true := decide_eq_true (by omega)
  have d3 : G.impl_IsLabel a2 = true := g2.1
  have d4 : G.impl_RootOf [] = true := by decide
  show impl_CheckAbsence k a0 a1 a2 a3 = k (checkAbsence a0 a1 a2 a3)
  unfold checkAbsence
  simp only [impl_CheckAbsence, impl_CheckAbsence_P, d3, d4, N.impl_IsLabel, N.impl_InRange, N.impl_RootOf, G.impl_neighbourHolds, N.impl_neighbourHolds, N.impl_CompareLabels, d1, d2, cond_true, cmpStr_neg, cmpStr_pos]
  cases isLabel a2
  · rfl
  cases hr : inR a3.1 0 a1 with
  | false => rfl
  | true =>
    have hr2 : 0 ≤ a3.1 ∧ a3.1 ≤ a1 := by simpa [inR] using hr
    rw [wrap_id (n := a3.1 - 1) (by omega) (by omega), wrap_id (n := a1 - 1) (by omega) (by omega)]
    have y1 : inR (a3.1 - 1) 0 (a1 - 1) = !(a3.1 == 0) := by
      unfold inR
      by_cases h : a3.1 = 0
      · simp [h]
      · have e1 : (a3.1 == 0) = false := by simpa using h
        rw [e1, decide_eq_true (p := 0 ≤ a3.1 - 1) (by omega), decide_eq_true (by omega)]; rfl
    have y2 : inR a3.1 0 (a1 - 1) = !(a3.1 == a1) := by
      unfold inR
      by_cases h : a3.1 = a1
      · have e1 : (a3.1 == a1) = true := by simpa using h
        rw [e1, decide_eq_false (p := a3.1 ≤ a1 - 1) (by omega)]; simp
      · have e1 : (a3.1 == a1) = false := by simpa using h
        rw [e1, decide_eq_true hr2.1, decide_eq_true (by omega)]; rfl
    rw [y1, y2]
    simp only [bne, Bool.not_true, Bool.not_false, cond_true, cond_false, Bool.true_and]
    exact absence_impl k _ _ _ _ _ _ _ _ _ _ _ _
def OP_impl_CheckAbsence (f0 : ByteArray → Bool) (g0 : ByteArray → Bool) (f1 : Int → Int → Int → Bool) (f2 : (List TEntry) → Int) (g2 : (List TEntry) → Bool) (f3 : Int → Int → TEntry → TProof → Int → Bool) (g3 : Int → Int → TEntry → TProof → Int → Bool) (f4 : ByteArray → ByteArray → Int) : Orac := (orcX 47 [.val .str, .val .str] (fun d => true) (fun d => [⟨(.int .i64), f4 d.1 d.2.1⟩]) (orcX 46 [.val (.int .i64), .val (.int .i64), .val TyEntry, .val (.pair (.int .i64) (.slice 3 (.int .i64))), .val (.int .i64)] (fun d => g3 d.1 d.2.1 d.2.2.1 d.2.2.2.1 d.2.2.2.2.1) (fun d => [⟨.bool, f3 d.1 d.2.1 d.2.2.1 d.2.2.2.1 d.2.2.2.2.1⟩]) (orcX 10 [.val (.slice 29 TyEntry)] (fun d => g2 d.1) (fun d => [⟨(.int .i64), f2 d.1⟩]) (orcX 45 [.val (.int .i64), .val (.int .i64), .val (.int .i64)] (fun d => true) (fun d => [⟨.bool, f1 d.1 d.2.1 d.2.2.1⟩]) (orcX 30 [.val .str] (fun d => g0 d.1) (fun d => [⟨.bool, f0 d.1⟩]) nilO)))))
def O_impl_CheckAbsence : Orac := OP_impl_CheckAbsence N.impl_IsLabel G.impl_IsLabel N.impl_InRange N.impl_RootOf G.impl_RootOf N.impl_neighbourHolds G.impl_neighbourHolds N.impl_CompareLabels
theorem ok_impl_CheckAbsence : OracOk Tryz.prog sigs O_impl_CheckAbsence := (orcX_ok rfl rfl (fun d g => said_impl_CompareLabels d.1 d.2.1) (orcX_ok rfl rfl (fun d g => said_impl_neighbourHolds d.1 d.2.1 d.2.2.1 d.2.2.2.1 d.2.2.2.2.1 g) (orcX_ok rfl rfl (fun d g => said_impl_RootOf d.1 g) (orcX_ok rfl rfl (fun d g => said_impl_InRange d.1 d.2.1 d.2.2.1) (orcX_ok rfl rfl (fun d g => said_impl_IsLabel d.1 g) nilO_ok)))))
def A_impl_CheckAbsence : Ann := fun b => ⟨[], []⟩
theorem aP_impl_CheckAbsence (f0 : ByteArray → Bool) (g0 : ByteArray → Bool) (f1 : Int → Int → Int → Bool) (f2 : (List TEntry) → Int) (g2 : (List TEntry) → Bool) (f3 : Int → Int → TEntry → TProof → Int → Bool) (g3 : Int → Int → TEntry → TProof → Int → Bool) (f4 : ByteArray → ByteArray → Int) (n : Nat) (a0 : Int) (a1 : Int) (a2 : ByteArray) (a3 : TGap) : absF tab sigs (OP_impl_CheckAbsence f0 g0 f1 f2 g2 f3 g3 f4) A_impl_CheckAbsence Tryz.f11 [(.bool, .no)] n [.val (.int .i64) a0, .val (.int .i64) a1, .val .str a2, .val (.pair (.int .i64) (.pair TyEntry (.pair TyEntry (.pair (.pair (.int .i64) (.slice 3 (.int .i64))) (.pair (.int .i64) (.slice 3 (.int .i64))))))) a3] = impl_CheckAbsence_P f0 g0 f1 f2 g2 f3 g3 f4 (fun r0 => some [⟨.bool, r0⟩])  a0 a1 a2 a3 := by kernel_rfl
theorem said_impl_CheckAbsence (a0 : Int) (a1 : Int) (a2 : ByteArray) (a3 : TGap) (g : G.impl_CheckAbsence a0 a1 a2 a3 = true) : Said Tryz.prog sigs_11 11 [.val (.int .i64) a0, .val (.int .i64) a1, .val .str a2, .val (.pair (.int .i64) (.pair TyEntry (.pair TyEntry (.pair (.pair (.int .i64) (.slice 3 (.int .i64))) (.pair (.int .i64) (.slice 3 (.int .i64))))))) a3] [⟨.bool, N.impl_CheckAbsence a0 a1 a2 a3⟩] := said_len (T := tab) (A := A_impl_CheckAbsence) tabOk ok_impl_CheckAbsence tabOk.follows Tryz.func11 (by kernel_rfl) (by kernel_rfl) (fun hl => ⟨0, (aP_impl_CheckAbsence N.impl_IsLabel G.impl_IsLabel N.impl_InRange N.impl_RootOf G.impl_RootOf N.impl_neighbourHolds G.impl_neighbourHolds N.impl_CompareLabels 0 a0 a1 a2 a3).trans (impl_CheckAbsence_ok (ρ := Ret) (fun r0 => some [⟨.bool, r0⟩]) a0 a1 a2 a3 hl.2.2.2.1 g)⟩)
abbrev N.spec_l10Root (n top : Int) : Int := rootFrom n top
def spec_l10Root {ρ : Type} (k : Int → Option ρ) (a0 : Int) (a1 : Int) : Option ρ := (k (N.spec_Hash [(231 : Int), a0, a1]))
theorem spec_l10Root_ok {ρ : Type} (k : Int → Option ρ) (a0 : Int) (a1 : Int) : spec_l10Root k  a0 a1 = k (N.spec_l10Root a0 a1) := by
  rfl
def OP_spec_l10Root (f0 : (List Int) → Int) : Orac := (orcX 77 [.val (.slice 3 (.int .i64))] (fun d => true) (fun d => [⟨(.int .i64), f0 d.1⟩]) nilO)
def O_spec_l10Root : Orac := OP_spec_l10Root N.spec_Hash
def spec_l10Root_P {ρ : Type} (f0 : (List Int) → Int) (k : Int → Option ρ) (a0 : Int) (a1 : Int) : Option ρ := (k (f0 [(231 : Int), a0, a1]))
theorem ok_spec_l10Root : OracOk Tryz.prog sigs O_spec_l10Root := (orcX_ok rfl rfl (fun d g => said_spec_Hash d.1) nilO_ok)
def A_spec_l10Root : Ann := fun b => ⟨[], []⟩
theorem aP_spec_l10Root (f0 : (List Int) → Int) (n : Nat) (a0 : Int) (a1 : Int) : absF tab sigs (OP_spec_l10Root f0) A_spec_l10Root Tryz.f103 [((.int .i64), .no)] n [.val (.int .i64) a0, .val (.int .i64) a1] = spec_l10Root_P f0 (fun r0 => some [⟨(.int .i64), r0⟩])  a0 a1 := by kernel_rfl
theorem said_spec_l10Root (a0 : Int) (a1 : Int) : Said Tryz.prog sigs_103 103 [.val (.int .i64) a0, .val (.int .i64) a1] [⟨(.int .i64), N.spec_l10Root a0 a1⟩] := said_len (T := tab) (A := A_spec_l10Root) tabOk ok_spec_l10Root tabOk.follows Tryz.func103 (by kernel_rfl) (by kernel_rfl) (fun hl => ⟨0, (aP_spec_l10Root N.spec_Hash 0 a0 a1).trans (spec_l10Root_ok (ρ := Ret) (fun r0 => some [⟨(.int .i64), r0⟩]) a0 a1)⟩)
abbrev G.spec_RootOf (l : List TEntry) : Bool := decide (wEs l ≤ 1048576)
abbrev N.spec_RootOf (l : List TEntry) : Int := rootOf l
def spec_RootOf {ρ : Type} (k : Int → Option ρ) (a0 : (List TEntry)) : Option ρ := (cond (G.spec_LeavesOf a0) (cond (G.spec_TopOf (N.spec_LeavesOf a0)) (k (N.spec_l10Root (List.length a0 : Int) (N.spec_TopOf (N.spec_LeavesOf a0)))) none) none)
theorem spec_RootOf_ok {ρ : Type} (k : Int → Option ρ) (a0 : (List TEntry)) (l_a0 : lnL (fun y => (True ∧ (True ∧ (True ∧ lnL (fun _ => True) y.2.2.2)))) a0) (g : G.spec_RootOf a0 = true) : spec_RootOf k  a0 = k (N.spec_RootOf a0) := by
  unfold G.spec_RootOf at g
  have hw : wEs a0 ≤ 1048576 := of_decide_eq_true g
  have hl : decide ((a0.map leafOf).length ≤ 1048576) = true := by unfold wEs at hw; simp; omega
  show cond (decide (wEs a0 ≤ 1048576)) (cond (decide ((a0.map leafOf).length ≤ 1048576)) _ none) none = _
  rw [g, hl]
  rfl
def OP_spec_RootOf (f0 : (List TEntry) → (List Int)) (g0 : (List TEntry) → Bool) (f1 : (List Int) → Int) (g1 : (List Int) → Bool) (f2 : Int → Int → Int) : Orac := (orcX 103 [.val (.int .i64), .val (.int .i64)] (fun d => true) (fun d => [⟨(.int .i64), f2 d.1 d.2.1⟩]) (orcX 104 [.val (.slice 3 (.int .i64))] (fun d => g1 d.1) (fun d => [⟨(.int .i64), f1 d.1⟩]) (orcX 88 [.val (.slice 29 TyEntry)] (fun d => g0 d.1) (fun d => [⟨(.slice 3 (.int .i64)), f0 d.1⟩]) nilO)))
def O_spec_RootOf : Orac := OP_spec_RootOf N.spec_LeavesOf G.spec_LeavesOf N.spec_TopOf G.spec_TopOf N.spec_l10Root
def spec_RootOf_P {ρ : Type} (f0 : (List TEntry) → (List Int)) (g0 : (List TEntry) → Bool) (f1 : (List Int) → Int) (g1 : (List Int) → Bool) (f2 : Int → Int → Int) (k : Int → Option ρ) (a0 : (List TEntry)) : Option ρ := (cond (g0 a0) (cond (g1 (f0 a0)) (k (f2 (List.length a0 : Int) (f1 (f0 a0)))) none) none)
theorem ok_spec_RootOf : OracOk Tryz.prog sigs O_spec_RootOf := (orcX_ok rfl rfl (fun d g => said_spec_l10Root d.1 d.2.1) (orcX_ok rfl rfl (fun d g => said_spec_TopOf d.1 g) (orcX_ok rfl rfl (fun d g => said_spec_LeavesOf d.1 g) nilO_ok)))
def A_spec_RootOf : Ann := fun b => ⟨[], []⟩
theorem aP_spec_RootOf (f0 : (List TEntry) → (List Int)) (g0 : (List TEntry) → Bool) (f1 : (List Int) → Int) (g1 : (List Int) → Bool) (f2 : Int → Int → Int) (n : Nat) (a0 : (List TEntry)) : absF tab sigs (OP_spec_RootOf f0 g0 f1 g1 f2) A_spec_RootOf Tryz.f52 [((.int .i64), .no)] n [.val (.slice 29 TyEntry) a0] = spec_RootOf_P f0 g0 f1 g1 f2 (fun r0 => some [⟨(.int .i64), r0⟩])  a0 := by kernel_rfl
theorem said_spec_RootOf (a0 : (List TEntry)) (g : G.spec_RootOf a0 = true) : Said Tryz.prog sigs_52 52 [.val (.slice 29 TyEntry) a0] [⟨(.int .i64), N.spec_RootOf a0⟩] := said_len (T := tab) (A := A_spec_RootOf) tabOk ok_spec_RootOf tabOk.follows Tryz.func52 (by kernel_rfl) (by kernel_rfl) (fun hl => ⟨0, (aP_spec_RootOf N.spec_LeavesOf G.spec_LeavesOf N.spec_TopOf G.spec_TopOf N.spec_l10Root 0 a0).trans (spec_RootOf_ok (ρ := Ret) (fun r0 => some [⟨(.int .i64), r0⟩]) a0 hl.1 g)⟩)
abbrev G.spec_l11Bent (c : TCur) (p : TProof) : Bool := okC c && decide (p.2.length ≤ 1048576)
abbrev N.spec_l11Bent (c : TCur) (p : TProof) : TCur × TProof := bentP c p
def spec_l11Bent_P {ρ : Type} (f0 : TCur → Int → (TCur × Int)) (g0 : TCur → Int → Bool) (f1 : TCur → (List Int) → (TCur × Int)) (g1 : TCur → (List Int) → Bool) (k : TCur → TProof → Option ρ) (a0 : TCur) (a1 : TProof) : Option ρ := (cond (g0 a0 (8 : Int)) (cond ((f0 a0 (8 : Int)).2 == (0 : Int)) (cond (g1 (f0 a0 (8 : Int)).1 [(-1 : Int), (0 : Int), (1 : Int), (99 : Int)]) (k (f1 (f0 a0 (8 : Int)).1 [(-1 : Int), (0 : Int), (1 : Int), (99 : Int)]).1 ((f1 (f0 a0 (8 : Int)).1 [(-1 : Int), (0 : Int), (1 : Int), (99 : Int)]).2, a1.2)) none) (cond ((f0 a0 (8 : Int)).2 == (1 : Int)) (cond (decide ((List.length a1.2 : Int) > (0 : Int))) (cond (inRange (0 : Int) (List.length a1.2)) (cond (inRange (0 : Int) (List.length a1.2)) (cond (inRange (0 : Int) (List.length a1.2)) (cond (inRange (0 : Int) (List.length a1.2)) (k (f0 a0 (8 : Int)).1 (a1.1, (List.set a1.2 (Int.toNat (0 : Int)) (IntKind.wrap .i64 ((List.getD a1.2 0 (0 : Int)) + (1 : Int)))))) none) none) none) none) (k (f0 a0 (8 : Int)).1 a1)) (cond ((f0 a0 (8 : Int)).2 == (2 : Int)) (cond (fit (List.length a1.2) (List.length [(1 : Int)])) (k (f0 a0 (8 : Int)).1 (a1.1, (List.append a1.2 [(1 : Int)]))) none) (k (f0 a0 (8 : Int)).1 a1)))) none)
def spec_l11Bent {ρ : Type} (k : TCur → TProof → Option ρ) (a0 : TCur) (a1 : TProof) : Option ρ := spec_l11Bent_P N.spec_l1Below G.spec_l1Below N.spec_l1Int G.spec_l1Int k a0 a1
theorem spec_l11Bent_ok {ρ : Type} (k : TCur → TProof → Option ρ) (a0 : TCur) (a1 : TProof) (l_a0 : (lnL (fun _ => True) a0.1 ∧ (True ∧ True))) (l_a1 : (True ∧ lnL (fun _ => True) a1.2)) (g : G.spec_l11Bent a0 a1 = true) : spec_l11Bent k  a0 a1 = k (N.spec_l11Bent a0 a1).1 (N.spec_l11Bent a0 a1).2 := by
  unfold G.spec_l11Bent at g
  obtain ⟨g1, g2⟩ := (Bool.and_eq_true _ _).mp g
  have g2 := of_decide_eq_true g2
  have h1 := okC_below 8 g1
  have f1 : fit (List.length a1.2) 1 = true := fit_of (by omega)
  simp only [spec_l11Bent, spec_l11Bent_P, G.spec_l1Below, N.spec_l1Below, G.spec_l1Int, N.spec_l1Int, g1, h1, f1, List.length_cons, List.length_nil, Nat.zero_add, Nat.reduceAdd, Nat.reduceLT, decide_true, Bool.and_true, cond_true]
  show _ = k (bentPq (belowC a0 8) a1).1 (bentPq (belowC a0 8) a1).2
  unfold bentPq
  cases ((belowC a0 8).2 == 0) with
  | true => rfl
  | false =>
    cases ((belowC a0 8).2 == 1) with
    | true =>
      cases hd : decide ((a1.2.length : Int) > 0) with
      | false => rfl
      | true =>
        have hi : inRange (0 : Int) (List.length a1.2) = true := by
          have := of_decide_eq_true hd
          unfold inRange
          rw [decide_eq_true (show (0 : Int) ≤ 0 by omega), decide_eq_true (show (0 : Int) < (a1.2.length : Int) by omega)]
          rfl
        simp only [hi, cond_true, cond_false]
        rfl
    | false => cases ((belowC a0 8).2 == 2) <;> rfl
def OP_spec_l11Bent (f0 : TCur → Int → (TCur × Int)) (g0 : TCur → Int → Bool) (f1 : TCur → (List Int) → (TCur × Int)) (g1 : TCur → (List Int) → Bool) : Orac := (orcX 59 [.lend (.pair (.slice 5 (.int .u8)) (.pair (.int .i64) (.int .i64))) .no, .val (.slice 3 (.int .i64))] (fun d => g1 d.1 d.2.1) (fun d => [⟨(.pair (.slice 5 (.int .u8)) (.pair (.int .i64) (.int .i64))), (f1 d.1 d.2.1).1⟩, ⟨(.int .i64), (f1 d.1 d.2.1).2⟩]) (orcX 51 [.lend (.pair (.slice 5 (.int .u8)) (.pair (.int .i64) (.int .i64))) .no, .val (.int .i64)] (fun d => g0 d.1 d.2.1) (fun d => [⟨(.pair (.slice 5 (.int .u8)) (.pair (.int .i64) (.int .i64))), (f0 d.1 d.2.1).1⟩, ⟨(.int .i64), (f0 d.1 d.2.1).2⟩]) nilO))
def O_spec_l11Bent : Orac := OP_spec_l11Bent N.spec_l1Below G.spec_l1Below N.spec_l1Int G.spec_l1Int
theorem ok_spec_l11Bent : OracOk Tryz.prog sigs O_spec_l11Bent := (orcB_ok rfl (fun d g => said_spec_l1Int d.1 d.2.1 g) (orcB_ok rfl (fun d g => said_spec_l1Below d.1 d.2.1 g) nilO_ok))
def A_spec_l11Bent : Ann := fun b => ⟨[], []⟩
theorem aP_spec_l11Bent (f0 : TCur → Int → (TCur × Int)) (g0 : TCur → Int → Bool) (f1 : TCur → (List Int) → (TCur × Int)) (g1 : TCur → (List Int) → Bool) (n : Nat) (a0 : TCur) (a1 : TProof) : absFB tab sigs (OP_spec_l11Bent f0 g0 f1 g1) A_spec_l11Bent Tryz.f105 [((.pair (.int .i64) (.slice 3 (.int .i64))), .no)] n (.pair (.slice 5 (.int .u8)) (.pair (.int .i64) (.int .i64))) a0 [.lend (.pair (.int .i64) (.slice 3 (.int .i64))) a1 (.pair .no (.own 0))] = spec_l11Bent_P f0 g0 f1 g1 (fun r0 r1 => some [⟨(.pair (.slice 5 (.int .u8)) (.pair (.int .i64) (.int .i64))), r0⟩, ⟨(.pair (.int .i64) (.slice 3 (.int .i64))), r1⟩])  a0 a1 := by kernel_rfl
theorem said_spec_l11Bent (a0 : TCur) (a1 : TProof) (g : G.spec_l11Bent a0 a1 = true) : SaidP Tryz.prog sigs_105 105 (.pair (.slice 5 (.int .u8)) (.pair (.int .i64) (.int .i64))) a0 [.lend (.pair (.int .i64) (.slice 3 (.int .i64))) a1 (.pair .no (.own 0))] [⟨(.pair (.slice 5 (.int .u8)) (.pair (.int .i64) (.int .i64))), (N.spec_l11Bent a0 a1).1⟩, ⟨(.pair (.int .i64) (.slice 3 (.int .i64))), (N.spec_l11Bent a0 a1).2⟩] := said_lenB (T := tab) (A := A_spec_l11Bent) tabOk ok_spec_l11Bent tabOk.follows Tryz.func105 (by kernel_rfl) (by kernel_rfl) (fun hl => ⟨0, (aP_spec_l11Bent N.spec_l1Below G.spec_l1Below N.spec_l1Int G.spec_l1Int 0 a0 a1).trans (spec_l11Bent_ok (ρ := Ret) (fun r0 r1 => some [⟨(.pair (.slice 5 (.int .u8)) (.pair (.int .i64) (.int .i64))), r0⟩, ⟨(.pair (.int .i64) (.slice 3 (.int .i64))), r1⟩]) a0 a1 hl.1 hl.2.1 g)⟩)
abbrev G.spec_l12Bent (c : TCur) (g : TGap) : Bool := okC c && (decide (g.2.2.2.1.2.length ≤ 1048576) && decide (g.2.2.2.2.2.length ≤ 1048576))
abbrev N.spec_l12Bent (c : TCur) (g : TGap) : TCur × TGap := bentG c g
def spec_l12Bent_P {ρ : Type} (f0 : TCur → Int → (TCur × Int)) (g0 : TCur → Int → Bool) (f1 : TCur → (List Int) → (TCur × Int)) (g1 : TCur → (List Int) → Bool) (f2 : TCur → TProof → (TCur × TProof)) (g2 : TCur → TProof → Bool) (k : TCur → TGap → Option ρ) (a0 : TCur) (a1 : TGap) : Option ρ := (cond (g0 a0 (10 : Int)) (cond ((f0 a0 (10 : Int)).2 == (0 : Int)) (cond (g1 (f0 a0 (10 : Int)).1 [(-1 : Int), (0 : Int), (1 : Int), (99 : Int)]) (k (f1 (f0 a0 (10 : Int)).1 [(-1 : Int), (0 : Int), (1 : Int), (99 : Int)]).1 ((f1 (f0 a0 (10 : Int)).1 [(-1 : Int), (0 : Int), (1 : Int), (99 : Int)]).2, a1.2)) none) (cond ((f0 a0 (10 : Int)).2 == (1 : Int)) (cond (g2 (f0 a0 (10 : Int)).1 a1.2.2.2.1) (k (f2 (f0 a0 (10 : Int)).1 a1.2.2.2.1).1 (a1.1, (a1.2.1, (a1.2.2.1, ((f2 (f0 a0 (10 : Int)).1 a1.2.2.2.1).2, a1.2.2.2.2))))) none) (cond ((f0 a0 (10 : Int)).2 == (2 : Int)) (cond (g2 (f0 a0 (10 : Int)).1 a1.2.2.2.2) (k (f2 (f0 a0 (10 : Int)).1 a1.2.2.2.2).1 (a1.1, (a1.2.1, (a1.2.2.1, (a1.2.2.2.1, (f2 (f0 a0 (10 : Int)).1 a1.2.2.2.2).2))))) none) (cond ((f0 a0 (10 : Int)).2 == (3 : Int)) (k (f0 a0 (10 : Int)).1 (a1.1, ((ByteArray.empty, ((0 : Int), ((0 : Int), ([] : (List ByteArray))))), (a1.2.2.1, (((0 : Int), ([] : (List Int))), a1.2.2.2.2))))) (k (f0 a0 (10 : Int)).1 a1))))) none)
def spec_l12Bent {ρ : Type} (k : TCur → TGap → Option ρ) (a0 : TCur) (a1 : TGap) : Option ρ := spec_l12Bent_P N.spec_l1Below G.spec_l1Below N.spec_l1Int G.spec_l1Int N.spec_l11Bent G.spec_l11Bent k a0 a1
theorem spec_l12Bent_ok {ρ : Type} (k : TCur → TGap → Option ρ) (a0 : TCur) (a1 : TGap) (l_a0 : (lnL (fun _ => True) a0.1 ∧ (True ∧ True))) (l_a1 : (True ∧ ((True ∧ (True ∧ (True ∧ lnL (fun _ => True) a1.2.1.2.2.2))) ∧ ((True ∧ (True ∧ (True ∧ lnL (fun _ => True) a1.2.2.1.2.2.2))) ∧ ((True ∧ lnL (fun _ => True) a1.2.2.2.1.2) ∧ (True ∧ lnL (fun _ => True) a1.2.2.2.2.2)))))) (g : G.spec_l12Bent a0 a1 = true) : spec_l12Bent k  a0 a1 = k (N.spec_l12Bent a0 a1).1 (N.spec_l12Bent a0 a1).2 := by
  unfold G.spec_l12Bent at g
  obtain ⟨g1, g2⟩ := (Bool.and_eq_true _ _).mp g
  obtain ⟨g2, g3⟩ := (Bool.and_eq_true _ _).mp g2
  have h1 := okC_below 10 g1
  simp only [spec_l12Bent, spec_l12Bent_P, G.spec_l1Below, N.spec_l1Below, G.spec_l1Int, N.spec_l1Int, G.spec_l11Bent, N.spec_l11Bent, g1, g2, g3, h1, List.length_cons, List.length_nil, Nat.zero_add, Nat.reduceAdd, Nat.reduceLT, decide_true, Bool.and_true, Bool.and_self, cond_true]
  show _ = k (bentGq (belowC a0 10) a1).1 (bentGq (belowC a0 10) a1).2
  unfold bentGq
  cases ((belowC a0 10).2 == 0) with
  | true => rfl
  | false =>
    cases ((belowC a0 10).2 == 1) with
    | true => rfl
    | false =>
      cases ((belowC a0 10).2 == 2) with
      | true => rfl
      | false => cases ((belowC a0 10).2 == 3) <;> rfl
def OP_spec_l12Bent (f0 : TCur → Int → (TCur × Int)) (g0 : TCur → Int → Bool) (f1 : TCur → (List Int) → (TCur × Int)) (g1 : TCur → (List Int) → Bool) (f2 : TCur → TProof → (TCur × TProof)) (g2 : TCur → TProof → Bool) : Orac := (orcX 105 [.lend (.pair (.slice 5 (.int .u8)) (.pair (.int .i64) (.int .i64))) .no, .lend (.pair (.int .i64) (.slice 3 (.int .i64))) (.pair .no (.own 0))] (fun d => g2 d.1 d.2.1) (fun d => [⟨(.pair (.slice 5 (.int .u8)) (.pair (.int .i64) (.int .i64))), (f2 d.1 d.2.1).1⟩, ⟨(.pair (.int .i64) (.slice 3 (.int .i64))), (f2 d.1 d.2.1).2⟩]) (orcX 59 [.lend (.pair (.slice 5 (.int .u8)) (.pair (.int .i64) (.int .i64))) .no, .val (.slice 3 (.int .i64))] (fun d => g1 d.1 d.2.1) (fun d => [⟨(.pair (.slice 5 (.int .u8)) (.pair (.int .i64) (.int .i64))), (f1 d.1 d.2.1).1⟩, ⟨(.int .i64), (f1 d.1 d.2.1).2⟩]) (orcX 51 [.lend (.pair (.slice 5 (.int .u8)) (.pair (.int .i64) (.int .i64))) .no, .val (.int .i64)] (fun d => g0 d.1 d.2.1) (fun d => [⟨(.pair (.slice 5 (.int .u8)) (.pair (.int .i64) (.int .i64))), (f0 d.1 d.2.1).1⟩, ⟨(.int .i64), (f0 d.1 d.2.1).2⟩]) nilO)))
def O_spec_l12Bent : Orac := OP_spec_l12Bent N.spec_l1Below G.spec_l1Below N.spec_l1Int G.spec_l1Int N.spec_l11Bent G.spec_l11Bent
theorem ok_spec_l12Bent : OracOk Tryz.prog sigs O_spec_l12Bent := (orcB_ok rfl (fun d g => said_spec_l11Bent d.1 d.2.1 g) (orcB_ok rfl (fun d g => said_spec_l1Int d.1 d.2.1 g) (orcB_ok rfl (fun d g => said_spec_l1Below d.1 d.2.1 g) nilO_ok)))
def A_spec_l12Bent : Ann := fun b => ⟨[], []⟩
theorem aP_spec_l12Bent (f0 : TCur → Int → (TCur × Int)) (g0 : TCur → Int → Bool) (f1 : TCur → (List Int) → (TCur × Int)) (g1 : TCur → (List Int) → Bool) (f2 : TCur → TProof → (TCur × TProof)) (g2 : TCur → TProof → Bool) (n : Nat) (a0 : TCur) (a1 : TGap) : absFB tab sigs (OP_spec_l12Bent f0 g0 f1 g1 f2 g2) A_spec_l12Bent Tryz.f53 [((.pair (.int .i64) (.pair TyEntry (.pair TyEntry (.pair (.pair (.int .i64) (.slice 3 (.int .i64))) (.pair (.int .i64) (.slice 3 (.int .i64))))))), .no)] n (.pair (.slice 5 (.int .u8)) (.pair (.int .i64) (.int .i64))) a0 [.lend (.pair (.int .i64) (.pair TyEntry (.pair TyEntry (.pair (.pair (.int .i64) (.slice 3 (.int .i64))) (.pair (.int .i64) (.slice 3 (.int .i64))))))) a1 (.pair .no (.pair (.pair .no (.pair .no (.pair .no (.own 0)))) (.pair (.pair .no (.pair .no (.pair .no (.own 1)))) (.pair (.pair .no (.own 2)) (.pair .no (.own 3))))))] = spec_l12Bent_P f0 g0 f1 g1 f2 g2 (fun r0 r1 => some [⟨(.pair (.slice 5 (.int .u8)) (.pair (.int .i64) (.int .i64))), r0⟩, ⟨(.pair (.int .i64) (.pair TyEntry (.pair TyEntry (.pair (.pair (.int .i64) (.slice 3 (.int .i64))) (.pair (.int .i64) (.slice 3 (.int .i64))))))), r1⟩])  a0 a1 := by kernel_rfl
theorem said_spec_l12Bent (a0 : TCur) (a1 : TGap) (g : G.spec_l12Bent a0 a1 = true) : SaidP Tryz.prog sigs_53 53 (.pair (.slice 5 (.int .u8)) (.pair (.int .i64) (.int .i64))) a0 [.lend (.pair (.int .i64) (.pair TyEntry (.pair TyEntry (.pair (.pair (.int .i64) (.slice 3 (.int .i64))) (.pair (.int .i64) (.slice 3 (.int .i64))))))) a1 (.pair .no (.pair (.pair .no (.pair .no (.pair .no (.own 0)))) (.pair (.pair .no (.pair .no (.pair .no (.own 1)))) (.pair (.pair .no (.own 2)) (.pair .no (.own 3))))))] [⟨(.pair (.slice 5 (.int .u8)) (.pair (.int .i64) (.int .i64))), (N.spec_l12Bent a0 a1).1⟩, ⟨(.pair (.int .i64) (.pair TyEntry (.pair TyEntry (.pair (.pair (.int .i64) (.slice 3 (.int .i64))) (.pair (.int .i64) (.slice 3 (.int .i64))))))), (N.spec_l12Bent a0 a1).2⟩] := said_lenB (T := tab) (A := A_spec_l12Bent) tabOk ok_spec_l12Bent tabOk.follows Tryz.func53 (by kernel_rfl) (by kernel_rfl) (fun hl => ⟨0, (aP_spec_l12Bent N.spec_l1Below G.spec_l1Below N.spec_l1Int G.spec_l1Int N.spec_l11Bent G.spec_l11Bent 0 a0 a1).trans (spec_l12Bent_ok (ρ := Ret) (fun r0 r1 => some [⟨(.pair (.slice 5 (.int .u8)) (.pair (.int .i64) (.int .i64))), r0⟩, ⟨(.pair (.int .i64) (.pair TyEntry (.pair TyEntry (.pair (.pair (.int .i64) (.slice 3 (.int .i64))) (.pair (.int .i64) (.slice 3 (.int .i64))))))), r1⟩]) a0 a1 hl.1 hl.2.1 g)⟩)
abbrev G.spec_DrawCheckAbsence (l : List Int) : Bool := decide (l.length ≤ 1048576)
abbrev N.spec_DrawCheckAbsence (l : List Int) : Int × (Int × (ByteArray × TGap)) := absD l
def spec_DrawCheckAbsence_P {ρ : Type} (f0 : (List Int) → TCur) (g0 : (List Int) → Bool) (f1 : TCur → (TCur × (List TEntry))) (g1 : TCur → Bool) (f2 : TCur → (TCur × ByteArray)) (g2 : TCur → Bool) (f3 : (List TEntry) → ByteArray → (TGap × Bool)) (g3 : (List TEntry) → ByteArray → Bool) (f4 : TCur → Int → (TCur × Int)) (g4 : TCur → Int → Bool) (f5 : (List TEntry) → Int) (g5 : (List TEntry) → Bool) (f6 : TCur → TGap → (TCur × TGap)) (g6 : TCur → TGap → Bool) (k : Int → Int → ByteArray → TGap → Option ρ) (a0 : (List Int)) : Option ρ := (cond (g0 a0) (cond (g1 (f0 a0)) (cond (g2 (f1 (f0 a0)).1) (cond (g3 (f1 (f0 a0)).2 (f2 (f1 (f0 a0)).1).2) (cond (g4 (f2 (f1 (f0 a0)).1).1 (8 : Int)) (cond ((f4 (f2 (f1 (f0 a0)).1).1 (8 : Int)).2 == (0 : Int)) (cond (g2 (f4 (f2 (f1 (f0 a0)).1).1 (8 : Int)).1) (cond (g5 (f1 (f0 a0)).2) (cond (g6 (f2 (f4 (f2 (f1 (f0 a0)).1).1 (8 : Int)).1).1 (f3 (f1 (f0 a0)).2 (f2 (f1 (f0 a0)).1).2).1) (k (f5 (f1 (f0 a0)).2) (List.length (f1 (f0 a0)).2 : Int) (f2 (f4 (f2 (f1 (f0 a0)).1).1 (8 : Int)).1).2 (f6 (f2 (f4 (f2 (f1 (f0 a0)).1).1 (8 : Int)).1).1 (f3 (f1 (f0 a0)).2 (f2 (f1 (f0 a0)).1).2).1).2) none) none) none) (cond ((f4 (f2 (f1 (f0 a0)).1).1 (8 : Int)).2 == (1 : Int)) (cond (g5 (f1 (f0 a0)).2) (k (IntKind.wrap .i64 ((f5 (f1 (f0 a0)).2) + (1 : Int))) (List.length (f1 (f0 a0)).2 : Int) (f2 (f1 (f0 a0)).1).2 (f3 (f1 (f0 a0)).2 (f2 (f1 (f0 a0)).1).2).1) none) (cond ((f4 (f2 (f1 (f0 a0)).1).1 (8 : Int)).2 == (2 : Int)) (cond (g5 (f1 (f0 a0)).2) (k (f5 (f1 (f0 a0)).2) (IntKind.wrap .i64 ((List.length (f1 (f0 a0)).2 : Int) + (1 : Int))) (f2 (f1 (f0 a0)).1).2 (f3 (f1 (f0 a0)).2 (f2 (f1 (f0 a0)).1).2).1) none) (cond (g5 (f1 (f0 a0)).2) (cond (g6 (f4 (f2 (f1 (f0 a0)).1).1 (8 : Int)).1 (f3 (f1 (f0 a0)).2 (f2 (f1 (f0 a0)).1).2).1) (k (f5 (f1 (f0 a0)).2) (List.length (f1 (f0 a0)).2 : Int) (f2 (f1 (f0 a0)).1).2 (f6 (f4 (f2 (f1 (f0 a0)).1).1 (8 : Int)).1 (f3 (f1 (f0 a0)).2 (f2 (f1 (f0 a0)).1).2).1).2) none) none)))) none) none) none) none) none)
def spec_DrawCheckAbsence {ρ : Type} (k : Int → Int → ByteArray → TGap → Option ρ) (a0 : (List Int)) : Option ρ := spec_DrawCheckAbsence_P N.spec_l1New G.spec_l1New N.spec_l9List G.spec_l9List N.spec_l4Any G.spec_l4Any N.spec_ProveAbsence G.spec_ProveAbsence N.spec_l1Below G.spec_l1Below N.spec_RootOf G.spec_RootOf N.spec_l12Bent G.spec_l12Bent k a0
theorem spec_DrawCheckAbsence_ok {ρ : Type} (k : Int → Int → ByteArray → TGap → Option ρ) (a0 : (List Int)) (l_a0 : lnL (fun _ => True) a0) (g : G.spec_DrawCheckAbsence a0 = true) : spec_DrawCheckAbsence k  a0 = k (N.spec_DrawCheckAbsence a0).1 (N.spec_DrawCheckAbsence a0).2.1 (N.spec_DrawCheckAbsence a0).2.2.1 (N.spec_DrawCheckAbsence a0).2.2.2 := by
  unfold G.spec_DrawCheckAbsence at g
  have h0 := okC_new (of_decide_eq_true g)
  have h1 := okC_list h0
  have h2 := okC_anyL h1
  have h3 := okC_below 8 h2
  have h4 := okC_anyL h3
  have hw := listC_w (newC a0)
  have hs := anyL_le (listC (newC a0)).1
  have hp := proveAbsence_len (listC (newC a0)).2 (anyL (listC (newC a0)).1).2
  have d1 : decide (wEs (listC (newC a0)).2 ≤ 1048576) = true := decide_eq_true (by omega)
  have d2 : decide ((anyL (listC (newC a0)).1).2.size ≤ 1048576) = true := decide_eq_true (by omega)
  have d3 : decide ((proveAbsence (listC (newC a0)).2 (anyL (listC (newC a0)).1).2).1.2.2.2.1.2.length ≤ 1048576) = true := decide_eq_true (by have := hp.2.2.1; omega)
  have d4 : decide ((proveAbsence (listC (newC a0)).2 (anyL (listC (newC a0)).1).2).1.2.2.2.2.2.length ≤ 1048576) = true := decide_eq_true (by have := hp.2.2.2; omega)
  simp only [spec_DrawCheckAbsence, spec_DrawCheckAbsence_P, G.spec_l1New, N.spec_l1New, G.spec_l9List, N.spec_l9List, G.spec_l4Any, N.spec_l4Any, G.spec_ProveAbsence, N.spec_ProveAbsence, G.spec_l1Below, N.spec_l1Below, G.spec_RootOf, N.spec_RootOf, G.spec_l12Bent, N.spec_l12Bent, g, h0, h1, h2, h3, h4, d1, d2, d3, d4, Bool.and_self, cond_true]
  show _ = k (absDr (listC (newC a0))).1 (absDr (listC (newC a0))).2.1 (absDr (listC (newC a0))).2.2.1 (absDr (listC (newC a0))).2.2.2
  generalize listC (newC a0) = r
  unfold absDr absDp
  generalize belowC (anyL r.1).1 8 = q
  generalize anyL r.1 = u
  cases (q.2 == 0) with
  | true => simp only [cond_true]
  | false =>
    cases (q.2 == 1) with
    | true => simp only [cond_true, cond_false]
    | false => cases (q.2 == 2) <;> simp only [cond_true, cond_false]
def OP_spec_DrawCheckAbsence (f0 : (List Int) → TCur) (g0 : (List Int) → Bool) (f1 : TCur → (TCur × (List TEntry))) (g1 : TCur → Bool) (f2 : TCur → (TCur × ByteArray)) (g2 : TCur → Bool) (f3 : (List TEntry) → ByteArray → (TGap × Bool)) (g3 : (List TEntry) → ByteArray → Bool) (f4 : TCur → Int → (TCur × Int)) (g4 : TCur → Int → Bool) (f5 : (List TEntry) → Int) (g5 : (List TEntry) → Bool) (f6 : TCur → TGap → (TCur × TGap)) (g6 : TCur → TGap → Bool) : Orac := (orcX 53 [.lend (.pair (.slice 5 (.int .u8)) (.pair (.int .i64) (.int .i64))) .no, .lend (.pair (.int .i64) (.pair TyEntry (.pair TyEntry (.pair (.pair (.int .i64) (.slice 3 (.int .i64))) (.pair (.int .i64) (.slice 3 (.int .i64))))))) (.pair .no (.pair (.pair .no (.pair .no (.pair .no (.own 0)))) (.pair (.pair .no (.pair .no (.pair .no (.own 1)))) (.pair (.pair .no (.own 2)) (.pair .no (.own 3))))))] (fun d => g6 d.1 d.2.1) (fun d => [⟨(.pair (.slice 5 (.int .u8)) (.pair (.int .i64) (.int .i64))), (f6 d.1 d.2.1).1⟩, ⟨(.pair (.int .i64) (.pair TyEntry (.pair TyEntry (.pair (.pair (.int .i64) (.slice 3 (.int .i64))) (.pair (.int .i64) (.slice 3 (.int .i64))))))), (f6 d.1 d.2.1).2⟩]) (orcX 52 [.val (.slice 29 TyEntry)] (fun d => g5 d.1) (fun d => [⟨(.int .i64), f5 d.1⟩]) (orcX 51 [.lend (.pair (.slice 5 (.int .u8)) (.pair (.int .i64) (.int .i64))) .no, .val (.int .i64)] (fun d => g4 d.1 d.2.1) (fun d => [⟨(.pair (.slice 5 (.int .u8)) (.pair (.int .i64) (.int .i64))), (f4 d.1 d.2.1).1⟩, ⟨(.int .i64), (f4 d.1 d.2.1).2⟩]) (orcX 8 [.val (.slice 29 TyEntry), .val .str] (fun d => g3 d.1 d.2.1) (fun d => [⟨(.pair (.int .i64) (.pair TyEntry (.pair TyEntry (.pair (.pair (.int .i64) (.slice 3 (.int .i64))) (.pair (.int .i64) (.slice 3 (.int .i64))))))), (f3 d.1 d.2.1).1⟩, ⟨.bool, (f3 d.1 d.2.1).2⟩]) (orcX 50 [.lend (.pair (.slice 5 (.int .u8)) (.pair (.int .i64) (.int .i64))) .no] (fun d => g2 d.1) (fun d => [⟨(.pair (.slice 5 (.int .u8)) (.pair (.int .i64) (.int .i64))), (f2 d.1).1⟩, ⟨.str, (f2 d.1).2⟩]) (orcX 49 [.lend (.pair (.slice 5 (.int .u8)) (.pair (.int .i64) (.int .i64))) .no] (fun d => g1 d.1) (fun d => [⟨(.pair (.slice 5 (.int .u8)) (.pair (.int .i64) (.int .i64))), (f1 d.1).1⟩, ⟨(.slice 29 TyEntry), (f1 d.1).2⟩]) (orcX 48 [.lend .bool .nil, .val (.slice 5 (.int .u8))] (fun d => g0 d.2.1) (fun d => [⟨(.pair (.slice 5 (.int .u8)) (.pair (.int .i64) (.int .i64))), f0 d.2.1⟩]) nilO)))))))
def O_spec_DrawCheckAbsence : Orac := OP_spec_DrawCheckAbsence N.spec_l1New G.spec_l1New N.spec_l9List G.spec_l9List N.spec_l4Any G.spec_l4Any N.spec_ProveAbsence G.spec_ProveAbsence N.spec_l1Below G.spec_l1Below N.spec_RootOf G.spec_RootOf N.spec_l12Bent G.spec_l12Bent
theorem ok_spec_DrawCheckAbsence : OracOk Tryz.prog sigs O_spec_DrawCheckAbsence := (orcB_ok rfl (fun d g => said_spec_l12Bent d.1 d.2.1 g) (orcX_ok rfl rfl (fun d g => said_spec_RootOf d.1 g) (orcB_ok rfl (fun d g => said_spec_l1Below d.1 d.2.1 g) (orcX_ok rfl rfl (fun d g => said_spec_ProveAbsence d.1 d.2.1 g) (orcB_ok rfl (fun d g => said_spec_l4Any d.1 g) (orcB_ok rfl (fun d g => said_spec_l9List d.1 g) (orcN_ok rfl (fun d g => said_spec_l1New d.2.1 g) nilO_ok)))))))
def A_spec_DrawCheckAbsence : Ann := fun b => ⟨[], []⟩
theorem aP_spec_DrawCheckAbsence (f0 : (List Int) → TCur) (g0 : (List Int) → Bool) (f1 : TCur → (TCur × (List TEntry))) (g1 : TCur → Bool) (f2 : TCur → (TCur × ByteArray)) (g2 : TCur → Bool) (f3 : (List TEntry) → ByteArray → (TGap × Bool)) (g3 : (List TEntry) → ByteArray → Bool) (f4 : TCur → Int → (TCur × Int)) (g4 : TCur → Int → Bool) (f5 : (List TEntry) → Int) (g5 : (List TEntry) → Bool) (f6 : TCur → TGap → (TCur × TGap)) (g6 : TCur → TGap → Bool) (n : Nat) (a0 : (List Int)) : absF tab sigs (OP_spec_DrawCheckAbsence f0 g0 f1 g1 f2 g2 f3 g3 f4 g4 f5 g5 f6 g6) A_spec_DrawCheckAbsence Tryz.f13 [((.int .i64), .no), ((.int .i64), .no), (.str, .no), ((.pair (.int .i64) (.pair TyEntry (.pair TyEntry (.pair (.pair (.int .i64) (.slice 3 (.int .i64))) (.pair (.int .i64) (.slice 3 (.int .i64))))))), .no)] n [.val (.slice 5 (.int .u8)) a0] = spec_DrawCheckAbsence_P f0 g0 f1 g1 f2 g2 f3 g3 f4 g4 f5 g5 f6 g6 (fun r0 r1 r2 r3 => some [⟨(.int .i64), r0⟩, ⟨(.int .i64), r1⟩, ⟨.str, r2⟩, ⟨(.pair (.int .i64) (.pair TyEntry (.pair TyEntry (.pair (.pair (.int .i64) (.slice 3 (.int .i64))) (.pair (.int .i64) (.slice 3 (.int .i64))))))), r3⟩])  a0 := by kernel_rfl
theorem said_spec_DrawCheckAbsence (a0 : (List Int)) (g : G.spec_DrawCheckAbsence a0 = true) : Said Tryz.prog sigs_13 13 [.val (.slice 5 (.int .u8)) a0] [⟨(.int .i64), (N.spec_DrawCheckAbsence a0).1⟩, ⟨(.int .i64), (N.spec_DrawCheckAbsence a0).2.1⟩, ⟨.str, (N.spec_DrawCheckAbsence a0).2.2.1⟩, ⟨(.pair (.int .i64) (.pair TyEntry (.pair TyEntry (.pair (.pair (.int .i64) (.slice 3 (.int .i64))) (.pair (.int .i64) (.slice 3 (.int .i64))))))), (N.spec_DrawCheckAbsence a0).2.2.2⟩] := said_len (T := tab) (A := A_spec_DrawCheckAbsence) tabOk ok_spec_DrawCheckAbsence tabOk.follows Tryz.func13 (by kernel_rfl) (by kernel_rfl) (fun hl => ⟨0, (aP_spec_DrawCheckAbsence N.spec_l1New G.spec_l1New N.spec_l9List G.spec_l9List N.spec_l4Any G.spec_l4Any N.spec_ProveAbsence G.spec_ProveAbsence N.spec_l1Below G.spec_l1Below N.spec_RootOf G.spec_RootOf N.spec_l12Bent G.spec_l12Bent 0 a0).trans (spec_DrawCheckAbsence_ok (ρ := Ret) (fun r0 r1 r2 r3 => some [⟨(.int .i64), r0⟩, ⟨(.int .i64), r1⟩, ⟨.str, r2⟩, ⟨(.pair (.int .i64) (.pair TyEntry (.pair TyEntry (.pair (.pair (.int .i64) (.slice 3 (.int .i64))) (.pair (.int .i64) (.slice 3 (.int .i64))))))), r3⟩]) a0 hl.1 g)⟩)
abbrev N.spec_SamePath (a b : List ByteArray) : Bool := eqStrs a b
def spec_SamePath_L0 {ρ : Type} (k : Bool → Option ρ) (L0 : (List ByteArray) → (List ByteArray) → Int → Option ρ) (v0_0 : (List ByteArray)) (v0_1 : (List ByteArray)) (v0_2 : Int) : Option ρ := (cond (decide (v0_2 < (List.length v0_0 : Int))) (cond (inRange v0_2 (List.length v0_0)) (cond (inRange v0_2 (List.length v0_1)) (cond (!((ByteArray.toList (List.getD v0_0 (Int.toNat v0_2) ByteArray.empty)) == (ByteArray.toList (List.getD v0_1 (Int.toNat v0_2) ByteArray.empty)))) (k false) (L0 v0_0 v0_1 (IntKind.wrap .i64 (v0_2 + (1 : Int))))) none) none) (k true))
def spec_SamePath {ρ : Type} (k : Bool → Option ρ) (L0 : (List ByteArray) → (List ByteArray) → Int → Option ρ) (a0 : (List ByteArray)) (a1 : (List ByteArray)) : Option ρ := (cond ((List.length a0 : Int) != (List.length a1 : Int)) (k false) (L0 a0 a1 (0 : Int)))
theorem spec_SamePath_ok {ρ : Type} (k : Bool → Option ρ) (a0 : (List ByteArray)) (a1 : (List ByteArray)) (l_a0 : lnL (fun _ => True) a0) (l_a1 : lnL (fun _ => True) a1) : ∃ n0, ∀ n, n0 ≤ n → ∀ (L0 : Nat → (List ByteArray) → (List ByteArray) → Int → Option ρ) (h0 : ∀ ( m : Nat) (v0_0 : (List ByteArray)) (v0_1 : (List ByteArray)) (v0_2 : Int), L0 (m + 1) v0_0 v0_1 v0_2 = spec_SamePath_L0 k (L0 m) v0_0 v0_1 v0_2), spec_SamePath k (L0 n) a0 a1 = k (N.spec_SamePath a0 a1) := by
  exact ⟨a0.length + 1, fun n hn L0 h0 => eq_all (p := eqStr) (d := ByteArray.empty) l_a0.1 (L := fun m i => L0 m a0 a1 i) (fun m i => h0 m a0 a1 i) hn⟩
def O_spec_SamePath : Orac := nilO
theorem ok_spec_SamePath : OracOk Tryz.prog sigs O_spec_SamePath := nilO_ok
def A_spec_SamePath : Ann := fun b => cond (Nat.beq b 0) ⟨[(0, false), (1, false), (5, false)], []⟩ (⟨[], []⟩)
def S_spec_SamePath_0 (v0_0 : (List ByteArray)) (v0_1 : (List ByteArray)) (v0_2 : Int) : St := [(kT 0, some (.tv (.v (.slice 9 .str) v0_0 .no))), (kT 1, some (.tv (.v (.slice 9 .str) v0_1 .no))), (kT 5, some (.tv (.v (.int .i64) v0_2 .no)))]
noncomputable def L_spec_SamePath_0 (n m : Nat) : St → Option Ret := loopOf tab sigs O_spec_SamePath A_spec_SamePath Tryz.f148 [(.bool, .no)] n (fun _ => 0) 0 m
theorem b_spec_SamePath_0 (n m : Nat) (v0_0 : (List ByteArray)) (v0_1 : (List ByteArray)) (v0_2 : Int) : L_spec_SamePath_0 n (m + 1) (S_spec_SamePath_0 v0_0 v0_1 v0_2) = spec_SamePath_L0 (fun r0 => some [⟨.bool, r0⟩]) (fun v0_0 v0_1 v0_2 => L_spec_SamePath_0 n m (S_spec_SamePath_0 v0_0 v0_1 v0_2)) v0_0 v0_1 v0_2 := by kernel_rfl
theorem a_spec_SamePath (n : Nat) (a0 : (List ByteArray)) (a1 : (List ByteArray)) : absF tab sigs O_spec_SamePath A_spec_SamePath Tryz.f148 [(.bool, .no)] n [.val (.slice 9 .str) a0, .val (.slice 9 .str) a1] = spec_SamePath (fun r0 => some [⟨.bool, r0⟩]) (fun v0_0 v0_1 v0_2 => L_spec_SamePath_0 n n (S_spec_SamePath_0 v0_0 v0_1 v0_2)) a0 a1 := by kernel_rfl
theorem said_spec_SamePath (a0 : (List ByteArray)) (a1 : (List ByteArray)) : Said Tryz.prog sigs_148 148 [.val (.slice 9 .str) a0, .val (.slice 9 .str) a1] [⟨.bool, N.spec_SamePath a0 a1⟩] := said_len (T := tab) (A := A_spec_SamePath) tabOk ok_spec_SamePath tabOk.follows Tryz.func148 (by kernel_rfl) (by kernel_rfl) (fun hl => let ⟨n, hn⟩ := spec_SamePath_ok (ρ := Ret) (fun r0 => some [⟨.bool, r0⟩]) a0 a1 hl.1 hl.2.1; ⟨n, (a_spec_SamePath n a0 a1).trans (hn n (Nat.le_refl n) (fun  m v0_0 v0_1 v0_2 => L_spec_SamePath_0 n  m (S_spec_SamePath_0 v0_0 v0_1 v0_2)) (fun  m v0_0 v0_1 v0_2 => b_spec_SamePath_0 n  m v0_0 v0_1 v0_2))⟩)
abbrev N.spec_EqualEntries (a b : TEntry) : Bool := eqEntry a b
def spec_EqualEntries {ρ : Type} (k : Bool → Option ρ) (a0 : TEntry) (a1 : TEntry) : Option ρ := (cond ((ByteArray.toList a0.1) == (ByteArray.toList a1.1)) (cond (a0.2.1 == a1.2.1) (cond (a0.2.2.1 == a1.2.2.1) (k (N.spec_SamePath a0.2.2.2 a1.2.2.2)) (k false)) (k false)) (k false))
theorem spec_EqualEntries_ok {ρ : Type} (k : Bool → Option ρ) (a0 : TEntry) (a1 : TEntry) (l_a0 : (True ∧ (True ∧ (True ∧ lnL (fun _ => True) a0.2.2.2)))) (l_a1 : (True ∧ (True ∧ (True ∧ lnL (fun _ => True) a1.2.2.2)))) : spec_EqualEntries k  a0 a1 = k (N.spec_EqualEntries a0 a1) := by
  simp only [spec_EqualEntries, eqEntry, eqStr]
  cases a0.1.toList == a1.1.toList
  · rfl
  cases a0.2.1 == a1.2.1
  · rfl
  cases a0.2.2.1 == a1.2.2.1 <;> rfl
def OP_spec_EqualEntries (f0 : (List ByteArray) → (List ByteArray) → Bool) : Orac := (orcX 148 [.val (.slice 9 .str), .val (.slice 9 .str)] (fun d => true) (fun d => [⟨.bool, f0 d.1 d.2.1⟩]) nilO)
def O_spec_EqualEntries : Orac := OP_spec_EqualEntries N.spec_SamePath
def spec_EqualEntries_P {ρ : Type} (f0 : (List ByteArray) → (List ByteArray) → Bool) (k : Bool → Option ρ) (a0 : TEntry) (a1 : TEntry) : Option ρ := (cond ((ByteArray.toList a0.1) == (ByteArray.toList a1.1)) (cond (a0.2.1 == a1.2.1) (cond (a0.2.2.1 == a1.2.2.1) (k (f0 a0.2.2.2 a1.2.2.2)) (k false)) (k false)) (k false))
theorem ok_spec_EqualEntries : OracOk Tryz.prog sigs O_spec_EqualEntries := (orcX_ok rfl rfl (fun d g => said_spec_SamePath d.1 d.2.1) nilO_ok)
def A_spec_EqualEntries : Ann := fun b => ⟨[], []⟩
theorem aP_spec_EqualEntries (f0 : (List ByteArray) → (List ByteArray) → Bool) (n : Nat) (a0 : TEntry) (a1 : TEntry) : absF tab sigs (OP_spec_EqualEntries f0) A_spec_EqualEntries Tryz.f106 [(.bool, .no)] n [.val TyEntry a0, .val TyEntry a1] = spec_EqualEntries_P f0 (fun r0 => some [⟨.bool, r0⟩])  a0 a1 := by kernel_rfl
theorem said_spec_EqualEntries (a0 : TEntry) (a1 : TEntry) : Said Tryz.prog sigs_106 106 [.val TyEntry a0, .val TyEntry a1] [⟨.bool, N.spec_EqualEntries a0 a1⟩] := said_len (T := tab) (A := A_spec_EqualEntries) tabOk ok_spec_EqualEntries tabOk.follows Tryz.func106 (by kernel_rfl) (by kernel_rfl) (fun hl => ⟨0, (aP_spec_EqualEntries N.spec_SamePath 0 a0 a1).trans (spec_EqualEntries_ok (ρ := Ret) (fun r0 => some [⟨.bool, r0⟩]) a0 a1 hl.1 hl.2.1)⟩)
abbrev N.spec_EqualInts (a b : List Int) : Bool := eqInts a b
def spec_EqualInts_L0 {ρ : Type} (k : Bool → Option ρ) (L0 : (List Int) → (List Int) → Int → Option ρ) (v0_0 : (List Int)) (v0_1 : (List Int)) (v0_2 : Int) : Option ρ := (cond (decide (v0_2 < (List.length v0_0 : Int))) (cond (inRange v0_2 (List.length v0_0)) (cond (inRange v0_2 (List.length v0_1)) (cond ((List.getD v0_0 (Int.toNat v0_2) (0 : Int)) != (List.getD v0_1 (Int.toNat v0_2) (0 : Int))) (k false) (L0 v0_0 v0_1 (IntKind.wrap .i64 (v0_2 + (1 : Int))))) none) none) (k true))
def spec_EqualInts {ρ : Type} (k : Bool → Option ρ) (L0 : (List Int) → (List Int) → Int → Option ρ) (a0 : (List Int)) (a1 : (List Int)) : Option ρ := (cond ((List.length a0 : Int) != (List.length a1 : Int)) (k false) (L0 a0 a1 (0 : Int)))
theorem spec_EqualInts_ok {ρ : Type} (k : Bool → Option ρ) (a0 : (List Int)) (a1 : (List Int)) (l_a0 : lnL (fun _ => True) a0) (l_a1 : lnL (fun _ => True) a1) : ∃ n0, ∀ n, n0 ≤ n → ∀ (L0 : Nat → (List Int) → (List Int) → Int → Option ρ) (h0 : ∀ ( m : Nat) (v0_0 : (List Int)) (v0_1 : (List Int)) (v0_2 : Int), L0 (m + 1) v0_0 v0_1 v0_2 = spec_EqualInts_L0 k (L0 m) v0_0 v0_1 v0_2), spec_EqualInts k (L0 n) a0 a1 = k (N.spec_EqualInts a0 a1) := by
  exact ⟨a0.length + 1, fun n hn L0 h0 => eq_all (p := fun x y => x == y) (d := 0) l_a0.1 (L := fun m i => L0 m a0 a1 i) (fun m i => h0 m a0 a1 i) hn⟩
def O_spec_EqualInts : Orac := nilO
theorem ok_spec_EqualInts : OracOk Tryz.prog sigs O_spec_EqualInts := nilO_ok
def A_spec_EqualInts : Ann := fun b => cond (Nat.beq b 0) ⟨[(0, false), (1, false), (5, false)], []⟩ (⟨[], []⟩)
def S_spec_EqualInts_0 (v0_0 : (List Int)) (v0_1 : (List Int)) (v0_2 : Int) : St := [(kT 0, some (.tv (.v (.slice 3 (.int .i64)) v0_0 .no))), (kT 1, some (.tv (.v (.slice 3 (.int .i64)) v0_1 .no))), (kT 5, some (.tv (.v (.int .i64) v0_2 .no)))]
noncomputable def L_spec_EqualInts_0 (n m : Nat) : St → Option Ret := loopOf tab sigs O_spec_EqualInts A_spec_EqualInts Tryz.f69 [(.bool, .no)] n (fun _ => 0) 0 m
theorem b_spec_EqualInts_0 (n m : Nat) (v0_0 : (List Int)) (v0_1 : (List Int)) (v0_2 : Int) : L_spec_EqualInts_0 n (m + 1) (S_spec_EqualInts_0 v0_0 v0_1 v0_2) = spec_EqualInts_L0 (fun r0 => some [⟨.bool, r0⟩]) (fun v0_0 v0_1 v0_2 => L_spec_EqualInts_0 n m (S_spec_EqualInts_0 v0_0 v0_1 v0_2)) v0_0 v0_1 v0_2 := by kernel_rfl
theorem a_spec_EqualInts (n : Nat) (a0 : (List Int)) (a1 : (List Int)) : absF tab sigs O_spec_EqualInts A_spec_EqualInts Tryz.f69 [(.bool, .no)] n [.val (.slice 3 (.int .i64)) a0, .val (.slice 3 (.int .i64)) a1] = spec_EqualInts (fun r0 => some [⟨.bool, r0⟩]) (fun v0_0 v0_1 v0_2 => L_spec_EqualInts_0 n n (S_spec_EqualInts_0 v0_0 v0_1 v0_2)) a0 a1 := by kernel_rfl
theorem said_spec_EqualInts (a0 : (List Int)) (a1 : (List Int)) : Said Tryz.prog sigs_69 69 [.val (.slice 3 (.int .i64)) a0, .val (.slice 3 (.int .i64)) a1] [⟨.bool, N.spec_EqualInts a0 a1⟩] := said_len (T := tab) (A := A_spec_EqualInts) tabOk ok_spec_EqualInts tabOk.follows Tryz.func69 (by kernel_rfl) (by kernel_rfl) (fun hl => let ⟨n, hn⟩ := spec_EqualInts_ok (ρ := Ret) (fun r0 => some [⟨.bool, r0⟩]) a0 a1 hl.1 hl.2.1; ⟨n, (a_spec_EqualInts n a0 a1).trans (hn n (Nat.le_refl n) (fun  m v0_0 v0_1 v0_2 => L_spec_EqualInts_0 n  m (S_spec_EqualInts_0 v0_0 v0_1 v0_2)) (fun  m v0_0 v0_1 v0_2 => b_spec_EqualInts_0 n  m v0_0 v0_1 v0_2))⟩)
abbrev N.spec_EqualProofs (a b : TProof) : Bool := eqProof a b
def spec_EqualProofs {ρ : Type} (k : Bool → Option ρ) (a0 : TProof) (a1 : TProof) : Option ρ := (cond (a0.1 == a1.1) (k (N.spec_EqualInts a0.2 a1.2)) (k false))
theorem spec_EqualProofs_ok {ρ : Type} (k : Bool → Option ρ) (a0 : TProof) (a1 : TProof) (l_a0 : (True ∧ lnL (fun _ => True) a0.2)) (l_a1 : (True ∧ lnL (fun _ => True) a1.2)) : spec_EqualProofs k  a0 a1 = k (N.spec_EqualProofs a0 a1) := by
  simp only [spec_EqualProofs, eqProof]
  cases a0.1 == a1.1 <;> rfl
def OP_spec_EqualProofs (f0 : (List Int) → (List Int) → Bool) : Orac := (orcX 69 [.val (.slice 3 (.int .i64)), .val (.slice 3 (.int .i64))] (fun d => true) (fun d => [⟨.bool, f0 d.1 d.2.1⟩]) nilO)
def O_spec_EqualProofs : Orac := OP_spec_EqualProofs N.spec_EqualInts
def spec_EqualProofs_P {ρ : Type} (f0 : (List Int) → (List Int) → Bool) (k : Bool → Option ρ) (a0 : TProof) (a1 : TProof) : Option ρ := (cond (a0.1 == a1.1) (k (f0 a0.2 a1.2)) (k false))
theorem ok_spec_EqualProofs : OracOk Tryz.prog sigs O_spec_EqualProofs := (orcX_ok rfl rfl (fun d g => said_spec_EqualInts d.1 d.2.1) nilO_ok)
def A_spec_EqualProofs : Ann := fun b => ⟨[], []⟩
theorem aP_spec_EqualProofs (f0 : (List Int) → (List Int) → Bool) (n : Nat) (a0 : TProof) (a1 : TProof) : absF tab sigs (OP_spec_EqualProofs f0) A_spec_EqualProofs Tryz.f107 [(.bool, .no)] n [.val (.pair (.int .i64) (.slice 3 (.int .i64))) a0, .val (.pair (.int .i64) (.slice 3 (.int .i64))) a1] = spec_EqualProofs_P f0 (fun r0 => some [⟨.bool, r0⟩])  a0 a1 := by kernel_rfl
theorem said_spec_EqualProofs (a0 : TProof) (a1 : TProof) : Said Tryz.prog sigs_107 107 [.val (.pair (.int .i64) (.slice 3 (.int .i64))) a0, .val (.pair (.int .i64) (.slice 3 (.int .i64))) a1] [⟨.bool, N.spec_EqualProofs a0 a1⟩] := said_len (T := tab) (A := A_spec_EqualProofs) tabOk ok_spec_EqualProofs tabOk.follows Tryz.func107 (by kernel_rfl) (by kernel_rfl) (fun hl => ⟨0, (aP_spec_EqualProofs N.spec_EqualInts 0 a0 a1).trans (spec_EqualProofs_ok (ρ := Ret) (fun r0 => some [⟨.bool, r0⟩]) a0 a1 hl.1 hl.2.1)⟩)
abbrev N.spec_l12None (e : TEntry) (p : TProof) : Bool := noneAt e p
def spec_l12None {ρ : Type} (k : Bool → Option ρ) (a0 : TEntry) (a1 : TProof) : Option ρ := (cond (N.spec_EqualEntries a0 (ByteArray.empty, ((0 : Int), ((0 : Int), ([] : (List ByteArray)))))) (k (N.spec_EqualProofs a1 ((0 : Int), ([] : (List Int))))) (k false))
theorem spec_l12None_ok {ρ : Type} (k : Bool → Option ρ) (a0 : TEntry) (a1 : TProof) (l_a0 : (True ∧ (True ∧ (True ∧ lnL (fun _ => True) a0.2.2.2)))) (l_a1 : (True ∧ lnL (fun _ => True) a1.2)) : spec_l12None k  a0 a1 = k (N.spec_l12None a0 a1) := by
  simp only [spec_l12None, N.spec_EqualEntries, N.spec_EqualProofs, N.spec_l12None, noneAt]
  cases eqEntry a0 (ByteArray.empty, ((0 : Int), ((0 : Int), []))) <;> rfl
def OP_spec_l12None (f0 : TEntry → TEntry → Bool) (f1 : TProof → TProof → Bool) : Orac := (orcX 107 [.val (.pair (.int .i64) (.slice 3 (.int .i64))), .val (.pair (.int .i64) (.slice 3 (.int .i64)))] (fun d => true) (fun d => [⟨.bool, f1 d.1 d.2.1⟩]) (orcX 106 [.val TyEntry, .val TyEntry] (fun d => true) (fun d => [⟨.bool, f0 d.1 d.2.1⟩]) nilO))
def O_spec_l12None : Orac := OP_spec_l12None N.spec_EqualEntries N.spec_EqualProofs
def spec_l12None_P {ρ : Type} (f0 : TEntry → TEntry → Bool) (f1 : TProof → TProof → Bool) (k : Bool → Option ρ) (a0 : TEntry) (a1 : TProof) : Option ρ := (cond (f0 a0 (ByteArray.empty, ((0 : Int), ((0 : Int), ([] : (List ByteArray)))))) (k (f1 a1 ((0 : Int), ([] : (List Int))))) (k false))
theorem ok_spec_l12None : OracOk Tryz.prog sigs O_spec_l12None := (orcX_ok rfl rfl (fun d g => said_spec_EqualProofs d.1 d.2.1) (orcX_ok rfl rfl (fun d g => said_spec_EqualEntries d.1 d.2.1) nilO_ok))
def A_spec_l12None : Ann := fun b => ⟨[], []⟩
theorem aP_spec_l12None (f0 : TEntry → TEntry → Bool) (f1 : TProof → TProof → Bool) (n : Nat) (a0 : TEntry) (a1 : TProof) : absF tab sigs (OP_spec_l12None f0 f1) A_spec_l12None Tryz.f55 [(.bool, .no)] n [.val TyEntry a0, .val (.pair (.int .i64) (.slice 3 (.int .i64))) a1] = spec_l12None_P f0 f1 (fun r0 => some [⟨.bool, r0⟩])  a0 a1 := by kernel_rfl
theorem said_spec_l12None (a0 : TEntry) (a1 : TProof) : Said Tryz.prog sigs_55 55 [.val TyEntry a0, .val (.pair (.int .i64) (.slice 3 (.int .i64))) a1] [⟨.bool, N.spec_l12None a0 a1⟩] := said_len (T := tab) (A := A_spec_l12None) tabOk ok_spec_l12None tabOk.follows Tryz.func55 (by kernel_rfl) (by kernel_rfl) (fun hl => ⟨0, (aP_spec_l12None N.spec_EqualEntries N.spec_EqualProofs 0 a0 a1).trans (spec_l12None_ok (ρ := Ret) (fun r0 => some [⟨.bool, r0⟩]) a0 a1 hl.1 hl.2.1)⟩)
abbrev N.spec_TopFrom (leaf i n : Int) (path : List Int) : Int × Bool := topFrom leaf i n path
def spec_TopFrom_P_L0 {ρ : Type} (f0 : Int → Int → Int → Bool) (f1 : Int → Int → Int) (k : Int → Bool → Option ρ) (L0 : Int → Int → Int → (List Int) → Int → Option ρ) (v0_0 : Int) (v0_1 : Int) (v0_2 : Int) (v0_3 : (List Int)) (v0_4 : Int) : Option ρ := (cond (decide (v0_2 > (1 : Int))) (cond ((Int.tmod v0_1 (2 : Int)) == (1 : Int)) (cond (decide (v0_4 ≥ (List.length v0_3 : Int))) (k (0 : Int) false) (cond ((Int.tmod v0_1 (2 : Int)) == (1 : Int)) (cond (inRange v0_4 (List.length v0_3)) (L0 (f1 (List.getD v0_3 (Int.toNat v0_4) (0 : Int)) v0_0) (IntKind.wrap .i64 (Int.tdiv v0_1 (2 : Int))) (IntKind.wrap .i64 (Int.tdiv (IntKind.wrap .i64 (v0_2 + (1 : Int))) (2 : Int))) v0_3 (IntKind.wrap .i64 (v0_4 + (1 : Int)))) none) (cond (inRange v0_4 (List.length v0_3)) (L0 (f1 v0_0 (List.getD v0_3 (Int.toNat v0_4) (0 : Int))) (IntKind.wrap .i64 (Int.tdiv v0_1 (2 : Int))) (IntKind.wrap .i64 (Int.tdiv (IntKind.wrap .i64 (v0_2 + (1 : Int))) (2 : Int))) v0_3 (IntKind.wrap .i64 (v0_4 + (1 : Int)))) none))) (cond (decide ((IntKind.wrap .i64 (v0_1 + (1 : Int))) < v0_2)) (cond (decide (v0_4 ≥ (List.length v0_3 : Int))) (k (0 : Int) false) (cond ((Int.tmod v0_1 (2 : Int)) == (1 : Int)) (cond (inRange v0_4 (List.length v0_3)) (L0 (f1 (List.getD v0_3 (Int.toNat v0_4) (0 : Int)) v0_0) (IntKind.wrap .i64 (Int.tdiv v0_1 (2 : Int))) (IntKind.wrap .i64 (Int.tdiv (IntKind.wrap .i64 (v0_2 + (1 : Int))) (2 : Int))) v0_3 (IntKind.wrap .i64 (v0_4 + (1 : Int)))) none) (cond (inRange v0_4 (List.length v0_3)) (L0 (f1 v0_0 (List.getD v0_3 (Int.toNat v0_4) (0 : Int))) (IntKind.wrap .i64 (Int.tdiv v0_1 (2 : Int))) (IntKind.wrap .i64 (Int.tdiv (IntKind.wrap .i64 (v0_2 + (1 : Int))) (2 : Int))) v0_3 (IntKind.wrap .i64 (v0_4 + (1 : Int)))) none))) (L0 v0_0 (IntKind.wrap .i64 (Int.tdiv v0_1 (2 : Int))) (IntKind.wrap .i64 (Int.tdiv (IntKind.wrap .i64 (v0_2 + (1 : Int))) (2 : Int))) v0_3 v0_4))) (cond (v0_4 != (List.length v0_3 : Int)) (k (0 : Int) false) (k v0_0 true)))
def spec_TopFrom_P {ρ : Type} (f0 : Int → Int → Int → Bool) (f1 : Int → Int → Int) (k : Int → Bool → Option ρ) (L0 : Int → Int → Int → (List Int) → Int → Option ρ) (a0 : Int) (a1 : Int) (a2 : Int) (a3 : (List Int)) : Option ρ := (cond (!(f0 a2 (1 : Int) (12 : Int))) (k (0 : Int) false) (cond (!(f0 a1 (0 : Int) (IntKind.wrap .i64 (a2 - (1 : Int))))) (k (0 : Int) false) (L0 a0 a1 a2 a3 (0 : Int))))
def spec_TopFrom_L0 {ρ : Type} (k : Int → Bool → Option ρ) (L0 : Int → Int → Int → (List Int) → Int → Option ρ) (v0_0 : Int) (v0_1 : Int) (v0_2 : Int) (v0_3 : (List Int)) (v0_4 : Int) : Option ρ := spec_TopFrom_P_L0 N.spec_l1In N.spec_NodeOf k L0 v0_0 v0_1 v0_2 v0_3 v0_4
def spec_TopFrom {ρ : Type} (k : Int → Bool → Option ρ) (L0 : Int → Int → Int → (List Int) → Int → Option ρ) (a0 : Int) (a1 : Int) (a2 : Int) (a3 : (List Int)) : Option ρ := spec_TopFrom_P N.spec_l1In N.spec_NodeOf k L0 a0 a1 a2 a3
theorem spec_TopFrom_ok {ρ : Type} (k : Int → Bool → Option ρ) (a0 : Int) (a1 : Int) (a2 : Int) (a3 : (List Int)) (l_a3 : lnL (fun _ => True) a3) : ∃ n0, ∀ n, n0 ≤ n → ∀ (L0 : Nat → Int → Int → Int → (List Int) → Int → Option ρ) (h0 : ∀ ( m : Nat) (v0_0 : Int) (v0_1 : Int) (v0_2 : Int) (v0_3 : (List Int)) (v0_4 : Int), L0 (m + 1) v0_0 v0_1 v0_2 v0_3 v0_4 = spec_TopFrom_L0 k (L0 m) v0_0 v0_1 v0_2 v0_3 v0_4), spec_TopFrom k (L0 n) a0 a1 a2 a3 = k (N.spec_TopFrom a0 a1 a2 a3).1 (N.spec_TopFrom a0 a1 a2 a3).2 := by
  refine ⟨a2.toNat + 1, fun n hn L0 h0 => ?_⟩
  show spec_TopFrom k (L0 n) a0 a1 a2 a3 = k (topFrom a0 a1 a2 a3).1 (topFrom a0 a1 a2 a3).2
  unfold spec_TopFrom spec_TopFrom_P topFrom
  dsimp only [N.spec_l1In]
  cases hn1 : inR a2 1 12 with
  | false => rfl
  | true =>
    have hn2 : 1 ≤ a2 ∧ a2 ≤ 12 := by simpa [inR] using hn1
    rw [wrap_id (n := a2 - 1) (by omega) (by omega)]
    cases hi1 : inR a1 0 (a2 - 1) with
    | false => rfl
    | true =>
      have hi2 : 0 ≤ a1 ∧ a1 ≤ a2 - 1 := by simpa [inR] using hi1
      show L0 n a0 a1 a2 a3 0 = k (tfRes (tfN a2.toNat a0 a1.toNat a2.toNat a3)).1 (tfRes (tfN a2.toNat a0 a1.toNat a2.toNat a3)).2
      refine raw_meas (σ := Int × Int × Int × Int) (L := fun m s => L0 m s.1 s.2.1 s.2.2.1 a3 s.2.2.2) (R := fun s c => spec_TopFrom_L0 k (fun l i n _ u => c (l, i, n, u)) s.1 s.2.1 s.2.2.1 a3 s.2.2.2)
        (fun m s => h0 m _ _ _ _ _) (fun s => 0 ≤ s.2.1 ∧ 1 ≤ s.2.2.1 ∧ s.2.2.1 ≤ 12 ∧ s.2.1 < s.2.2.1 ∧ 0 ≤ s.2.2.2 ∧ s.2.2.2 ≤ a3.length) (fun s => s.2.2.1.toNat) (fun s => k (tfRes (tfN s.2.2.1.toNat s.1 s.2.1.toNat s.2.2.1.toNat (a3.drop s.2.2.2.toNat))).1 (tfRes (tfN s.2.2.1.toNat s.1 s.2.1.toNat s.2.2.1.toNat (a3.drop s.2.2.2.toNat))).2) (fun s c hI hc => ?_) n (a0, a1, a2, 0) ⟨hi2.1, hn2.1, hn2.2, by dsimp only; omega, Int.le_refl 0, by dsimp only; omega⟩ (by dsimp only; omega)
      obtain ⟨l, i, q, u⟩ := s
      obtain ⟨b0, b1, b2, b3, b4, b5⟩ := hI
      dsimp only at b0 b1 b2 b3 b4 b5 hc ⊢
      obtain ⟨i, rfl⟩ := Int.eq_ofNat_of_zero_le b0
      obtain ⟨q, rfl⟩ := Int.eq_ofNat_of_zero_le (a := q) (by omega)
      obtain ⟨u, rfl⟩ := Int.eq_ofNat_of_zero_le b4
      simp only [Int.toNat_natCast] at hc ⊢
      have l3 : a3.length ≤ 9223372036854775807 := l_a3.1
      by_cases h1 : 1 < q
      · obtain ⟨f, rfl⟩ : ∃ f, q = f + 1 := ⟨q - 1, by omega⟩
        have e1 : decide (((f + 1 : Nat) : Int) > 1) = true := by simp; omega
        have t3 : IntKind.wrap .i64 (Int.tdiv (IntKind.wrap .i64 (((f + 1 : Nat) : Int) + 1)) 2) = (((f + 1 + 1) / 2 : Nat) : Int) := by rw [wrap_succ (by unfold big; omega), tdiv2 (by omega)]
        have t4 : u < a3.length → IntKind.wrap .i64 ((u : Int) + 1) = ((u + 1 : Nat) : Int) := fun h => wrap_succ (by unfold big; omega)
        have t5 : IntKind.wrap .i64 ((i : Int) + 1) = ((i + 1 : Nat) : Int) := wrap_succ (by unfold big; omega)
        have hfuel : ∀ leaf path, tfN ((f + 1 + 1) / 2) leaf (i / 2) ((f + 1 + 1) / 2) path = tfN f leaf (i / 2) ((f + 1 + 1) / 2) path := fun leaf path => tfN_more _ _ _ _ _ _ (by omega) (by omega)
        have step : ∀ leaf u', u' ≤ a3.length → c (leaf, ((i / 2 : Nat) : Int), (((f + 1 + 1) / 2 : Nat) : Int), (u' : Int)) = k (tfRes (tfN f leaf (i / 2) ((f + 1 + 1) / 2) (a3.drop u'))).1 (tfRes (tfN f leaf (i / 2) ((f + 1 + 1) / 2) (a3.drop u'))).2 := by
          intro leaf u' hu'
          have := hc (leaf, ((i / 2 : Nat) : Int), (((f + 1 + 1) / 2 : Nat) : Int), (u' : Int)) ⟨by simp; omega, by simp; omega, by simp; omega, by simp; omega, by simp, by simp; omega⟩ (by simp; omega)
          simp only [Int.toNat_natCast] at this
          rw [this, hfuel]
        unfold tfN
        rw [decide_eq_true h1]
        by_cases hodd : i % 2 = 1
        · have o1 : (((i % 2 : Nat) : Int) == 1) = true := by rw [hodd]; rfl
          have o2 : decide (sib i < f + 1) = true := by unfold sib; rw [if_neg (by omega)]; simp; omega
          have o3 : decide (i % 2 = 0) = false := by simp; omega
          by_cases hu : u < a3.length
          · have e5 : decide ((u : Int) ≥ (a3.length : Int)) = false := by simp; omega
            rw [drop_cons 0 hu]
            simp only [spec_TopFrom_L0, spec_TopFrom_P_L0, e1, tmod2, o1, o2, o3, e5, cond_true, cond_false, inRange_nat, decide_eq_true hu, tdiv2 (i := i) (by omega), t3, t4 hu, Int.toNat_natCast, step _ (u + 1) (by omega)]
          · have e5 : decide ((u : Int) ≥ (a3.length : Int)) = true := by simp; omega
            rw [List.drop_of_length_le (by omega)]
            simp only [spec_TopFrom_L0, spec_TopFrom_P_L0, e1, tmod2, o1, o2, o3, e5, cond_true, cond_false]
            rfl
        · have o1 : (((i % 2 : Nat) : Int) == 1) = false := by
            have o4 : i % 2 = 0 := by omega
            rw [o4]; rfl
          have o3 : decide (i % 2 = 0) = true := by simp; omega
          by_cases hlt : i + 1 < f + 1
          · have o2 : decide (sib i < f + 1) = true := by unfold sib; rw [if_pos (by omega)]; simpa using hlt
            by_cases hu : u < a3.length
            · have e5 : decide ((u : Int) ≥ (a3.length : Int)) = false := by simp; omega
              rw [drop_cons 0 hu]
              simp only [spec_TopFrom_L0, spec_TopFrom_P_L0, e1, tmod2, o1, o2, o3, e5, t5, lt_nat, decide_eq_true hlt, cond_true, cond_false, inRange_nat, decide_eq_true hu, tdiv2 (i := i) (by omega), t3, t4 hu, Int.toNat_natCast, step _ (u + 1) (by omega)]
            · have e5 : decide ((u : Int) ≥ (a3.length : Int)) = true := by simp; omega
              rw [List.drop_of_length_le (by omega)]
              simp only [spec_TopFrom_L0, spec_TopFrom_P_L0, e1, tmod2, o1, o2, o3, e5, t5, lt_nat, decide_eq_true hlt, cond_true, cond_false]
              rfl
          · have o2 : decide (sib i < f + 1) = false := by unfold sib; rw [if_pos (by omega)]; simpa using hlt
            simp only [spec_TopFrom_L0, spec_TopFrom_P_L0, e1, tmod2, o1, o2, t5, lt_nat, decide_eq_false hlt, cond_true, cond_false, tdiv2 (i := i) (by omega), t3, step _ u (by omega)]
      · have e1 : decide ((q : Int) > 1) = false := by simp; omega
        have e2 : q = 1 := by omega
        subst e2
        unfold tfN
        by_cases hu : u < a3.length
        · have e3 : ((u : Int) != (a3.length : Int)) = true := by simp; omega
          have e4 : ((a3.drop u).length == 0) = false := by rw [List.length_drop]; simp; omega
          simp only [spec_TopFrom_L0, spec_TopFrom_P_L0, e1, e3, e4, cond_true, cond_false]
          rfl
        · have e3 : ((u : Int) != (a3.length : Int)) = false := by simp; omega
          have e4 : ((a3.drop u).length == 0) = true := by rw [List.length_drop]; simp; omega
          simp only [spec_TopFrom_L0, spec_TopFrom_P_L0, e1, e3, e4, cond_true, cond_false]
          rfl
def OP_spec_TopFrom (f0 : Int → Int → Int → Bool) (f1 : Int → Int → Int) : Orac := (orcX 149 [.val (.int .i64), .val (.int .i64)] (fun d => true) (fun d => [⟨(.int .i64), f1 d.1 d.2.1⟩]) (orcX 54 [.val (.int .i64), .val (.int .i64), .val (.int .i64)] (fun d => true) (fun d => [⟨.bool, f0 d.1 d.2.1 d.2.2.1⟩]) nilO))
def O_spec_TopFrom : Orac := OP_spec_TopFrom N.spec_l1In N.spec_NodeOf
theorem ok_spec_TopFrom : OracOk Tryz.prog sigs O_spec_TopFrom := (orcX_ok rfl rfl (fun d g => said_spec_NodeOf d.1 d.2.1) (orcX_ok rfl rfl (fun d g => said_spec_l1In d.1 d.2.1 d.2.2.1) nilO_ok))
def A_spec_TopFrom : Ann := fun b => cond (Nat.beq b 0) ⟨[(0, false), (1, false), (2, false), (3, false), (10, false)], []⟩ (⟨[], []⟩)
def S_spec_TopFrom_0 (v0_0 : Int) (v0_1 : Int) (v0_2 : Int) (v0_3 : (List Int)) (v0_4 : Int) : St := [(kT 0, some (.tv (.v (.int .i64) v0_0 .no))), (kT 1, some (.tv (.v (.int .i64) v0_1 .no))), (kT 2, some (.tv (.v (.int .i64) v0_2 .no))), (kT 3, some (.tv (.v (.slice 3 (.int .i64)) v0_3 .no))), (kT 10, some (.tv (.v (.int .i64) v0_4 .no)))]
noncomputable def L_P_spec_TopFrom_0 (f0 : Int → Int → Int → Bool) (f1 : Int → Int → Int) (n m : Nat) : St → Option Ret := loopOf tab sigs (OP_spec_TopFrom f0 f1) A_spec_TopFrom Tryz.f108 [((.int .i64), .no), (.bool, .no)] n (fun _ => 0) 0 m
theorem bP_spec_TopFrom_0 (f0 : Int → Int → Int → Bool) (f1 : Int → Int → Int) (n m : Nat) (v0_0 : Int) (v0_1 : Int) (v0_2 : Int) (v0_3 : (List Int)) (v0_4 : Int) : L_P_spec_TopFrom_0 f0 f1 n (m + 1) (S_spec_TopFrom_0 v0_0 v0_1 v0_2 v0_3 v0_4) = spec_TopFrom_P_L0 f0 f1 (fun r0 r1 => some [⟨(.int .i64), r0⟩, ⟨.bool, r1⟩]) (fun v0_0 v0_1 v0_2 v0_3 v0_4 => L_P_spec_TopFrom_0 f0 f1 n m (S_spec_TopFrom_0 v0_0 v0_1 v0_2 v0_3 v0_4)) v0_0 v0_1 v0_2 v0_3 v0_4 := by kernel_rfl
theorem aP_spec_TopFrom (f0 : Int → Int → Int → Bool) (f1 : Int → Int → Int) (n : Nat) (a0 : Int) (a1 : Int) (a2 : Int) (a3 : (List Int)) : absF tab sigs (OP_spec_TopFrom f0 f1) A_spec_TopFrom Tryz.f108 [((.int .i64), .no), (.bool, .no)] n [.val (.int .i64) a0, .val (.int .i64) a1, .val (.int .i64) a2, .val (.slice 3 (.int .i64)) a3] = spec_TopFrom_P f0 f1 (fun r0 r1 => some [⟨(.int .i64), r0⟩, ⟨.bool, r1⟩]) (fun v0_0 v0_1 v0_2 v0_3 v0_4 => L_P_spec_TopFrom_0 f0 f1 n n (S_spec_TopFrom_0 v0_0 v0_1 v0_2 v0_3 v0_4)) a0 a1 a2 a3 := by kernel_rfl
theorem said_spec_TopFrom (a0 : Int) (a1 : Int) (a2 : Int) (a3 : (List Int)) : Said Tryz.prog sigs_108 108 [.val (.int .i64) a0, .val (.int .i64) a1, .val (.int .i64) a2, .val (.slice 3 (.int .i64)) a3] [⟨(.int .i64), (N.spec_TopFrom a0 a1 a2 a3).1⟩, ⟨.bool, (N.spec_TopFrom a0 a1 a2 a3).2⟩] := said_len (T := tab) (A := A_spec_TopFrom) tabOk ok_spec_TopFrom tabOk.follows Tryz.func108 (by kernel_rfl) (by kernel_rfl) (fun hl => let ⟨n, hn⟩ := spec_TopFrom_ok (ρ := Ret) (fun r0 r1 => some [⟨(.int .i64), r0⟩, ⟨.bool, r1⟩]) a0 a1 a2 a3 hl.2.2.2.1; ⟨n, (aP_spec_TopFrom N.spec_l1In N.spec_NodeOf n a0 a1 a2 a3).trans (hn n (Nat.le_refl n) (fun  m v0_0 v0_1 v0_2 v0_3 v0_4 => L_P_spec_TopFrom_0 N.spec_l1In N.spec_NodeOf n  m (S_spec_TopFrom_0 v0_0 v0_1 v0_2 v0_3 v0_4)) (fun  m v0_0 v0_1 v0_2 v0_3 v0_4 => bP_spec_TopFrom_0 N.spec_l1In N.spec_NodeOf n  m v0_0 v0_1 v0_2 v0_3 v0_4))⟩)
abbrev G.spec_CheckEntry (root count : Int) (e : TEntry) (p : TProof) : Bool := decide (wE e ≤ 1048576)
abbrev N.spec_CheckEntry (root count : Int) (e : TEntry) (p : TProof) : Bool := checkEntry root count e p
def spec_CheckEntry {ρ : Type} (k : Bool → Option ρ) (a0 : Int) (a1 : Int) (a2 : TEntry) (a3 : TProof) : Option ρ := (cond (G.spec_LeafOf a2) (cond (G.spec_IsEntry a2) (cond (N.spec_IsEntry a2) (cond (N.spec_TopFrom (N.spec_LeafOf a2) a3.1 a1 a3.2).2 (k ((N.spec_l10Root a1 (N.spec_TopFrom (N.spec_LeafOf a2) a3.1 a1 a3.2).1) == a0)) (k false)) (k false)) none) none)
theorem spec_CheckEntry_ok {ρ : Type} (k : Bool → Option ρ) (a0 : Int) (a1 : Int) (a2 : TEntry) (a3 : TProof) (l_a2 : (True ∧ (True ∧ (True ∧ lnL (fun _ => True) a2.2.2.2)))) (l_a3 : (True ∧ lnL (fun _ => True) a3.2)) (g : G.spec_CheckEntry a0 a1 a2 a3 = true) : spec_CheckEntry k  a0 a1 a2 a3 = k (N.spec_CheckEntry a0 a1 a2 a3) := by
  unfold G.spec_CheckEntry at g
  simp only [spec_CheckEntry, G.spec_IsEntry, N.spec_IsEntry, G.spec_LeafOf, N.spec_LeafOf, N.spec_TopFrom, N.spec_l10Root, N.spec_CheckEntry, g, cond_true, checkEntry]
  exact cond_and2 k _ _ _
def OP_spec_CheckEntry (f0 : TEntry → Int) (g0 : TEntry → Bool) (f1 : Int → Int → Int → (List Int) → (Int × Bool)) (f2 : TEntry → Bool) (g2 : TEntry → Bool) (f3 : Int → Int → Int) : Orac := (orcX 103 [.val (.int .i64), .val (.int .i64)] (fun d => true) (fun d => [⟨(.int .i64), f3 d.1 d.2.1⟩]) (orcX 85 [.val TyEntry] (fun d => g2 d.1) (fun d => [⟨.bool, f2 d.1⟩]) (orcX 108 [.val (.int .i64), .val (.int .i64), .val (.int .i64), .val (.slice 3 (.int .i64))] (fun d => true) (fun d => [⟨(.int .i64), (f1 d.1 d.2.1 d.2.2.1 d.2.2.2.1).1⟩, ⟨.bool, (f1 d.1 d.2.1 d.2.2.1 d.2.2.2.1).2⟩]) (orcX 109 [.val TyEntry] (fun d => g0 d.1) (fun d => [⟨(.int .i64), f0 d.1⟩]) nilO))))
def O_spec_CheckEntry : Orac := OP_spec_CheckEntry N.spec_LeafOf G.spec_LeafOf N.spec_TopFrom N.spec_IsEntry G.spec_IsEntry N.spec_l10Root
def spec_CheckEntry_P {ρ : Type} (f0 : TEntry → Int) (g0 : TEntry → Bool) (f1 : Int → Int → Int → (List Int) → (Int × Bool)) (f2 : TEntry → Bool) (g2 : TEntry → Bool) (f3 : Int → Int → Int) (k : Bool → Option ρ) (a0 : Int) (a1 : Int) (a2 : TEntry) (a3 : TProof) : Option ρ := (cond (g0 a2) (cond (g2 a2) (cond (f2 a2) (cond (f1 (f0 a2) a3.1 a1 a3.2).2 (k ((f3 a1 (f1 (f0 a2) a3.1 a1 a3.2).1) == a0)) (k false)) (k false)) none) none)
theorem ok_spec_CheckEntry : OracOk Tryz.prog sigs O_spec_CheckEntry := (orcX_ok rfl rfl (fun d g => said_spec_l10Root d.1 d.2.1) (orcX_ok rfl rfl (fun d g => said_spec_IsEntry d.1 g) (orcX_ok rfl rfl (fun d g => said_spec_TopFrom d.1 d.2.1 d.2.2.1 d.2.2.2.1) (orcX_ok rfl rfl (fun d g => said_spec_LeafOf d.1 g) nilO_ok))))
def A_spec_CheckEntry : Ann := fun b => ⟨[], []⟩
theorem aP_spec_CheckEntry (f0 : TEntry → Int) (g0 : TEntry → Bool) (f1 : Int → Int → Int → (List Int) → (Int × Bool)) (f2 : TEntry → Bool) (g2 : TEntry → Bool) (f3 : Int → Int → Int) (n : Nat) (a0 : Int) (a1 : Int) (a2 : TEntry) (a3 : TProof) : absF tab sigs (OP_spec_CheckEntry f0 g0 f1 f2 g2 f3) A_spec_CheckEntry Tryz.f56 [(.bool, .no)] n [.val (.int .i64) a0, .val (.int .i64) a1, .val TyEntry a2, .val (.pair (.int .i64) (.slice 3 (.int .i64))) a3] = spec_CheckEntry_P f0 g0 f1 f2 g2 f3 (fun r0 => some [⟨.bool, r0⟩])  a0 a1 a2 a3 := by kernel_rfl
theorem said_spec_CheckEntry (a0 : Int) (a1 : Int) (a2 : TEntry) (a3 : TProof) (g : G.spec_CheckEntry a0 a1 a2 a3 = true) : Said Tryz.prog sigs_56 56 [.val (.int .i64) a0, .val (.int .i64) a1, .val TyEntry a2, .val (.pair (.int .i64) (.slice 3 (.int .i64))) a3] [⟨.bool, N.spec_CheckEntry a0 a1 a2 a3⟩] := said_len (T := tab) (A := A_spec_CheckEntry) tabOk ok_spec_CheckEntry tabOk.follows Tryz.func56 (by kernel_rfl) (by kernel_rfl) (fun hl => ⟨0, (aP_spec_CheckEntry N.spec_LeafOf G.spec_LeafOf N.spec_TopFrom N.spec_IsEntry G.spec_IsEntry N.spec_l10Root 0 a0 a1 a2 a3).trans (spec_CheckEntry_ok (ρ := Ret) (fun r0 => some [⟨.bool, r0⟩]) a0 a1 a2 a3 hl.2.2.1 hl.2.2.2.1 g)⟩)
abbrev G.spec_CheckAbsence (root count : Int) (s : ByteArray) (g : TGap) : Bool := gI count && (gS s && decide (wG g ≤ 1048576))
abbrev N.spec_CheckAbsence (root count : Int) (s : ByteArray) (g : TGap) : Bool := checkAbsence root count s g
def spec_CheckAbsence_P {ρ : Type} (f0 : ByteArray → Bool) (g0 : ByteArray → Bool) (f1 : Int → Int → Int → Bool) (f2 : (List TEntry) → Int) (g2 : (List TEntry) → Bool) (f3 : TEntry → TProof → Bool) (f4 : Int → Int → TEntry → TProof → Bool) (g4 : Int → Int → TEntry → TProof → Bool) (f5 : ByteArray → ByteArray → Int) (k : Bool → Option ρ) (a0 : Int) (a1 : Int) (a2 : ByteArray) (a3 : TGap) : Option ρ := (cond (g0 a2) (cond (!(f0 a2)) (k false) (cond (!(f1 a3.1 (0 : Int) a1)) (k false) (cond (a1 == (0 : Int)) (cond (g2 ([] : (List (ByteArray × (Int × (Int × (List ByteArray))))))) (cond (a0 != (f2 ([] : (List (ByteArray × (Int × (Int × (List ByteArray)))))))) (k false) (cond (a3.1 == (0 : Int)) (cond (!(f3 a3.2.1 a3.2.2.2.1)) (k false) (cond (a3.1 == a1) (k (f3 a3.2.2.1 a3.2.2.2.2)) (cond (g4 a0 a1 a3.2.2.1 a3.2.2.2.2) (cond (f4 a0 a1 a3.2.2.1 a3.2.2.2.2) (cond (a3.2.2.2.2.1 == a3.1) (k ((f5 a3.2.2.1.1 a2) == (1 : Int))) (k false)) (k false)) none))) (cond (g4 a0 a1 a3.2.1 a3.2.2.2.1) (cond (!(f4 a0 a1 a3.2.1 a3.2.2.2.1)) (k false) (cond (a3.2.2.2.1.1 != (IntKind.wrap .i64 (a3.1 - (1 : Int)))) (k false) (cond ((f5 a3.2.1.1 a2) != (-1 : Int)) (k false) (cond (a3.1 == a1) (k (f3 a3.2.2.1 a3.2.2.2.2)) (cond (g4 a0 a1 a3.2.2.1 a3.2.2.2.2) (cond (f4 a0 a1 a3.2.2.1 a3.2.2.2.2) (cond (a3.2.2.2.2.1 == a3.1) (k ((f5 a3.2.2.1.1 a2) == (1 : Int))) (k false)) (k false)) none))))) none))) none) (cond (a3.1 == (0 : Int)) (cond (!(f3 a3.2.1 a3.2.2.2.1)) (k false) (cond (a3.1 == a1) (k (f3 a3.2.2.1 a3.2.2.2.2)) (cond (g4 a0 a1 a3.2.2.1 a3.2.2.2.2) (cond (f4 a0 a1 a3.2.2.1 a3.2.2.2.2) (cond (a3.2.2.2.2.1 == a3.1) (k ((f5 a3.2.2.1.1 a2) == (1 : Int))) (k false)) (k false)) none))) (cond (g4 a0 a1 a3.2.1 a3.2.2.2.1) (cond (!(f4 a0 a1 a3.2.1 a3.2.2.2.1)) (k false) (cond (a3.2.2.2.1.1 != (IntKind.wrap .i64 (a3.1 - (1 : Int)))) (k false) (cond ((f5 a3.2.1.1 a2) != (-1 : Int)) (k false) (cond (a3.1 == a1) (k (f3 a3.2.2.1 a3.2.2.2.2)) (cond (g4 a0 a1 a3.2.2.1 a3.2.2.2.2) (cond (f4 a0 a1 a3.2.2.1 a3.2.2.2.2) (cond (a3.2.2.2.2.1 == a3.1) (k ((f5 a3.2.2.1.1 a2) == (1 : Int))) (k false)) (k false)) none))))) none))))) none)
def spec_CheckAbsence {ρ : Type} (k : Bool → Option ρ) (a0 : Int) (a1 : Int) (a2 : ByteArray) (a3 : TGap) : Option ρ := spec_CheckAbsence_P N.spec_IsLabel G.spec_IsLabel N.spec_l1In N.spec_RootOf G.spec_RootOf N.spec_l12None N.spec_CheckEntry G.spec_CheckEntry N.spec_CompareLabels k a0 a1 a2 a3
theorem spec_CheckAbsence_ok {ρ : Type} (k : Bool → Option ρ) (a0 : Int) (a1 : Int) (a2 : ByteArray) (a3 : TGap) (l_a3 : (True ∧ ((True ∧ (True ∧ (True ∧ lnL (fun _ => True) a3.2.1.2.2.2))) ∧ ((True ∧ (True ∧ (True ∧ lnL (fun _ => True) a3.2.2.1.2.2.2))) ∧ ((True ∧ lnL (fun _ => True) a3.2.2.2.1.2) ∧ (True ∧ lnL (fun _ => True) a3.2.2.2.2.2)))))) (g : G.spec_CheckAbsence a0 a1 a2 a3 = true) : spec_CheckAbsence k  a0 a1 a2 a3 = k (N.spec_CheckAbsence a0 a1 a2 a3) := by
  unfold G.spec_CheckAbsence at g
  have g' := (Bool.and_eq_true _ _).mp g
  have hc := gI_iff.1 g'.1
  have g2 := (Bool.and_eq_true _ _).mp g'.2
  have hw : wG a3 ≤ 1048576 := of_decide_eq_true g2.2
  unfold wG at hw
  have d1 : decide (wE a3.2.1 ≤ 1048576) = true := decide_eq_true (by omega)
  have d2 : decide (wE a3.2.2.1 ≤ 1048576) = true := decide_eq_true (by omega)
  have d3 : G.spec_IsLabel a2 = true := g2.1
  have d4 : G.spec_RootOf [] = true := by decide
  show spec_CheckAbsence k a0 a1 a2 a3 = k (checkAbsence a0 a1 a2 a3)
  unfold checkAbsence
  simp only [spec_CheckAbsence, spec_CheckAbsence_P, d3, d4, N.spec_IsLabel, N.spec_l1In, N.spec_RootOf, N.spec_l12None, G.spec_CheckEntry, N.spec_CheckEntry, N.spec_CompareLabels, d1, d2, cond_true]
  cases isLabel a2
  · rfl
  cases hr : inR a3.1 0 a1 with
  | false => rfl
  | true =>
    have hr2 : 0 ≤ a3.1 ∧ a3.1 ≤ a1 := by simpa [inR] using hr
    rw [wrap_id (n := a3.1 - 1) (by omega) (by omega)]
    simp only [bne, Bool.not_true, Bool.not_false, cond_true, cond_false, Bool.true_and]
    exact absence_spec k _ _ _ _ _ _ _ _ _ _ _ _
def OP_spec_CheckAbsence (f0 : ByteArray → Bool) (g0 : ByteArray → Bool) (f1 : Int → Int → Int → Bool) (f2 : (List TEntry) → Int) (g2 : (List TEntry) → Bool) (f3 : TEntry → TProof → Bool) (f4 : Int → Int → TEntry → TProof → Bool) (g4 : Int → Int → TEntry → TProof → Bool) (f5 : ByteArray → ByteArray → Int) : Orac := (orcX 57 [.val .str, .val .str] (fun d => true) (fun d => [⟨(.int .i64), f5 d.1 d.2.1⟩]) (orcX 56 [.val (.int .i64), .val (.int .i64), .val TyEntry, .val (.pair (.int .i64) (.slice 3 (.int .i64)))] (fun d => g4 d.1 d.2.1 d.2.2.1 d.2.2.2.1) (fun d => [⟨.bool, f4 d.1 d.2.1 d.2.2.1 d.2.2.2.1⟩]) (orcX 55 [.val TyEntry, .val (.pair (.int .i64) (.slice 3 (.int .i64)))] (fun d => true) (fun d => [⟨.bool, f3 d.1 d.2.1⟩]) (orcX 52 [.val (.slice 29 TyEntry)] (fun d => g2 d.1) (fun d => [⟨(.int .i64), f2 d.1⟩]) (orcX 54 [.val (.int .i64), .val (.int .i64), .val (.int .i64)] (fun d => true) (fun d => [⟨.bool, f1 d.1 d.2.1 d.2.2.1⟩]) (orcX 35 [.val .str] (fun d => g0 d.1) (fun d => [⟨.bool, f0 d.1⟩]) nilO))))))
def O_spec_CheckAbsence : Orac := OP_spec_CheckAbsence N.spec_IsLabel G.spec_IsLabel N.spec_l1In N.spec_RootOf G.spec_RootOf N.spec_l12None N.spec_CheckEntry G.spec_CheckEntry N.spec_CompareLabels
theorem ok_spec_CheckAbsence : OracOk Tryz.prog sigs O_spec_CheckAbsence := (orcX_ok rfl rfl (fun d g => said_spec_CompareLabels d.1 d.2.1) (orcX_ok rfl rfl (fun d g => said_spec_CheckEntry d.1 d.2.1 d.2.2.1 d.2.2.2.1 g) (orcX_ok rfl rfl (fun d g => said_spec_l12None d.1 d.2.1) (orcX_ok rfl rfl (fun d g => said_spec_RootOf d.1 g) (orcX_ok rfl rfl (fun d g => said_spec_l1In d.1 d.2.1 d.2.2.1) (orcX_ok rfl rfl (fun d g => said_spec_IsLabel d.1 g) nilO_ok))))))
def A_spec_CheckAbsence : Ann := fun b => ⟨[], []⟩
theorem aP_spec_CheckAbsence (f0 : ByteArray → Bool) (g0 : ByteArray → Bool) (f1 : Int → Int → Int → Bool) (f2 : (List TEntry) → Int) (g2 : (List TEntry) → Bool) (f3 : TEntry → TProof → Bool) (f4 : Int → Int → TEntry → TProof → Bool) (g4 : Int → Int → TEntry → TProof → Bool) (f5 : ByteArray → ByteArray → Int) (n : Nat) (a0 : Int) (a1 : Int) (a2 : ByteArray) (a3 : TGap) : absF tab sigs (OP_spec_CheckAbsence f0 g0 f1 f2 g2 f3 f4 g4 f5) A_spec_CheckAbsence Tryz.f14 [(.bool, .no)] n [.val (.int .i64) a0, .val (.int .i64) a1, .val .str a2, .val (.pair (.int .i64) (.pair TyEntry (.pair TyEntry (.pair (.pair (.int .i64) (.slice 3 (.int .i64))) (.pair (.int .i64) (.slice 3 (.int .i64))))))) a3] = spec_CheckAbsence_P f0 g0 f1 f2 g2 f3 f4 g4 f5 (fun r0 => some [⟨.bool, r0⟩])  a0 a1 a2 a3 := by kernel_rfl
theorem said_spec_CheckAbsence (a0 : Int) (a1 : Int) (a2 : ByteArray) (a3 : TGap) (g : G.spec_CheckAbsence a0 a1 a2 a3 = true) : Said Tryz.prog sigs_14 14 [.val (.int .i64) a0, .val (.int .i64) a1, .val .str a2, .val (.pair (.int .i64) (.pair TyEntry (.pair TyEntry (.pair (.pair (.int .i64) (.slice 3 (.int .i64))) (.pair (.int .i64) (.slice 3 (.int .i64))))))) a3] [⟨.bool, N.spec_CheckAbsence a0 a1 a2 a3⟩] := said_len (T := tab) (A := A_spec_CheckAbsence) tabOk ok_spec_CheckAbsence tabOk.follows Tryz.func14 (by kernel_rfl) (by kernel_rfl) (fun hl => ⟨0, (aP_spec_CheckAbsence N.spec_IsLabel G.spec_IsLabel N.spec_l1In N.spec_RootOf G.spec_RootOf N.spec_l12None N.spec_CheckEntry G.spec_CheckEntry N.spec_CompareLabels 0 a0 a1 a2 a3).trans (spec_CheckAbsence_ok (ρ := Ret) (fun r0 => some [⟨.bool, r0⟩]) a0 a1 a2 a3 hl.2.2.2.1 g)⟩)
end Go.Proofs.YthgbcbnmdioknaaGreat.Ref
