/- Functions of the program: what each computes, and that it does so.
   Conditions: as each theorem states. -/
import Derived.Test.YteaahdhmhbmdgaaSB0
set_option linter.unusedVariables false
set_option linter.unusedSimpArgs false
set_option maxRecDepth 100000
namespace Go.Proofs.Yteaahdhmhbmdgaa.Ref
open Go.RowKit Go.Proofs.YteaahdhmhbmdgaaW.PrintWords Go.Proofs.YteaahdhmhbmdgaaW.PrintLast
/-! laws.eqKeys -/
abbrev N.laws_eqKeys (a b : TKeys) : Bool := eqKeys a b
def laws_eqKeys {ρ : Type} (k : Bool → Option ρ) (a0 : TKeys) (a1 : TKeys) : Option ρ := (cond (!(N.laws_eqIntS a0.1 a1.1)) (k false) (cond (a0.2 != a1.2) (k false) (k true)))
theorem laws_eqKeys_ok {ρ : Type} (k : Bool → Option ρ) (a0 : TKeys) (a1 : TKeys) (l_a0 : (lnL (fun _ => True) a0.1 ∧ True)) (l_a1 : (lnL (fun _ => True) a1.1 ∧ True)) : laws_eqKeys k  a0 a1 = k (N.laws_eqKeys a0 a1) := by
  simp only [laws_eqKeys, N.laws_eqKeys, N.laws_eqIntS, eqKeys, bne]
  cases eqInts a0.1 a1.1 <;> cases a0.2 == a1.2 <;> rfl
def O_laws_eqKeys : Orac := (orcX 17 [.val (.slice 3 (.int .i64)), .val (.slice 3 (.int .i64))] (fun d => true) (fun d => [⟨.bool, N.laws_eqIntS d.1 d.2.1⟩]) nilO)
theorem ok_laws_eqKeys : OracOk Try.prog sigs O_laws_eqKeys := (orcX_ok rfl (fun d g => said_laws_eqIntS d.1 d.2.1) nilO_ok)
def A_laws_eqKeys : Ann := fun b => ⟨[], []⟩
theorem a_laws_eqKeys (n : Nat) (a0 : TKeys) (a1 : TKeys) : absF tab sigs O_laws_eqKeys A_laws_eqKeys Try.f28 [(.bool, .no)] n [.val (.pair (.slice 3 (.int .i64)) (.int .i64)) a0, .val (.pair (.slice 3 (.int .i64)) (.int .i64)) a1] = laws_eqKeys (fun r0 => some [⟨.bool, r0⟩])  a0 a1 := by kernel_rfl
theorem said_laws_eqKeys (a0 : TKeys) (a1 : TKeys) : Said Try.prog sigs_28 28 [.val (.pair (.slice 3 (.int .i64)) (.int .i64)) a0, .val (.pair (.slice 3 (.int .i64)) (.int .i64)) a1] [⟨.bool, N.laws_eqKeys a0 a1⟩] := said_len (T := tab) (A := A_laws_eqKeys) tabOk ok_laws_eqKeys tabOk.follows Try.func28 (by kernel_rfl) (by kernel_rfl) (fun hl => ⟨0, (a_laws_eqKeys 0 a0 a1).trans (laws_eqKeys_ok (ρ := Ret) (fun r0 => some [⟨.bool, r0⟩]) a0 a1 hl.1 hl.2.1)⟩)
/-! laws.szHead -/
abbrev G.laws_szHead (a : THead) (left : Int) : Bool := gL left
abbrev N.laws_szHead (a : THead) (left : Int) : Int := sub1 (wH a) left
def laws_szHead {ρ : Type} (k : Int → Option ρ) (a0 : THead) (a1 : Int) : Option ρ := (cond (G.laws_szKeys a0.2.2.2.2.2.2.2.2.1 a1) (cond (decide ((N.laws_szKeys a0.2.2.2.2.2.2.2.2.1 a1) < (0 : Int))) (k (-1 : Int)) (cond (G.laws_szKeys a0.2.2.2.2.2.2.2.2.2.1 (N.laws_szKeys a0.2.2.2.2.2.2.2.2.1 a1)) (cond (decide ((N.laws_szKeys a0.2.2.2.2.2.2.2.2.2.1 (N.laws_szKeys a0.2.2.2.2.2.2.2.2.1 a1)) < (0 : Int))) (k (-1 : Int)) (cond (G.laws_szKeys a0.2.2.2.2.2.2.2.2.2.2.2.1 (N.laws_szKeys a0.2.2.2.2.2.2.2.2.2.1 (N.laws_szKeys a0.2.2.2.2.2.2.2.2.1 a1))) (cond (decide ((N.laws_szKeys a0.2.2.2.2.2.2.2.2.2.2.2.1 (N.laws_szKeys a0.2.2.2.2.2.2.2.2.2.1 (N.laws_szKeys a0.2.2.2.2.2.2.2.2.1 a1))) < (0 : Int))) (k (-1 : Int)) (k (N.laws_szKeys a0.2.2.2.2.2.2.2.2.2.2.2.1 (N.laws_szKeys a0.2.2.2.2.2.2.2.2.2.1 (N.laws_szKeys a0.2.2.2.2.2.2.2.2.1 a1))))) none)) none)) none)
theorem laws_szHead_ok {ρ : Type} (k : Int → Option ρ) (a0 : THead) (a1 : Int) (l_a0 : (True ∧ (True ∧ (True ∧ (True ∧ (True ∧ (True ∧ (True ∧ (True ∧ ((lnL (fun _ => True) a0.2.2.2.2.2.2.2.2.1.1 ∧ True) ∧ ((lnL (fun _ => True) a0.2.2.2.2.2.2.2.2.2.1.1 ∧ True) ∧ (True ∧ ((lnL (fun _ => True) a0.2.2.2.2.2.2.2.2.2.2.2.1.1 ∧ True) ∧ True))))))))))))) (g : G.laws_szHead a0 a1 = true) : laws_szHead k  a0 a1 = k (N.laws_szHead a0 a1) := by
  unfold G.laws_szHead at g
  show cond (gL a1) _ none = _
  rw [g]
  refine sz_then g (fun g1 => ?_)
  show cond (gL _) _ none = _
  rw [g1]
  refine sz_then g1 (fun g2 => ?_)
  show cond (gL _) _ none = _
  rw [g2]
  exact sz_last
def O_laws_szHead : Orac := (orcX 24 [.val (.pair (.slice 3 (.int .i64)) (.int .i64)), .val (.int .i64)] (fun d => G.laws_szKeys d.1 d.2.1) (fun d => [⟨(.int .i64), N.laws_szKeys d.1 d.2.1⟩]) nilO)
theorem ok_laws_szHead : OracOk Try.prog sigs O_laws_szHead := (orcX_ok rfl (fun d g => said_laws_szKeys d.1 d.2.1 g) nilO_ok)
def A_laws_szHead : Ann := fun b => ⟨[], []⟩
theorem a_laws_szHead (n : Nat) (a0 : THead) (a1 : Int) : absF tab sigs O_laws_szHead A_laws_szHead Try.f29 [((.int .i64), .no)] n [.val (.pair (.int .i64) (.pair (.int .i64) (.pair (.int .i64) (.pair (.int .i64) (.pair (.int .i64) (.pair (.int .i64) (.pair (.int .i64) (.pair (.int .i64) (.pair (.pair (.slice 3 (.int .i64)) (.int .i64)) (.pair (.pair (.slice 3 (.int .i64)) (.int .i64)) (.pair (.int .i64) (.pair (.pair (.slice 3 (.int .i64)) (.int .i64)) .bool)))))))))))) a0, .val (.int .i64) a1] = laws_szHead (fun r0 => some [⟨(.int .i64), r0⟩])  a0 a1 := by kernel_rfl
theorem said_laws_szHead (a0 : THead) (a1 : Int) (g : G.laws_szHead a0 a1 = true) : Said Try.prog sigs_29 29 [.val (.pair (.int .i64) (.pair (.int .i64) (.pair (.int .i64) (.pair (.int .i64) (.pair (.int .i64) (.pair (.int .i64) (.pair (.int .i64) (.pair (.int .i64) (.pair (.pair (.slice 3 (.int .i64)) (.int .i64)) (.pair (.pair (.slice 3 (.int .i64)) (.int .i64)) (.pair (.int .i64) (.pair (.pair (.slice 3 (.int .i64)) (.int .i64)) .bool)))))))))))) a0, .val (.int .i64) a1] [⟨(.int .i64), N.laws_szHead a0 a1⟩] := said_len (T := tab) (A := A_laws_szHead) tabOk ok_laws_szHead tabOk.follows Try.func29 (by kernel_rfl) (by kernel_rfl) (fun hl => ⟨0, (a_laws_szHead 0 a0 a1).trans (laws_szHead_ok (ρ := Ret) (fun r0 => some [⟨(.int .i64), r0⟩]) a0 a1 hl.1 g)⟩)
/-! laws.toHead -/
abbrev G.laws_toHead (a : THead) : Bool := decide (wH a ≤ 1048576)
abbrev N.laws_toHead (a : THead) : THead := a
def laws_toHead {ρ : Type} (k : THead → Option ρ) (a0 : THead) : Option ρ := (cond (G.laws_toKeys a0.2.2.2.2.2.2.2.2.1) (cond (G.laws_toKeys a0.2.2.2.2.2.2.2.2.2.1) (cond (G.laws_toKeys a0.2.2.2.2.2.2.2.2.2.2.2.1) (k (a0.1, (a0.2.1, (a0.2.2.1, (a0.2.2.2.1, (a0.2.2.2.2.1, (a0.2.2.2.2.2.1, (a0.2.2.2.2.2.2.1, (a0.2.2.2.2.2.2.2.1, ((N.laws_toKeys a0.2.2.2.2.2.2.2.2.1), ((N.laws_toKeys a0.2.2.2.2.2.2.2.2.2.1), (a0.2.2.2.2.2.2.2.2.2.2.1, ((N.laws_toKeys a0.2.2.2.2.2.2.2.2.2.2.2.1), a0.2.2.2.2.2.2.2.2.2.2.2.2))))))))))))) none) none) none)
theorem laws_toHead_ok {ρ : Type} (k : THead → Option ρ) (a0 : THead) (l_a0 : (True ∧ (True ∧ (True ∧ (True ∧ (True ∧ (True ∧ (True ∧ (True ∧ ((lnL (fun _ => True) a0.2.2.2.2.2.2.2.2.1.1 ∧ True) ∧ ((lnL (fun _ => True) a0.2.2.2.2.2.2.2.2.2.1.1 ∧ True) ∧ (True ∧ ((lnL (fun _ => True) a0.2.2.2.2.2.2.2.2.2.2.2.1.1 ∧ True) ∧ True))))))))))))) (g : G.laws_toHead a0 = true) : laws_toHead k  a0 = k (N.laws_toHead a0) := by
  unfold G.laws_toHead at g
  have g' : wH a0 ≤ 1048576 := by simpa using g
  unfold wH at g'
  have g1 : decide (wK a0.2.2.2.2.2.2.2.2.1 ≤ 1048576) = true := by simp; omega
  have g2 : decide (wK a0.2.2.2.2.2.2.2.2.2.1 ≤ 1048576) = true := by simp; omega
  have g3 : decide (wK a0.2.2.2.2.2.2.2.2.2.2.2.1 ≤ 1048576) = true := by simp; omega
  simp only [laws_toHead, G.laws_toKeys, g1, g2, g3, cond_true]
def O_laws_toHead : Orac := (orcX 26 [.val (.pair (.slice 3 (.int .i64)) (.int .i64))] (fun d => G.laws_toKeys d.1) (fun d => [⟨(.pair (.slice 3 (.int .i64)) (.int .i64)), N.laws_toKeys d.1⟩]) nilO)
theorem ok_laws_toHead : OracOk Try.prog sigs O_laws_toHead := (orcX_ok rfl (fun d g => said_laws_toKeys d.1 g) nilO_ok)
def A_laws_toHead : Ann := fun b => ⟨[], []⟩
theorem a_laws_toHead (n : Nat) (a0 : THead) : absF tab sigs O_laws_toHead A_laws_toHead Try.f31 [((.pair (.int .i64) (.pair (.int .i64) (.pair (.int .i64) (.pair (.int .i64) (.pair (.int .i64) (.pair (.int .i64) (.pair (.int .i64) (.pair (.int .i64) (.pair (.pair (.slice 3 (.int .i64)) (.int .i64)) (.pair (.pair (.slice 3 (.int .i64)) (.int .i64)) (.pair (.int .i64) (.pair (.pair (.slice 3 (.int .i64)) (.int .i64)) .bool)))))))))))), (.pair .no (.pair .no (.pair .no (.pair .no (.pair .no (.pair .no (.pair .no (.pair .no (.pair (.pair (.own 0) .no) (.pair (.pair (.own 1) .no) (.pair .no (.pair (.pair (.own 2) .no) .no)))))))))))))] n [.val (.pair (.int .i64) (.pair (.int .i64) (.pair (.int .i64) (.pair (.int .i64) (.pair (.int .i64) (.pair (.int .i64) (.pair (.int .i64) (.pair (.int .i64) (.pair (.pair (.slice 3 (.int .i64)) (.int .i64)) (.pair (.pair (.slice 3 (.int .i64)) (.int .i64)) (.pair (.int .i64) (.pair (.pair (.slice 3 (.int .i64)) (.int .i64)) .bool)))))))))))) a0] = laws_toHead (fun r0 => some [⟨(.pair (.int .i64) (.pair (.int .i64) (.pair (.int .i64) (.pair (.int .i64) (.pair (.int .i64) (.pair (.int .i64) (.pair (.int .i64) (.pair (.int .i64) (.pair (.pair (.slice 3 (.int .i64)) (.int .i64)) (.pair (.pair (.slice 3 (.int .i64)) (.int .i64)) (.pair (.int .i64) (.pair (.pair (.slice 3 (.int .i64)) (.int .i64)) .bool)))))))))))), r0⟩])  a0 := by kernel_rfl
theorem said_laws_toHead (a0 : THead) (g : G.laws_toHead a0 = true) : Said Try.prog sigs_31 31 [.val (.pair (.int .i64) (.pair (.int .i64) (.pair (.int .i64) (.pair (.int .i64) (.pair (.int .i64) (.pair (.int .i64) (.pair (.int .i64) (.pair (.int .i64) (.pair (.pair (.slice 3 (.int .i64)) (.int .i64)) (.pair (.pair (.slice 3 (.int .i64)) (.int .i64)) (.pair (.int .i64) (.pair (.pair (.slice 3 (.int .i64)) (.int .i64)) .bool)))))))))))) a0] [⟨(.pair (.int .i64) (.pair (.int .i64) (.pair (.int .i64) (.pair (.int .i64) (.pair (.int .i64) (.pair (.int .i64) (.pair (.int .i64) (.pair (.int .i64) (.pair (.pair (.slice 3 (.int .i64)) (.int .i64)) (.pair (.pair (.slice 3 (.int .i64)) (.int .i64)) (.pair (.int .i64) (.pair (.pair (.slice 3 (.int .i64)) (.int .i64)) .bool)))))))))))), N.laws_toHead a0⟩] := said_len (T := tab) (A := A_laws_toHead) tabOk ok_laws_toHead tabOk.follows Try.func31 (by kernel_rfl) (by kernel_rfl) (fun hl => ⟨0, (a_laws_toHead 0 a0).trans (laws_toHead_ok (ρ := Ret) (fun r0 => some [⟨(.pair (.int .i64) (.pair (.int .i64) (.pair (.int .i64) (.pair (.int .i64) (.pair (.int .i64) (.pair (.int .i64) (.pair (.int .i64) (.pair (.int .i64) (.pair (.pair (.slice 3 (.int .i64)) (.int .i64)) (.pair (.pair (.slice 3 (.int .i64)) (.int .i64)) (.pair (.int .i64) (.pair (.pair (.slice 3 (.int .i64)) (.int .i64)) .bool)))))))))))), r0⟩]) a0 hl.1 g)⟩)
/-! spec.SameContents -/
abbrev N.spec_SameContents (a b : THead) : Bool := sameContents a b
def spec_SameContents {ρ : Type} (k : Bool → Option ρ) (a0 : THead) (a1 : THead) : Option ρ := (cond (a0.2.2.2.2.2.1 == a1.2.2.2.2.2.1) (k (a0.2.2.2.2.2.2.1 == a1.2.2.2.2.2.2.1)) (k false))
theorem spec_SameContents_ok {ρ : Type} (k : Bool → Option ρ) (a0 : THead) (a1 : THead) (l_a0 : (True ∧ (True ∧ (True ∧ (True ∧ (True ∧ (True ∧ (True ∧ (True ∧ ((lnL (fun _ => True) a0.2.2.2.2.2.2.2.2.1.1 ∧ True) ∧ ((lnL (fun _ => True) a0.2.2.2.2.2.2.2.2.2.1.1 ∧ True) ∧ (True ∧ ((lnL (fun _ => True) a0.2.2.2.2.2.2.2.2.2.2.2.1.1 ∧ True) ∧ True))))))))))))) (l_a1 : (True ∧ (True ∧ (True ∧ (True ∧ (True ∧ (True ∧ (True ∧ (True ∧ ((lnL (fun _ => True) a1.2.2.2.2.2.2.2.2.1.1 ∧ True) ∧ ((lnL (fun _ => True) a1.2.2.2.2.2.2.2.2.2.1.1 ∧ True) ∧ (True ∧ ((lnL (fun _ => True) a1.2.2.2.2.2.2.2.2.2.2.2.1.1 ∧ True) ∧ True))))))))))))) : spec_SameContents k  a0 a1 = k (N.spec_SameContents a0 a1) := by
  simp only [spec_SameContents, sameContents]
  cases a0.2.2.2.2.2.1 == a1.2.2.2.2.2.1 <;> rfl
def O_spec_SameContents : Orac := nilO
theorem ok_spec_SameContents : OracOk Try.prog sigs O_spec_SameContents := nilO_ok
def A_spec_SameContents : Ann := fun b => ⟨[], []⟩
theorem a_spec_SameContents (n : Nat) (a0 : THead) (a1 : THead) : absF tab sigs O_spec_SameContents A_spec_SameContents Try.f30 [(.bool, .no)] n [.val (.pair (.int .i64) (.pair (.int .i64) (.pair (.int .i64) (.pair (.int .i64) (.pair (.int .i64) (.pair (.int .i64) (.pair (.int .i64) (.pair (.int .i64) (.pair (.pair (.slice 3 (.int .i64)) (.int .i64)) (.pair (.pair (.slice 3 (.int .i64)) (.int .i64)) (.pair (.int .i64) (.pair (.pair (.slice 3 (.int .i64)) (.int .i64)) .bool)))))))))))) a0, .val (.pair (.int .i64) (.pair (.int .i64) (.pair (.int .i64) (.pair (.int .i64) (.pair (.int .i64) (.pair (.int .i64) (.pair (.int .i64) (.pair (.int .i64) (.pair (.pair (.slice 3 (.int .i64)) (.int .i64)) (.pair (.pair (.slice 3 (.int .i64)) (.int .i64)) (.pair (.int .i64) (.pair (.pair (.slice 3 (.int .i64)) (.int .i64)) .bool)))))))))))) a1] = spec_SameContents (fun r0 => some [⟨.bool, r0⟩])  a0 a1 := by kernel_rfl
theorem said_spec_SameContents (a0 : THead) (a1 : THead) : Said Try.prog sigs_30 30 [.val (.pair (.int .i64) (.pair (.int .i64) (.pair (.int .i64) (.pair (.int .i64) (.pair (.int .i64) (.pair (.int .i64) (.pair (.int .i64) (.pair (.int .i64) (.pair (.pair (.slice 3 (.int .i64)) (.int .i64)) (.pair (.pair (.slice 3 (.int .i64)) (.int .i64)) (.pair (.int .i64) (.pair (.pair (.slice 3 (.int .i64)) (.int .i64)) .bool)))))))))))) a0, .val (.pair (.int .i64) (.pair (.int .i64) (.pair (.int .i64) (.pair (.int .i64) (.pair (.int .i64) (.pair (.int .i64) (.pair (.int .i64) (.pair (.int .i64) (.pair (.pair (.slice 3 (.int .i64)) (.int .i64)) (.pair (.pair (.slice 3 (.int .i64)) (.int .i64)) (.pair (.int .i64) (.pair (.pair (.slice 3 (.int .i64)) (.int .i64)) .bool)))))))))))) a1] [⟨.bool, N.spec_SameContents a0 a1⟩] := said_len (T := tab) (A := A_spec_SameContents) tabOk ok_spec_SameContents tabOk.follows Try.func30 (by kernel_rfl) (by kernel_rfl) (fun hl => ⟨0, (a_spec_SameContents 0 a0 a1).trans (spec_SameContents_ok (ρ := Ret) (fun r0 => some [⟨.bool, r0⟩]) a0 a1 hl.1 hl.2.1)⟩)
/-! impl.SameContents -/
abbrev N.impl_SameContents (a b : THead) : Bool := sameContents a b
def impl_SameContents {ρ : Type} (k : Bool → Option ρ) (a0 : THead) (a1 : THead) : Option ρ := (cond (a0.2.2.2.2.2.1 == a1.2.2.2.2.2.1) (k (a0.2.2.2.2.2.2.1 == a1.2.2.2.2.2.2.1)) (k false))
theorem impl_SameContents_ok {ρ : Type} (k : Bool → Option ρ) (a0 : THead) (a1 : THead) (l_a0 : (True ∧ (True ∧ (True ∧ (True ∧ (True ∧ (True ∧ (True ∧ (True ∧ ((lnL (fun _ => True) a0.2.2.2.2.2.2.2.2.1.1 ∧ True) ∧ ((lnL (fun _ => True) a0.2.2.2.2.2.2.2.2.2.1.1 ∧ True) ∧ (True ∧ ((lnL (fun _ => True) a0.2.2.2.2.2.2.2.2.2.2.2.1.1 ∧ True) ∧ True))))))))))))) (l_a1 : (True ∧ (True ∧ (True ∧ (True ∧ (True ∧ (True ∧ (True ∧ (True ∧ ((lnL (fun _ => True) a1.2.2.2.2.2.2.2.2.1.1 ∧ True) ∧ ((lnL (fun _ => True) a1.2.2.2.2.2.2.2.2.2.1.1 ∧ True) ∧ (True ∧ ((lnL (fun _ => True) a1.2.2.2.2.2.2.2.2.2.2.2.1.1 ∧ True) ∧ True))))))))))))) : impl_SameContents k  a0 a1 = k (N.impl_SameContents a0 a1) := by
  simp only [impl_SameContents, sameContents]
  cases a0.2.2.2.2.2.1 == a1.2.2.2.2.2.1 <;> rfl
def O_impl_SameContents : Orac := nilO
theorem ok_impl_SameContents : OracOk Try.prog sigs O_impl_SameContents := nilO_ok
def A_impl_SameContents : Ann := fun b => ⟨[], []⟩
theorem a_impl_SameContents (n : Nat) (a0 : THead) (a1 : THead) : absF tab sigs O_impl_SameContents A_impl_SameContents Try.f32 [(.bool, .no)] n [.val (.pair (.int .i64) (.pair (.int .i64) (.pair (.int .i64) (.pair (.int .i64) (.pair (.int .i64) (.pair (.int .i64) (.pair (.int .i64) (.pair (.int .i64) (.pair (.pair (.slice 3 (.int .i64)) (.int .i64)) (.pair (.pair (.slice 3 (.int .i64)) (.int .i64)) (.pair (.int .i64) (.pair (.pair (.slice 3 (.int .i64)) (.int .i64)) .bool)))))))))))) a0, .val (.pair (.int .i64) (.pair (.int .i64) (.pair (.int .i64) (.pair (.int .i64) (.pair (.int .i64) (.pair (.int .i64) (.pair (.int .i64) (.pair (.int .i64) (.pair (.pair (.slice 3 (.int .i64)) (.int .i64)) (.pair (.pair (.slice 3 (.int .i64)) (.int .i64)) (.pair (.int .i64) (.pair (.pair (.slice 3 (.int .i64)) (.int .i64)) .bool)))))))))))) a1] = impl_SameContents (fun r0 => some [⟨.bool, r0⟩])  a0 a1 := by kernel_rfl
theorem said_impl_SameContents (a0 : THead) (a1 : THead) : Said Try.prog sigs_32 32 [.val (.pair (.int .i64) (.pair (.int .i64) (.pair (.int .i64) (.pair (.int .i64) (.pair (.int .i64) (.pair (.int .i64) (.pair (.int .i64) (.pair (.int .i64) (.pair (.pair (.slice 3 (.int .i64)) (.int .i64)) (.pair (.pair (.slice 3 (.int .i64)) (.int .i64)) (.pair (.int .i64) (.pair (.pair (.slice 3 (.int .i64)) (.int .i64)) .bool)))))))))))) a0, .val (.pair (.int .i64) (.pair (.int .i64) (.pair (.int .i64) (.pair (.int .i64) (.pair (.int .i64) (.pair (.int .i64) (.pair (.int .i64) (.pair (.int .i64) (.pair (.pair (.slice 3 (.int .i64)) (.int .i64)) (.pair (.pair (.slice 3 (.int .i64)) (.int .i64)) (.pair (.int .i64) (.pair (.pair (.slice 3 (.int .i64)) (.int .i64)) .bool)))))))))))) a1] [⟨.bool, N.impl_SameContents a0 a1⟩] := said_len (T := tab) (A := A_impl_SameContents) tabOk ok_impl_SameContents tabOk.follows Try.func32 (by kernel_rfl) (by kernel_rfl) (fun hl => ⟨0, (a_impl_SameContents 0 a0 a1).trans (impl_SameContents_ok (ρ := Ret) (fun r0 => some [⟨.bool, r0⟩]) a0 a1 hl.1 hl.2.1)⟩)
/-! laws.eqHead -/
abbrev N.laws_eqHead (a b : THead) : Bool := eqHead a b
def laws_eqHead {ρ : Type} (k : Bool → Option ρ) (a0 : THead) (a1 : THead) : Option ρ := (cond (a0.1 != a1.1) (k false) (cond (a0.2.1 != a1.2.1) (k false) (cond (a0.2.2.1 != a1.2.2.1) (k false) (cond (a0.2.2.2.1 != a1.2.2.2.1) (k false) (cond (a0.2.2.2.2.1 != a1.2.2.2.2.1) (k false) (cond (a0.2.2.2.2.2.1 != a1.2.2.2.2.2.1) (k false) (cond (a0.2.2.2.2.2.2.1 != a1.2.2.2.2.2.2.1) (k false) (cond (a0.2.2.2.2.2.2.2.1 != a1.2.2.2.2.2.2.2.1) (k false) (cond (!(N.laws_eqKeys a0.2.2.2.2.2.2.2.2.1 a1.2.2.2.2.2.2.2.2.1)) (k false) (cond (!(N.laws_eqKeys a0.2.2.2.2.2.2.2.2.2.1 a1.2.2.2.2.2.2.2.2.2.1)) (k false) (cond (a0.2.2.2.2.2.2.2.2.2.2.1 != a1.2.2.2.2.2.2.2.2.2.2.1) (k false) (cond (!(N.laws_eqKeys a0.2.2.2.2.2.2.2.2.2.2.2.1 a1.2.2.2.2.2.2.2.2.2.2.2.1)) (k false) (cond (a0.2.2.2.2.2.2.2.2.2.2.2.2 != a1.2.2.2.2.2.2.2.2.2.2.2.2) (k false) (k true))))))))))))))
theorem laws_eqHead_ok {ρ : Type} (k : Bool → Option ρ) (a0 : THead) (a1 : THead) (l_a0 : (True ∧ (True ∧ (True ∧ (True ∧ (True ∧ (True ∧ (True ∧ (True ∧ ((lnL (fun _ => True) a0.2.2.2.2.2.2.2.2.1.1 ∧ True) ∧ ((lnL (fun _ => True) a0.2.2.2.2.2.2.2.2.2.1.1 ∧ True) ∧ (True ∧ ((lnL (fun _ => True) a0.2.2.2.2.2.2.2.2.2.2.2.1.1 ∧ True) ∧ True))))))))))))) (l_a1 : (True ∧ (True ∧ (True ∧ (True ∧ (True ∧ (True ∧ (True ∧ (True ∧ ((lnL (fun _ => True) a1.2.2.2.2.2.2.2.2.1.1 ∧ True) ∧ ((lnL (fun _ => True) a1.2.2.2.2.2.2.2.2.2.1.1 ∧ True) ∧ (True ∧ ((lnL (fun _ => True) a1.2.2.2.2.2.2.2.2.2.2.2.1.1 ∧ True) ∧ True))))))))))))) : laws_eqHead k  a0 a1 = k (N.laws_eqHead a0 a1) := by
  simp only [laws_eqHead, N.laws_eqHead, N.laws_eqKeys, eqHead, bne]
  cases a0.1 == a1.1
  · rfl
  cases a0.2.1 == a1.2.1
  · rfl
  cases a0.2.2.1 == a1.2.2.1
  · rfl
  cases a0.2.2.2.1 == a1.2.2.2.1
  · rfl
  cases a0.2.2.2.2.1 == a1.2.2.2.2.1
  · rfl
  cases a0.2.2.2.2.2.1 == a1.2.2.2.2.2.1
  · rfl
  cases a0.2.2.2.2.2.2.1 == a1.2.2.2.2.2.2.1
  · rfl
  cases a0.2.2.2.2.2.2.2.1 == a1.2.2.2.2.2.2.2.1
  · rfl
  cases eqKeys a0.2.2.2.2.2.2.2.2.1 a1.2.2.2.2.2.2.2.2.1
  · rfl
  cases eqKeys a0.2.2.2.2.2.2.2.2.2.1 a1.2.2.2.2.2.2.2.2.2.1
  · rfl
  cases a0.2.2.2.2.2.2.2.2.2.2.1 == a1.2.2.2.2.2.2.2.2.2.2.1
  · rfl
  cases eqKeys a0.2.2.2.2.2.2.2.2.2.2.2.1 a1.2.2.2.2.2.2.2.2.2.2.2.1
  · rfl
  cases a0.2.2.2.2.2.2.2.2.2.2.2.2 == a1.2.2.2.2.2.2.2.2.2.2.2.2 <;> rfl
def O_laws_eqHead : Orac := (orcX 28 [.val (.pair (.slice 3 (.int .i64)) (.int .i64)), .val (.pair (.slice 3 (.int .i64)) (.int .i64))] (fun d => true) (fun d => [⟨.bool, N.laws_eqKeys d.1 d.2.1⟩]) nilO)
theorem ok_laws_eqHead : OracOk Try.prog sigs O_laws_eqHead := (orcX_ok rfl (fun d g => said_laws_eqKeys d.1 d.2.1) nilO_ok)
def A_laws_eqHead : Ann := fun b => ⟨[], []⟩
theorem a_laws_eqHead (n : Nat) (a0 : THead) (a1 : THead) : absF tab sigs O_laws_eqHead A_laws_eqHead Try.f33 [(.bool, .no)] n [.val (.pair (.int .i64) (.pair (.int .i64) (.pair (.int .i64) (.pair (.int .i64) (.pair (.int .i64) (.pair (.int .i64) (.pair (.int .i64) (.pair (.int .i64) (.pair (.pair (.slice 3 (.int .i64)) (.int .i64)) (.pair (.pair (.slice 3 (.int .i64)) (.int .i64)) (.pair (.int .i64) (.pair (.pair (.slice 3 (.int .i64)) (.int .i64)) .bool)))))))))))) a0, .val (.pair (.int .i64) (.pair (.int .i64) (.pair (.int .i64) (.pair (.int .i64) (.pair (.int .i64) (.pair (.int .i64) (.pair (.int .i64) (.pair (.int .i64) (.pair (.pair (.slice 3 (.int .i64)) (.int .i64)) (.pair (.pair (.slice 3 (.int .i64)) (.int .i64)) (.pair (.int .i64) (.pair (.pair (.slice 3 (.int .i64)) (.int .i64)) .bool)))))))))))) a1] = laws_eqHead (fun r0 => some [⟨.bool, r0⟩])  a0 a1 := by kernel_rfl
theorem said_laws_eqHead (a0 : THead) (a1 : THead) : Said Try.prog sigs_33 33 [.val (.pair (.int .i64) (.pair (.int .i64) (.pair (.int .i64) (.pair (.int .i64) (.pair (.int .i64) (.pair (.int .i64) (.pair (.int .i64) (.pair (.int .i64) (.pair (.pair (.slice 3 (.int .i64)) (.int .i64)) (.pair (.pair (.slice 3 (.int .i64)) (.int .i64)) (.pair (.int .i64) (.pair (.pair (.slice 3 (.int .i64)) (.int .i64)) .bool)))))))))))) a0, .val (.pair (.int .i64) (.pair (.int .i64) (.pair (.int .i64) (.pair (.int .i64) (.pair (.int .i64) (.pair (.int .i64) (.pair (.int .i64) (.pair (.int .i64) (.pair (.pair (.slice 3 (.int .i64)) (.int .i64)) (.pair (.pair (.slice 3 (.int .i64)) (.int .i64)) (.pair (.int .i64) (.pair (.pair (.slice 3 (.int .i64)) (.int .i64)) .bool)))))))))))) a1] [⟨.bool, N.laws_eqHead a0 a1⟩] := said_len (T := tab) (A := A_laws_eqHead) tabOk ok_laws_eqHead tabOk.follows Try.func33 (by kernel_rfl) (by kernel_rfl) (fun hl => ⟨0, (a_laws_eqHead 0 a0 a1).trans (laws_eqHead_ok (ρ := Ret) (fun r0 => some [⟨.bool, r0⟩]) a0 a1 hl.1 hl.2.1)⟩)
end Go.Proofs.Yteaahdhmhbmdgaa.Ref
