/- FnExactFirstHead: it returns true, for all arguments.
   Conditions: none. -/
import Derived.Test.YthcenfbfgjcikaaRows
import Derived.Test.YthcenfbfgjcikaaSLFnExactFirstHead
import Derived.WalkKit
import Derived.ProofKit
import Derived.OpenShut
import Derived.ShutString
import Derived.ChangeOld
import Derived.Below
import Derived.SizedLaws
namespace Go.Proofs.Ythcenfbfgjcikaa.fnExactFirstHead
open Go.ChangeShapes Go.WideShapes Go.ChangeAt Go.RowKit
open Go.Proofs.Ythcenfbfgjcikaa.Ref
set_option linter.unusedVariables false
theorem own : ownKnob Try.prog.godebug = none := by kernel_rfl
theorem said_all (l : List Dv) (hl : l.map (·.1) = [(.pair (.slice 3 (.int .i64)) (.int .i64)), (.int .i64), (.slice 84 TyEntry), (.int .i64), (.int .i64)]) (hok : ∀ d ∈ l, okT d.1 d.2) : Said Try.prog [(.bool, .no)] 7 (avs l) [⟨.bool, true⟩] := by
  match l, hl, hok with
  | [⟨t0, x0⟩, ⟨t1, x1⟩, ⟨t2, x2⟩, ⟨t3, x3⟩, ⟨t4, x4⟩], hl, hok =>
    injection hl with e0 hl
    injection hl with e1 hl
    injection hl with e2 hl
    injection hl with e3 hl
    injection hl with e4 hl
    cases e0
    cases e1
    cases e2
    cases e3
    cases e4
    exact said_laws_FnExactFirstHead x0 x1 x2 x3 x4 (hok ⟨_, x0⟩ (by simp)) (hok ⟨_, x1⟩ (by simp)) (hok ⟨_, x2⟩ (by simp)) (hok ⟨_, x3⟩ (by simp)) (hok ⟨_, x4⟩ (by simp))
set_option maxRecDepth 100000 in
theorem lifted (os : Os) (started : os.Started) (H : Type) (enc : TypeId × Value → H) :
    ReturnsInHanded {} Try.checked os 7 .any (Rows.fnExactFirstHeadSpec.pre6 enc Try.prog Try.f7 Rows.fnExactFirstHeadRow.domain false) (Rows.fnExactFirstHeadSpec.post enc Try.prog Try.f7 false true false false) := by
  refine returnsInHanded_of_change_sized (C := Try.checked) own started (by kernel_rfl) Try.func7
    (ChangeSpec.witness6 (enc := enc) (C := Try.checked) false ⟨#[], #[.agg #[.slice none 0 0, .int .i64 0], .int .i64 0, .slice none 0 0, .int .i64 0, .int .i64 0], []⟩ 8 (by kernel_rfl) (by kernel_rfl) (by kernel_rfl) (by kernel_rfl)) ?_
  intro W base args ds gs before hval hW hcnd hsz _
  exact calls_post (ts := [(.pair (.slice 3 (.int .i64)) (.int .i64)), (.int .i64), (.slice 84 TyEntry), (.int .i64), (.int .i64)]) (b := 4) (by kernel_rfl) (by kernel_rfl) (by kernel_rfl) rfl (by kernel_rfl) (by kernel_rfl) (by kernel_rfl) (by kernel_rfl)
    (fun ds hlen => by
      match ds, hlen with
      | [d0, d1, d2, d3, d4], _ => rfl) said_all hval hW
theorem over : Rows.fnExactFirstHeadRow.holds Try.pinned (OpenSpec.ofChange Rows.fnExactFirstHeadSpec) :=
  OpenClaim.holds_of_wide 7 Try.f7 rfl rfl rfl rfl rfl rfl rfl ⟨rfl, rfl, rfl, rfl, rfl⟩ rfl rfl rfl rfl rfl (by kernel_rfl) Try.func7 (by kernel_rfl)
    (of_decide_eq_true (by kernel_rfl)) (by unfold Func.isWrapper; first | (rw [if_pos (by decide +kernel)]; kernel_rfl) | (rw [if_neg (by decide +kernel)]; exact ⟨rfl, rfl⟩))
    (fun os started H enc _ => lifted os started H enc)
theorem proved : Rows.FnExactFirstHeadSaid := over
#print axioms proved
end Go.Proofs.Ythcenfbfgjcikaa.fnExactFirstHead
namespace Go.Proofs.Ythcenfbfgjcikaa
/-- The row, under a short name, for the claim. -/
theorem fnExactFirstHead_holds : Rows.FnExactFirstHeadSaid := fnExactFirstHead.proved
end Go.Proofs.Ythcenfbfgjcikaa
