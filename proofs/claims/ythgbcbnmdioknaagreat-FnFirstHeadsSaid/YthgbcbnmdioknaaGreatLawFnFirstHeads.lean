/- FnFirstHeads: it returns true, for all arguments.
   Conditions: none. -/
import Derived.Test.YthgbcbnmdioknaaGreatRows
import Derived.Test.YthgbcbnmdioknaaGreatSLFnFirstHeads
import Derived.WalkKit
import Derived.ProofKit
import Derived.OpenShut
import Derived.ShutString
import Derived.ChangeOld
import Derived.Below
import Derived.SizedLaws
namespace Go.Proofs.YthgbcbnmdioknaaGreat.fnFirstHeads
open Go.ChangeShapes Go.WideShapes Go.ChangeAt Go.RowKit
open Go.Proofs.YthgbcbnmdioknaaGreat.Ref
set_option linter.unusedVariables false
theorem own : ownKnob Tryz.prog.godebug = none := by kernel_rfl
theorem said_all (l : List Dv) (hl : l.map (·.1) = [(.slice 5 (.int .u8))]) (hok : ∀ d ∈ l, okT d.1 d.2) : Said Tryz.prog [(.bool, .no)] 4 (avs l) [⟨.bool, true⟩] := by
  match l, hl, hok with
  | [⟨t0, x0⟩], hl, hok =>
    injection hl with e0 hl

    cases e0
    exact said_laws_FnFirstHeads x0 (hok ⟨_, x0⟩ (by simp))
set_option maxRecDepth 100000 in
theorem lifted (os : Os) (started : os.Started) (H : Type) (enc : TypeId × Value → H) :
    ReturnsInHanded {} Tryz.checked os 4 .any (Rows.fnFirstHeadsSpec.pre6 enc Tryz.prog Tryz.f4 Rows.fnFirstHeadsRow.domain false) (Rows.fnFirstHeadsSpec.post enc Tryz.prog Tryz.f4 false true false false) := by
  refine returnsInHanded_of_change_sized (C := Tryz.checked) own started (by kernel_rfl) Tryz.func4
    (ChangeSpec.witness6 (enc := enc) (C := Tryz.checked) false ⟨#[], #[.slice none 0 0], []⟩ 8 (by kernel_rfl) (by kernel_rfl) (by kernel_rfl) (by kernel_rfl)) ?_
  intro W base args ds gs before hval hW hcnd hsz _
  exact calls_post (ts := [(.slice 5 (.int .u8))]) (b := 4) (by kernel_rfl) (by kernel_rfl) (by kernel_rfl) rfl (by kernel_rfl) (by kernel_rfl) (by kernel_rfl) (by kernel_rfl)
    (fun ds hlen => by
      match ds, hlen with
      | [d0], _ => rfl) said_all hval hW
theorem over : Rows.fnFirstHeadsRow.holds Tryz.pinned (OpenSpec.ofChange Rows.fnFirstHeadsSpec) :=
  OpenClaim.holds_of_wide 4 Tryz.f4 rfl rfl rfl rfl rfl rfl rfl ⟨rfl, rfl, rfl, rfl, rfl⟩ rfl rfl rfl rfl rfl (by kernel_rfl) Tryz.func4 (by kernel_rfl)
    (of_decide_eq_true (by kernel_rfl)) (by unfold Func.isWrapper; first | (rw [if_pos (by decide +kernel)]; kernel_rfl) | (rw [if_neg (by decide +kernel)]; exact ⟨rfl, rfl⟩))
    (fun os started H enc _ => lifted os started H enc)
theorem proved : Rows.FnFirstHeadsSaid := over
#print axioms proved
end Go.Proofs.YthgbcbnmdioknaaGreat.fnFirstHeads
namespace Go.Proofs.YthgbcbnmdioknaaGreat
/-- The row, under a short name, for the claim. -/
theorem fnFirstHeads_holds : Rows.FnFirstHeadsSaid := fnFirstHeads.proved
end Go.Proofs.YthgbcbnmdioknaaGreat
