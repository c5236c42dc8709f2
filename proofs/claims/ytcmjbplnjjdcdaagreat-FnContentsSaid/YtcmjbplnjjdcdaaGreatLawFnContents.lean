/- FnContents: it returns true, for all arguments.
   Conditions: none. -/
import Derived.Test.YtcmjbplnjjdcdaaGreatRows
import Derived.Test.YtcmjbplnjjdcdaaGreatSLFnContents
import Derived.WalkKit
import Derived.ProofKit
import Derived.OpenShut
import Derived.ShutString
import Derived.ChangeOld
import Derived.Below
import Derived.SizedLaws
namespace Go.Proofs.YtcmjbplnjjdcdaaGreat.fnContents
open Go.ChangeShapes Go.WideShapes Go.ChangeAt Go.RowKit
open Go.Proofs.YtcmjbplnjjdcdaaGreat.Ref
set_option linter.unusedVariables false
theorem own : ownKnob Tryz.prog.godebug = none := by kernel_rfl
theorem said_all (l : List Dv) (hl : l.map (·.1) = [(.slice 5 (.int .u8))]) (hok : ∀ d ∈ l, okT d.1 d.2) : Said Tryz.prog [(.bool, .no)] 3 (avs l) [⟨.bool, true⟩] := by
  match l, hl, hok with
  | [⟨t0, x0⟩], hl, hok =>
    injection hl with e0 hl

    cases e0
    exact said_laws_FnContents x0 (hok ⟨_, x0⟩ (by simp))
set_option maxRecDepth 100000 in
theorem lifted (os : Os) (started : os.Started) (H : Type) (enc : TypeId × Value → H) :
    ReturnsInHanded {} Tryz.checked os 3 .any (Rows.fnContentsSpec.pre6 enc Tryz.prog Tryz.f3 Rows.fnContentsRow.domain false) (Rows.fnContentsSpec.post enc Tryz.prog Tryz.f3 false true false false) := by
  refine returnsInHanded_of_change_sized (C := Tryz.checked) own started (by kernel_rfl) Tryz.func3
    (ChangeSpec.witness6 (enc := enc) (C := Tryz.checked) false ⟨#[], #[.slice none 0 0], []⟩ 8 (by kernel_rfl) (by kernel_rfl) (by kernel_rfl) (by kernel_rfl)) ?_
  intro W base args ds gs before hval hW hcnd hsz _
  exact calls_post (ts := [(.slice 5 (.int .u8))]) (b := 4) (by kernel_rfl) (by kernel_rfl) (by kernel_rfl) rfl (by kernel_rfl) (by kernel_rfl) (by kernel_rfl) (by kernel_rfl)
    (fun ds hlen => by
      match ds, hlen with
      | [d0], _ => rfl) said_all hval hW
theorem over : Rows.fnContentsRow.holds Tryz.pinned (OpenSpec.ofChange Rows.fnContentsSpec) :=
  OpenClaim.holds_of_wide 3 Tryz.f3 rfl rfl rfl rfl rfl rfl rfl ⟨rfl, rfl, rfl, rfl, rfl⟩ rfl rfl rfl rfl rfl (by kernel_rfl) Tryz.func3 (by kernel_rfl)
    (of_decide_eq_true (by kernel_rfl)) (by unfold Func.isWrapper; first | (rw [if_pos (by decide +kernel)]; kernel_rfl) | (rw [if_neg (by decide +kernel)]; exact ⟨rfl, rfl⟩))
    (fun os started H enc _ => lifted os started H enc)
theorem proved : Rows.FnContentsSaid := over
#print axioms proved
end Go.Proofs.YtcmjbplnjjdcdaaGreat.fnContents
namespace Go.Proofs.YtcmjbplnjjdcdaaGreat
/-- The row, under a short name, for the claim. -/
theorem fnContents_holds : Rows.FnContentsSaid := fnContents.proved
end Go.Proofs.YtcmjbplnjjdcdaaGreat
