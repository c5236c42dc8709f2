/- FnExactAlikeIn: it returns true, for all arguments.
   Conditions: none. -/
import Derived.Test.YtcmjbplnjjdcdaaRows
import Derived.Test.YtcmjbplnjjdcdaaSLFnExactAlikeIn
import Derived.WalkKit
import Derived.ProofKit
import Derived.OpenShut
import Derived.ShutString
import Derived.ChangeOld
import Derived.Below
import Derived.SizedLaws
namespace Go.Proofs.Ytcmjbplnjjdcdaa.fnExactAlikeIn
open Go.ChangeShapes Go.WideShapes Go.ChangeAt Go.RowKit
open Go.Proofs.Ytcmjbplnjjdcdaa.Ref
set_option linter.unusedVariables false
theorem own : ownKnob Try.prog.godebug = none := by kernel_rfl
theorem said_all (l : List Dv) (hl : l.map (·.1) = [(.slice 25 TyEntry), .str]) (hok : ∀ d ∈ l, okT d.1 d.2) : Said Try.prog [(.bool, .no)] 4 (avs l) [⟨.bool, true⟩] := by
  match l, hl, hok with
  | [⟨t0, x0⟩, ⟨t1, x1⟩], hl, hok =>
    injection hl with e0 hl
    injection hl with e1 hl
    cases e0
    cases e1
    exact said_laws_FnExactAlikeIn x0 x1 (hok ⟨_, x0⟩ (by simp)) (hok ⟨_, x1⟩ (by simp))
set_option maxRecDepth 100000 in
theorem lifted (os : Os) (started : os.Started) (H : Type) (enc : TypeId × Value → H) :
    ReturnsInHanded {} Try.checked os 4 .any (Rows.fnExactAlikeInSpec.pre6 enc Try.prog Try.f4 Rows.fnExactAlikeInRow.domain false) (Rows.fnExactAlikeInSpec.post enc Try.prog Try.f4 false true false false) := by
  refine returnsInHanded_of_change_sized (C := Try.checked) own started (by kernel_rfl) Try.func4
    (ChangeSpec.witness6 (enc := enc) (C := Try.checked) false ⟨#[], #[.slice none 0 0, .string ByteArray.empty], []⟩ 8 (by kernel_rfl) (by kernel_rfl) (by kernel_rfl) (by kernel_rfl)) ?_
  intro W base args ds gs before hval hW hcnd hsz _
  exact calls_post (ts := [(.slice 25 TyEntry), .str]) (b := 4) (by kernel_rfl) (by kernel_rfl) (by kernel_rfl) rfl (by kernel_rfl) (by kernel_rfl) (by kernel_rfl) (by kernel_rfl)
    (fun ds hlen => by
      match ds, hlen with
      | [d0, d1], _ => rfl) said_all hval hW
theorem over : Rows.fnExactAlikeInRow.holds Try.pinned (OpenSpec.ofChange Rows.fnExactAlikeInSpec) :=
  OpenClaim.holds_of_wide 4 Try.f4 rfl rfl rfl rfl rfl rfl rfl ⟨rfl, rfl, rfl, rfl, rfl⟩ rfl rfl rfl rfl rfl (by kernel_rfl) Try.func4 (by kernel_rfl)
    (of_decide_eq_true (by kernel_rfl)) (by unfold Func.isWrapper; first | (rw [if_pos (by decide +kernel)]; kernel_rfl) | (rw [if_neg (by decide +kernel)]; exact ⟨rfl, rfl⟩))
    (fun os started H enc _ => lifted os started H enc)
theorem proved : Rows.FnExactAlikeInSaid := over
#print axioms proved
end Go.Proofs.Ytcmjbplnjjdcdaa.fnExactAlikeIn
namespace Go.Proofs.Ytcmjbplnjjdcdaa
/-- The row, under a short name, for the claim. -/
theorem fnExactAlikeIn_holds : Rows.FnExactAlikeInSaid := fnExactAlikeIn.proved
end Go.Proofs.Ytcmjbplnjjdcdaa
