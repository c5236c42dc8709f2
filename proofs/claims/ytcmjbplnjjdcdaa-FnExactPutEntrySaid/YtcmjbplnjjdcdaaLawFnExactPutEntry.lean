/- FnExactPutEntry: it returns true, for all arguments.
   Conditions: none. -/
import Derived.Test.YtcmjbplnjjdcdaaRows
import Derived.Test.YtcmjbplnjjdcdaaSLFnExactPutEntry
import Derived.WalkKit
import Derived.ProofKit
import Derived.OpenShut
import Derived.ShutString
import Derived.ChangeOld
import Derived.Below
import Derived.SizedLaws
namespace Go.Proofs.Ytcmjbplnjjdcdaa.fnExactPutEntry
open Go.ChangeShapes Go.WideShapes Go.ChangeAt Go.RowKit
open Go.Proofs.Ytcmjbplnjjdcdaa.Ref
set_option linter.unusedVariables false
theorem own : ownKnob Try.prog.godebug = none := by kernel_rfl
theorem said_all (l : List Dv) (hl : l.map (·.1) = [(.slice 25 TyEntry), TyEntry]) (hok : ∀ d ∈ l, okT d.1 d.2) : Said Try.prog [(.bool, .no)] 3 (avs l) [⟨.bool, true⟩] := by
  match l, hl, hok with
  | [⟨t0, x0⟩, ⟨t1, x1⟩], hl, hok =>
    injection hl with e0 hl
    injection hl with e1 hl
    cases e0
    cases e1
    exact said_laws_FnExactPutEntry x0 x1 (hok ⟨_, x0⟩ (by simp)) (hok ⟨_, x1⟩ (by simp))
set_option maxRecDepth 100000 in
theorem lifted (os : Os) (started : os.Started) (H : Type) (enc : TypeId × Value → H) :
    ReturnsInHanded {} Try.checked os 3 .any (Rows.fnExactPutEntrySpec.pre6 enc Try.prog Try.f3 Rows.fnExactPutEntryRow.domain false) (Rows.fnExactPutEntrySpec.post enc Try.prog Try.f3 false true false false) := by
  refine returnsInHanded_of_change_sized (C := Try.checked) own started (by kernel_rfl) Try.func3
    (ChangeSpec.witness6 (enc := enc) (C := Try.checked) false ⟨#[], #[.slice none 0 0, .agg #[.string ByteArray.empty, .int .i64 0, .int .i64 0, .slice none 0 0]], []⟩ 8 (by kernel_rfl) (by kernel_rfl) (by kernel_rfl) (by kernel_rfl)) ?_
  intro W base args ds gs before hval hW hcnd hsz _
  exact calls_post (ts := [(.slice 25 TyEntry), TyEntry]) (b := 4) (by kernel_rfl) (by kernel_rfl) (by kernel_rfl) rfl (by kernel_rfl) (by kernel_rfl) (by kernel_rfl) (by kernel_rfl)
    (fun ds hlen => by
      match ds, hlen with
      | [d0, d1], _ => rfl) said_all hval hW
theorem over : Rows.fnExactPutEntryRow.holds Try.pinned (OpenSpec.ofChange Rows.fnExactPutEntrySpec) :=
  OpenClaim.holds_of_wide 3 Try.f3 rfl rfl rfl rfl rfl rfl rfl ⟨rfl, rfl, rfl, rfl, rfl⟩ rfl rfl rfl rfl rfl (by kernel_rfl) Try.func3 (by kernel_rfl)
    (of_decide_eq_true (by kernel_rfl)) (by unfold Func.isWrapper; first | (rw [if_pos (by decide +kernel)]; kernel_rfl) | (rw [if_neg (by decide +kernel)]; exact ⟨rfl, rfl⟩))
    (fun os started H enc _ => lifted os started H enc)
theorem proved : Rows.FnExactPutEntrySaid := over
#print axioms proved
end Go.Proofs.Ytcmjbplnjjdcdaa.fnExactPutEntry
namespace Go.Proofs.Ytcmjbplnjjdcdaa
/-- The row, under a short name, for the claim. -/
theorem fnExactPutEntry_holds : Rows.FnExactPutEntrySaid := fnExactPutEntry.proved
end Go.Proofs.Ytcmjbplnjjdcdaa
