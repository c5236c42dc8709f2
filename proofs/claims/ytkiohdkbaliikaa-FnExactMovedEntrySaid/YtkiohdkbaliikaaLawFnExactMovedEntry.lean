/- FnExactMovedEntry: it returns true, for all arguments.
   Conditions: none. -/
import Derived.Test.YtkiohdkbaliikaaRows
import Derived.Test.YtkiohdkbaliikaaSLFnExactMovedEntry
import Derived.WalkKit
import Derived.ProofKit
import Derived.OpenShut
import Derived.ShutString
import Derived.ChangeOld
import Derived.Below
import Derived.SizedLaws
namespace Go.Proofs.Ytkiohdkbaliikaa.fnExactMovedEntry
open Go.ChangeShapes Go.WideShapes Go.ChangeAt Go.RowKit
open Go.Proofs.Ytkiohdkbaliikaa.Ref
set_option linter.unusedVariables false
theorem own : ownKnob Try.prog.godebug = none := by kernel_rfl
theorem said_all (l : List Dv) (hl : l.map (·.1) = [.str, (.int .i64), (.slice 9 .str)]) (hok : ∀ d ∈ l, okT d.1 d.2) : Said Try.prog [(.bool, .no)] 4 (avs l) [⟨.bool, true⟩] := by
  match l, hl, hok with
  | [⟨t0, x0⟩, ⟨t1, x1⟩, ⟨t2, x2⟩], hl, hok =>
    injection hl with e0 hl
    injection hl with e1 hl
    injection hl with e2 hl
    cases e0
    cases e1
    cases e2
    exact said_laws_FnExactMovedEntry x0 x1 x2 (hok ⟨_, x0⟩ (by simp)) (hok ⟨_, x1⟩ (by simp)) (hok ⟨_, x2⟩ (by simp))
set_option maxRecDepth 100000 in
theorem lifted (os : Os) (started : os.Started) (H : Type) (enc : TypeId × Value → H) :
    ReturnsInHanded {} Try.checked os 4 .any (Rows.fnExactMovedEntrySpec.pre6 enc Try.prog Try.f4 Rows.fnExactMovedEntryRow.domain false) (Rows.fnExactMovedEntrySpec.post enc Try.prog Try.f4 false true false false) := by
  refine returnsInHanded_of_change_sized (C := Try.checked) own started (by kernel_rfl) Try.func4
    (ChangeSpec.witness6 (enc := enc) (C := Try.checked) false ⟨#[], #[.string ByteArray.empty, .int .i64 0, .slice none 0 0], []⟩ 8 (by kernel_rfl) (by kernel_rfl) (by kernel_rfl) (by kernel_rfl)) ?_
  intro W base args ds gs before hval hW hcnd hsz _
  exact calls_post (ts := [.str, (.int .i64), (.slice 9 .str)]) (b := 4) (by kernel_rfl) (by kernel_rfl) (by kernel_rfl) rfl (by kernel_rfl) (by kernel_rfl) (by kernel_rfl) (by kernel_rfl)
    (fun ds hlen => by
      match ds, hlen with
      | [d0, d1, d2], _ => rfl) said_all hval hW
theorem over : Rows.fnExactMovedEntryRow.holds Try.pinned (OpenSpec.ofChange Rows.fnExactMovedEntrySpec) :=
  OpenClaim.holds_of_wide 4 Try.f4 rfl rfl rfl rfl rfl rfl rfl ⟨rfl, rfl, rfl, rfl, rfl⟩ rfl rfl rfl rfl rfl (by kernel_rfl) Try.func4 (by kernel_rfl)
    (of_decide_eq_true (by kernel_rfl)) (by unfold Func.isWrapper; first | (rw [if_pos (by decide +kernel)]; kernel_rfl) | (rw [if_neg (by decide +kernel)]; exact ⟨rfl, rfl⟩))
    (fun os started H enc _ => lifted os started H enc)
theorem proved : Rows.FnExactMovedEntrySaid := over
#print axioms proved
end Go.Proofs.Ytkiohdkbaliikaa.fnExactMovedEntry
namespace Go.Proofs.Ytkiohdkbaliikaa
/-- The row, under a short name, for the claim. -/
theorem fnExactMovedEntry_holds : Rows.FnExactMovedEntrySaid := fnExactMovedEntry.proved
end Go.Proofs.Ytkiohdkbaliikaa
