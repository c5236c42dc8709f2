/-
  No cell of these rows narrows 'for every input' (looked for: loops, veiled, ifaces, maps, wideKeys, modest, calm, conditions, laid).
  DERIVED. THE GIVEN ROWS OF THIS SEAT. 6 by the template 'for every input the law returns true; each argument reads behind the call as it read before'; 0 by the template 'total and deterministic' (their statements: YteaahdhmhbmdgaaTotals.lean).
  GIVEN WITH THE SEED: the statements are not yours to turn. If you find one false, say at which input.
  Laid BY PROGRAM, IN A SANDBOX (cutbox-rows.mjs): the forced cells as the released guide's own fill.sh prints them over the translation 2cbc469eb0a91557… (all of the seat's roots in one cut). By AI agents, Wed Nov 11 2026. No macro, syntax, notation, axiom, sorry.
-/
import Derived.Test.YteaahdhmhbmdgaaChecked
import GoSem.Claim
import GoSem.ClaimJoined
import GoSem.ClaimMapViews
import Derived.JoinedTies
import Derived.KernelRfl
namespace Go.Proofs.Yteaahdhmhbmdgaa
/- THE CELL 'sum', in the pinned program and in every row, IS THE sha256 OF THE DUMP (.gsa) THAT YteaahdhmhbmdgaaProg.lean LOADS. Nothing in Lean hashes anything: it is a label: what it is worth is what the hold of that sum in a sandbox is worth. -/
noncomputable def Try.pinned : Pinned := { name := "yteaahdhmhbmdgaa", sum := "2cbc469eb0a915570d30c1d8361a201545981eb4b877b79a39c3720d44ac843e", checked := Try.checked }
namespace Rows
def none {H : Type} : Left H := { results := [], args := [] }

/-- 'laws.FnExactEqualProofs': WHATEVER THE INPUT: true; the input reads as it did. -/
def fnExactEqualProofsSpec : ChangeSpec := { name := "fnExactEqualProofs", fn := fun _ => fun
  | [d1, d2] => { results := [.lit (.bool true)], args := [d1, d2] }
  | _ => none }
def fnExactEqualProofsRow : OpenClaim := { program := "yteaahdhmhbmdgaa", sum := "2cbc469eb0a915570d30c1d8361a201545981eb4b877b79a39c3720d44ac843e", func := "loop.example/g00588/laws.FnExactEqualProofs", spec := "fnExactEqualProofs", apart := false }
def FnExactEqualProofsSaid : Prop := fnExactEqualProofsRow.holds Try.pinned (OpenSpec.ofChange fnExactEqualProofsSpec)

/-- ITS FALSE NEIGHBOUR: 'it returns false'. Refute it at one input. -/
def fnExactEqualProofsWrong : ChangeSpec := { name := "fnExactEqualProofs", fn := fun _ => fun
  | [d1, d2] => { results := [.lit (.bool false)], args := [d1, d2] }
  | _ => none }
def FnExactEqualProofsWrongFalsely : Prop := fnExactEqualProofsRow.holds Try.pinned (OpenSpec.ofChange fnExactEqualProofsWrong)

/-- 'laws.FnExactTopOf': WHATEVER THE INPUT: true; the input reads as it did. -/
def fnExactTopOfSpec : ChangeSpec := { name := "fnExactTopOf", fn := fun _ => fun
  | [d] => { results := [.lit (.bool true)], args := [d] }
  | _ => none }
def fnExactTopOfRow : OpenClaim := { program := "yteaahdhmhbmdgaa", sum := "2cbc469eb0a915570d30c1d8361a201545981eb4b877b79a39c3720d44ac843e", func := "loop.example/g00588/laws.FnExactTopOf", spec := "fnExactTopOf", apart := false }
def FnExactTopOfSaid : Prop := fnExactTopOfRow.holds Try.pinned (OpenSpec.ofChange fnExactTopOfSpec)

/-- ITS FALSE NEIGHBOUR: 'it returns false'. Refute it at one input. -/
def fnExactTopOfWrong : ChangeSpec := { name := "fnExactTopOf", fn := fun _ => fun
  | [d] => { results := [.lit (.bool false)], args := [d] }
  | _ => none }
def FnExactTopOfWrongFalsely : Prop := fnExactTopOfRow.holds Try.pinned (OpenSpec.ofChange fnExactTopOfWrong)

/-- 'laws.FnExactTopFrom': WHATEVER THE INPUT: true; the input reads as it did. -/
def fnExactTopFromSpec : ChangeSpec := { name := "fnExactTopFrom", fn := fun _ => fun
  | [d1, d2, d3, d4] => { results := [.lit (.bool true)], args := [d1, d2, d3, d4] }
  | _ => none }
def fnExactTopFromRow : OpenClaim := { program := "yteaahdhmhbmdgaa", sum := "2cbc469eb0a915570d30c1d8361a201545981eb4b877b79a39c3720d44ac843e", func := "loop.example/g00588/laws.FnExactTopFrom", spec := "fnExactTopFrom", apart := false }
def FnExactTopFromSaid : Prop := fnExactTopFromRow.holds Try.pinned (OpenSpec.ofChange fnExactTopFromSpec)

/-- ITS FALSE NEIGHBOUR: 'it returns false'. Refute it at one input. -/
def fnExactTopFromWrong : ChangeSpec := { name := "fnExactTopFrom", fn := fun _ => fun
  | [d1, d2, d3, d4] => { results := [.lit (.bool false)], args := [d1, d2, d3, d4] }
  | _ => none }
def FnExactTopFromWrongFalsely : Prop := fnExactTopFromRow.holds Try.pinned (OpenSpec.ofChange fnExactTopFromWrong)

/-- 'laws.FnExactPathFor': WHATEVER THE INPUT: true; the input reads as it did. -/
def fnExactPathForSpec : ChangeSpec := { name := "fnExactPathFor", fn := fun _ => fun
  | [d1, d2] => { results := [.lit (.bool true)], args := [d1, d2] }
  | _ => none }
def fnExactPathForRow : OpenClaim := { program := "yteaahdhmhbmdgaa", sum := "2cbc469eb0a915570d30c1d8361a201545981eb4b877b79a39c3720d44ac843e", func := "loop.example/g00588/laws.FnExactPathFor", spec := "fnExactPathFor", apart := false }
def FnExactPathForSaid : Prop := fnExactPathForRow.holds Try.pinned (OpenSpec.ofChange fnExactPathForSpec)

/-- ITS FALSE NEIGHBOUR: 'it returns false'. Refute it at one input. -/
def fnExactPathForWrong : ChangeSpec := { name := "fnExactPathFor", fn := fun _ => fun
  | [d1, d2] => { results := [.lit (.bool false)], args := [d1, d2] }
  | _ => none }
def FnExactPathForWrongFalsely : Prop := fnExactPathForRow.holds Try.pinned (OpenSpec.ofChange fnExactPathForWrong)

/-- 'laws.FnExactZoneOf': WHATEVER THE INPUT: true; the input reads as it did. -/
def fnExactZoneOfSpec : ChangeSpec := { name := "fnExactZoneOf", fn := fun _ => fun
  | [d1, d2] => { results := [.lit (.bool true)], args := [d1, d2] }
  | _ => none }
def fnExactZoneOfRow : OpenClaim := { program := "yteaahdhmhbmdgaa", sum := "2cbc469eb0a915570d30c1d8361a201545981eb4b877b79a39c3720d44ac843e", func := "loop.example/g00588/laws.FnExactZoneOf", spec := "fnExactZoneOf", apart := false }
def FnExactZoneOfSaid : Prop := fnExactZoneOfRow.holds Try.pinned (OpenSpec.ofChange fnExactZoneOfSpec)

/-- ITS FALSE NEIGHBOUR: 'it returns false'. Refute it at one input. -/
def fnExactZoneOfWrong : ChangeSpec := { name := "fnExactZoneOf", fn := fun _ => fun
  | [d1, d2] => { results := [.lit (.bool false)], args := [d1, d2] }
  | _ => none }
def FnExactZoneOfWrongFalsely : Prop := fnExactZoneOfRow.holds Try.pinned (OpenSpec.ofChange fnExactZoneOfWrong)

/-- 'laws.FnExactSameContents': WHATEVER THE INPUT: true; the input reads as it did. -/
def fnExactSameContentsSpec : ChangeSpec := { name := "fnExactSameContents", fn := fun _ => fun
  | [d1, d2] => { results := [.lit (.bool true)], args := [d1, d2] }
  | _ => none }
def fnExactSameContentsRow : OpenClaim := { program := "yteaahdhmhbmdgaa", sum := "2cbc469eb0a915570d30c1d8361a201545981eb4b877b79a39c3720d44ac843e", func := "loop.example/g00588/laws.FnExactSameContents", spec := "fnExactSameContents", apart := false }
def FnExactSameContentsSaid : Prop := fnExactSameContentsRow.holds Try.pinned (OpenSpec.ofChange fnExactSameContentsSpec)

/-- ITS FALSE NEIGHBOUR: 'it returns false'. Refute it at one input. -/
def fnExactSameContentsWrong : ChangeSpec := { name := "fnExactSameContents", fn := fun _ => fun
  | [d1, d2] => { results := [.lit (.bool false)], args := [d1, d2] }
  | _ => none }
def FnExactSameContentsWrongFalsely : Prop := fnExactSameContentsRow.holds Try.pinned (OpenSpec.ofChange fnExactSameContentsWrong)

/- THE SECOND FORM. 'bulk': how many values and letters a reading holds, each counted each time it is reached (what is shared counts as often as it is met; a slice's spare places count too). A statement '..UptoSaid' is the law's where the arguments, and the package variables that the reading takes, are together of bulk at most 1048576: NARROWER than '..Said'. Prove '..Said' where nothing that the law and all that it calls make is longer than what came in: it says more and counts as full. Else prove '..UptoSaid'. A law counts once. -/
mutual
def uptoBulk {H : Type} : DataW H → Nat
  | .lit (.string bytes) => bytes.length + 1
  | .lit _ => 1
  | .nil => 1
  | .ptr d => uptoBulk d + 1
  | .slice elems spare => uptoBulkAll elems + uptoBulkAll spare + 1
  | .agg parts => uptoBulkAll parts + 1
  | .iface _ d => uptoBulk d + 1
  | .map entries => uptoBulkEntries entries + 1
  | .held _ => 1
def uptoBulkAll {H : Type} : List (DataW H) → Nat
  | [] => 0
  | d :: r => uptoBulk d + uptoBulkAll r
def uptoBulkEntries {H : Type} : List (Lit × DataW H) → Nat
  | [] => 0
  | x :: r => uptoBulkEntry x + uptoBulkEntries r
def uptoBulkEntry {H : Type} : Lit × DataW H → Nat
  | (.string bytes, d) => bytes.length + uptoBulk d + 1
  | (_, d) => uptoBulk d + 1
 end
def uptoSmall : (H : Type) → List (DataW H) → Bool := fun _ ds => decide (uptoBulkAll ds ≤ 1048576)
def OpenSpec.upto (s : _root_.Go.ChangeSpec) : _root_.Go.OpenSpec := { _root_.Go.OpenSpec.ofChange s with cond := some uptoSmall }

/-- 'laws.FnExactEqualProofs', WHERE WHAT IT READS IS OF BULK AT MOST 1048576: true; the input reads as it did. -/
def fnExactEqualProofsUptoRow : OpenClaim := { program := "yteaahdhmhbmdgaa", sum := "2cbc469eb0a915570d30c1d8361a201545981eb4b877b79a39c3720d44ac843e", func := "loop.example/g00588/laws.FnExactEqualProofs", spec := "fnExactEqualProofs", apart := false, narrowed := true }
def FnExactEqualProofsUptoSaid : Prop := fnExactEqualProofsUptoRow.holds Try.pinned (OpenSpec.upto fnExactEqualProofsSpec)

/-- 'laws.FnExactTopOf', WHERE WHAT IT READS IS OF BULK AT MOST 1048576: true; the input reads as it did. -/
def fnExactTopOfUptoRow : OpenClaim := { program := "yteaahdhmhbmdgaa", sum := "2cbc469eb0a915570d30c1d8361a201545981eb4b877b79a39c3720d44ac843e", func := "loop.example/g00588/laws.FnExactTopOf", spec := "fnExactTopOf", apart := false, narrowed := true }
def FnExactTopOfUptoSaid : Prop := fnExactTopOfUptoRow.holds Try.pinned (OpenSpec.upto fnExactTopOfSpec)

/-- 'laws.FnExactTopFrom', WHERE WHAT IT READS IS OF BULK AT MOST 1048576: true; the input reads as it did. -/
def fnExactTopFromUptoRow : OpenClaim := { program := "yteaahdhmhbmdgaa", sum := "2cbc469eb0a915570d30c1d8361a201545981eb4b877b79a39c3720d44ac843e", func := "loop.example/g00588/laws.FnExactTopFrom", spec := "fnExactTopFrom", apart := false, narrowed := true }
def FnExactTopFromUptoSaid : Prop := fnExactTopFromUptoRow.holds Try.pinned (OpenSpec.upto fnExactTopFromSpec)

/-- 'laws.FnExactPathFor', WHERE WHAT IT READS IS OF BULK AT MOST 1048576: true; the input reads as it did. -/
def fnExactPathForUptoRow : OpenClaim := { program := "yteaahdhmhbmdgaa", sum := "2cbc469eb0a915570d30c1d8361a201545981eb4b877b79a39c3720d44ac843e", func := "loop.example/g00588/laws.FnExactPathFor", spec := "fnExactPathFor", apart := false, narrowed := true }
def FnExactPathForUptoSaid : Prop := fnExactPathForUptoRow.holds Try.pinned (OpenSpec.upto fnExactPathForSpec)

/-- 'laws.FnExactZoneOf', WHERE WHAT IT READS IS OF BULK AT MOST 1048576: true; the input reads as it did. -/
def fnExactZoneOfUptoRow : OpenClaim := { program := "yteaahdhmhbmdgaa", sum := "2cbc469eb0a915570d30c1d8361a201545981eb4b877b79a39c3720d44ac843e", func := "loop.example/g00588/laws.FnExactZoneOf", spec := "fnExactZoneOf", apart := false, narrowed := true }
def FnExactZoneOfUptoSaid : Prop := fnExactZoneOfUptoRow.holds Try.pinned (OpenSpec.upto fnExactZoneOfSpec)

/-- 'laws.FnExactSameContents', WHERE WHAT IT READS IS OF BULK AT MOST 1048576: true; the input reads as it did. -/
def fnExactSameContentsUptoRow : OpenClaim := { program := "yteaahdhmhbmdgaa", sum := "2cbc469eb0a915570d30c1d8361a201545981eb4b877b79a39c3720d44ac843e", func := "loop.example/g00588/laws.FnExactSameContents", spec := "fnExactSameContents", apart := false, narrowed := true }
def FnExactSameContentsUptoSaid : Prop := fnExactSameContentsUptoRow.holds Try.pinned (OpenSpec.upto fnExactSameContentsSpec)

end Rows
end Go.Proofs.Yteaahdhmhbmdgaa
