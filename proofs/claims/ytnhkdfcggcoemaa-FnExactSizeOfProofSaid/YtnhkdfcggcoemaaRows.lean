/-
  No cell of these rows narrows 'for every input' (looked for: loops, veiled, ifaces, maps, wideKeys, modest, calm, conditions, laid).
  DERIVED. THE GIVEN ROWS OF THIS SEAT. 6 by the template 'for every input the law returns true; each argument reads behind the call as it read before'; 0 by the template 'total and deterministic' (their statements: YtnhkdfcggcoemaaTotals.lean).
  GIVEN WITH THE SEED: the statements are not yours to turn. If you find one false, say at which input.
  Laid BY PROGRAM, IN A SANDBOX (cutbox-rows.mjs): the forced cells as the released guide's own fill.sh prints them over the translation 80f44b1081935101… (all of the seat's roots in one cut). By AI agents, Wed Nov 11 2026. No macro, syntax, notation, axiom, sorry.
-/
import Derived.Test.YtnhkdfcggcoemaaChecked
import GoSem.Claim
import GoSem.ClaimJoined
import GoSem.ClaimMapViews
import Derived.JoinedTies
import Derived.KernelRfl
namespace Go.Proofs.Ytnhkdfcggcoemaa
/- THE CELL 'sum', in the pinned program and in every row, IS THE sha256 OF THE DUMP (.gsa) THAT YtnhkdfcggcoemaaProg.lean LOADS. Nothing in Lean hashes anything: it is a label: what it is worth is what the hold of that sum in a sandbox is worth. -/
noncomputable def Try.pinned : Pinned := { name := "ytnhkdfcggcoemaa", sum := "80f44b10819351015e362718a8af2c45c81195eb4f542a4f986d9cac16f6dcc8", checked := Try.checked }
namespace Rows
def none {H : Type} : Left H := { results := [], args := [] }

/-- 'laws.FnExactCodeName': WHATEVER THE INPUT: true; the input reads as it did. -/
def fnExactCodeNameSpec : ChangeSpec := { name := "fnExactCodeName", fn := fun _ => fun
  | [d] => { results := [.lit (.bool true)], args := [d] }
  | _ => none }
def fnExactCodeNameRow : OpenClaim := { program := "ytnhkdfcggcoemaa", sum := "80f44b10819351015e362718a8af2c45c81195eb4f542a4f986d9cac16f6dcc8", func := "loop.example/g00588/laws.FnExactCodeName", spec := "fnExactCodeName", apart := false }
def FnExactCodeNameSaid : Prop := fnExactCodeNameRow.holds Try.pinned (OpenSpec.ofChange fnExactCodeNameSpec)

/-- ITS FALSE NEIGHBOUR: 'it returns false'. Refute it at one input. -/
def fnExactCodeNameWrong : ChangeSpec := { name := "fnExactCodeName", fn := fun _ => fun
  | [d] => { results := [.lit (.bool false)], args := [d] }
  | _ => none }
def FnExactCodeNameWrongFalsely : Prop := fnExactCodeNameRow.holds Try.pinned (OpenSpec.ofChange fnExactCodeNameWrong)

/-- 'laws.FnExactNodeOf': WHATEVER THE INPUT: true; the input reads as it did. -/
def fnExactNodeOfSpec : ChangeSpec := { name := "fnExactNodeOf", fn := fun _ => fun
  | [d1, d2] => { results := [.lit (.bool true)], args := [d1, d2] }
  | _ => none }
def fnExactNodeOfRow : OpenClaim := { program := "ytnhkdfcggcoemaa", sum := "80f44b10819351015e362718a8af2c45c81195eb4f542a4f986d9cac16f6dcc8", func := "loop.example/g00588/laws.FnExactNodeOf", spec := "fnExactNodeOf", apart := false }
def FnExactNodeOfSaid : Prop := fnExactNodeOfRow.holds Try.pinned (OpenSpec.ofChange fnExactNodeOfSpec)

/-- ITS FALSE NEIGHBOUR: 'it returns false'. Refute it at one input. -/
def fnExactNodeOfWrong : ChangeSpec := { name := "fnExactNodeOf", fn := fun _ => fun
  | [d1, d2] => { results := [.lit (.bool false)], args := [d1, d2] }
  | _ => none }
def FnExactNodeOfWrongFalsely : Prop := fnExactNodeOfRow.holds Try.pinned (OpenSpec.ofChange fnExactNodeOfWrong)

/-- 'laws.FnExactNoKeys': WHATEVER THE INPUT: true; the input reads as it did. -/
def fnExactNoKeysSpec : ChangeSpec := { name := "fnExactNoKeys", fn := fun _ => fun
  | [d] => { results := [.lit (.bool true)], args := [d] }
  | _ => none }
def fnExactNoKeysRow : OpenClaim := { program := "ytnhkdfcggcoemaa", sum := "80f44b10819351015e362718a8af2c45c81195eb4f542a4f986d9cac16f6dcc8", func := "loop.example/g00588/laws.FnExactNoKeys", spec := "fnExactNoKeys", apart := false }
def FnExactNoKeysSaid : Prop := fnExactNoKeysRow.holds Try.pinned (OpenSpec.ofChange fnExactNoKeysSpec)

/-- ITS FALSE NEIGHBOUR: 'it returns false'. Refute it at one input. -/
def fnExactNoKeysWrong : ChangeSpec := { name := "fnExactNoKeys", fn := fun _ => fun
  | [d] => { results := [.lit (.bool false)], args := [d] }
  | _ => none }
def FnExactNoKeysWrongFalsely : Prop := fnExactNoKeysRow.holds Try.pinned (OpenSpec.ofChange fnExactNoKeysWrong)

/-- 'laws.FnExactSizeOfProof': WHATEVER THE INPUT: true; the input reads as it did. -/
def fnExactSizeOfProofSpec : ChangeSpec := { name := "fnExactSizeOfProof", fn := fun _ => fun
  | [d] => { results := [.lit (.bool true)], args := [d] }
  | _ => none }
def fnExactSizeOfProofRow : OpenClaim := { program := "ytnhkdfcggcoemaa", sum := "80f44b10819351015e362718a8af2c45c81195eb4f542a4f986d9cac16f6dcc8", func := "loop.example/g00588/laws.FnExactSizeOfProof", spec := "fnExactSizeOfProof", apart := false }
def FnExactSizeOfProofSaid : Prop := fnExactSizeOfProofRow.holds Try.pinned (OpenSpec.ofChange fnExactSizeOfProofSpec)

/-- ITS FALSE NEIGHBOUR: 'it returns false'. Refute it at one input. -/
def fnExactSizeOfProofWrong : ChangeSpec := { name := "fnExactSizeOfProof", fn := fun _ => fun
  | [d] => { results := [.lit (.bool false)], args := [d] }
  | _ => none }
def FnExactSizeOfProofWrongFalsely : Prop := fnExactSizeOfProofRow.holds Try.pinned (OpenSpec.ofChange fnExactSizeOfProofWrong)

/-- 'laws.FnExactZoneEntry': WHATEVER THE INPUT: true; the input reads as it did. -/
def fnExactZoneEntrySpec : ChangeSpec := { name := "fnExactZoneEntry", fn := fun _ => fun
  | [d1, d2] => { results := [.lit (.bool true)], args := [d1, d2] }
  | _ => none }
def fnExactZoneEntryRow : OpenClaim := { program := "ytnhkdfcggcoemaa", sum := "80f44b10819351015e362718a8af2c45c81195eb4f542a4f986d9cac16f6dcc8", func := "loop.example/g00588/laws.FnExactZoneEntry", spec := "fnExactZoneEntry", apart := false }
def FnExactZoneEntrySaid : Prop := fnExactZoneEntryRow.holds Try.pinned (OpenSpec.ofChange fnExactZoneEntrySpec)

/-- ITS FALSE NEIGHBOUR: 'it returns false'. Refute it at one input. -/
def fnExactZoneEntryWrong : ChangeSpec := { name := "fnExactZoneEntry", fn := fun _ => fun
  | [d1, d2] => { results := [.lit (.bool false)], args := [d1, d2] }
  | _ => none }
def FnExactZoneEntryWrongFalsely : Prop := fnExactZoneEntryRow.holds Try.pinned (OpenSpec.ofChange fnExactZoneEntryWrong)

/-- 'laws.FnExactValueEntry': WHATEVER THE INPUT: true; the input reads as it did. -/
def fnExactValueEntrySpec : ChangeSpec := { name := "fnExactValueEntry", fn := fun _ => fun
  | [d1, d2] => { results := [.lit (.bool true)], args := [d1, d2] }
  | _ => none }
def fnExactValueEntryRow : OpenClaim := { program := "ytnhkdfcggcoemaa", sum := "80f44b10819351015e362718a8af2c45c81195eb4f542a4f986d9cac16f6dcc8", func := "loop.example/g00588/laws.FnExactValueEntry", spec := "fnExactValueEntry", apart := false }
def FnExactValueEntrySaid : Prop := fnExactValueEntryRow.holds Try.pinned (OpenSpec.ofChange fnExactValueEntrySpec)

/-- ITS FALSE NEIGHBOUR: 'it returns false'. Refute it at one input. -/
def fnExactValueEntryWrong : ChangeSpec := { name := "fnExactValueEntry", fn := fun _ => fun
  | [d1, d2] => { results := [.lit (.bool false)], args := [d1, d2] }
  | _ => none }
def FnExactValueEntryWrongFalsely : Prop := fnExactValueEntryRow.holds Try.pinned (OpenSpec.ofChange fnExactValueEntryWrong)

/- THE SECOND FORM. 'bulk': how many values and letters a reading holds, each counted each time it is reached (what is shared counts as often as it is met; a slice's spare places count too). A statement '..UptoSaid' is the law's where the arguments, and the package variables that the reading takes, are together of bulk at most 1048576: NARROWER than '..Said'. Prove '..Said' where nothing that the law and all that it calls make is longer than what came in: it says more and counts as full. Else prove '..UptoSaid'. A law counts once. -/
mutual
def uptoBulk {H : Type} : DataW H → Nat
  | .lit (.string bytes) => bytes.length + 1
  | .lit _ => 1
  | .nil => 1
  | .ptr d => uptoBulk d + 1
  | .slice elems spare => uptoBulkAll elems + uptoBulkAll spare + 1
  | .agg parts => uptoBulkAll parts + 1
  | .iface _ d => uptoBulk d + 1
  | .map entries => uptoBulkEntries entries + 1
  | .held _ => 1
def uptoBulkAll {H : Type} : List (DataW H) → Nat
  | [] => 0
  | d :: r => uptoBulk d + uptoBulkAll r
def uptoBulkEntries {H : Type} : List (Lit × DataW H) → Nat
  | [] => 0
  | x :: r => uptoBulkEntry x + uptoBulkEntries r
def uptoBulkEntry {H : Type} : Lit × DataW H → Nat
  | (.string bytes, d) => bytes.length + uptoBulk d + 1
  | (_, d) => uptoBulk d + 1
 end
def uptoSmall : (H : Type) → List (DataW H) → Bool := fun _ ds => decide (uptoBulkAll ds ≤ 1048576)
def OpenSpec.upto (s : _root_.Go.ChangeSpec) : _root_.Go.OpenSpec := { _root_.Go.OpenSpec.ofChange s with cond := some uptoSmall }

/-- 'laws.FnExactCodeName', WHERE WHAT IT READS IS OF BULK AT MOST 1048576: true; the input reads as it did. -/
def fnExactCodeNameUptoRow : OpenClaim := { program := "ytnhkdfcggcoemaa", sum := "80f44b10819351015e362718a8af2c45c81195eb4f542a4f986d9cac16f6dcc8", func := "loop.example/g00588/laws.FnExactCodeName", spec := "fnExactCodeName", apart := false, narrowed := true }
def FnExactCodeNameUptoSaid : Prop := fnExactCodeNameUptoRow.holds Try.pinned (OpenSpec.upto fnExactCodeNameSpec)

/-- 'laws.FnExactNodeOf', WHERE WHAT IT READS IS OF BULK AT MOST 1048576: true; the input reads as it did. -/
def fnExactNodeOfUptoRow : OpenClaim := { program := "ytnhkdfcggcoemaa", sum := "80f44b10819351015e362718a8af2c45c81195eb4f542a4f986d9cac16f6dcc8", func := "loop.example/g00588/laws.FnExactNodeOf", spec := "fnExactNodeOf", apart := false, narrowed := true }
def FnExactNodeOfUptoSaid : Prop := fnExactNodeOfUptoRow.holds Try.pinned (OpenSpec.upto fnExactNodeOfSpec)

/-- 'laws.FnExactNoKeys', WHERE WHAT IT READS IS OF BULK AT MOST 1048576: true; the input reads as it did. -/
def fnExactNoKeysUptoRow : OpenClaim := { program := "ytnhkdfcggcoemaa", sum := "80f44b10819351015e362718a8af2c45c81195eb4f542a4f986d9cac16f6dcc8", func := "loop.example/g00588/laws.FnExactNoKeys", spec := "fnExactNoKeys", apart := false, narrowed := true }
def FnExactNoKeysUptoSaid : Prop := fnExactNoKeysUptoRow.holds Try.pinned (OpenSpec.upto fnExactNoKeysSpec)

/-- 'laws.FnExactSizeOfProof', WHERE WHAT IT READS IS OF BULK AT MOST 1048576: true; the input reads as it did. -/
def fnExactSizeOfProofUptoRow : OpenClaim := { program := "ytnhkdfcggcoemaa", sum := "80f44b10819351015e362718a8af2c45c81195eb4f542a4f986d9cac16f6dcc8", func := "loop.example/g00588/laws.FnExactSizeOfProof", spec := "fnExactSizeOfProof", apart := false, narrowed := true }
def FnExactSizeOfProofUptoSaid : Prop := fnExactSizeOfProofUptoRow.holds Try.pinned (OpenSpec.upto fnExactSizeOfProofSpec)

/-- 'laws.FnExactZoneEntry', WHERE WHAT IT READS IS OF BULK AT MOST 1048576: true; the input reads as it did. -/
def fnExactZoneEntryUptoRow : OpenClaim := { program := "ytnhkdfcggcoemaa", sum := "80f44b10819351015e362718a8af2c45c81195eb4f542a4f986d9cac16f6dcc8", func := "loop.example/g00588/laws.FnExactZoneEntry", spec := "fnExactZoneEntry", apart := false, narrowed := true }
def FnExactZoneEntryUptoSaid : Prop := fnExactZoneEntryUptoRow.holds Try.pinned (OpenSpec.upto fnExactZoneEntrySpec)

/-- 'laws.FnExactValueEntry', WHERE WHAT IT READS IS OF BULK AT MOST 1048576: true; the input reads as it did. -/
def fnExactValueEntryUptoRow : OpenClaim := { program := "ytnhkdfcggcoemaa", sum := "80f44b10819351015e362718a8af2c45c81195eb4f542a4f986d9cac16f6dcc8", func := "loop.example/g00588/laws.FnExactValueEntry", spec := "fnExactValueEntry", apart := false, narrowed := true }
def FnExactValueEntryUptoSaid : Prop := fnExactValueEntryUptoRow.holds Try.pinned (OpenSpec.upto fnExactValueEntrySpec)

end Rows
end Go.Proofs.Ytnhkdfcggcoemaa
