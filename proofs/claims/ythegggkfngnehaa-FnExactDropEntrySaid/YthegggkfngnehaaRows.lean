/-
  No cell of these rows narrows 'for every input' (looked for: loops, veiled, ifaces, maps, wideKeys, modest, calm, conditions, laid).
  DERIVED. THE GIVEN ROWS OF THIS SEAT. 6 by the template 'for every input the law returns true; each argument reads behind the call as it read before'; 0 by the template 'total and deterministic' (their statements: YthegggkfngnehaaTotals.lean).
  GIVEN WITH THE SEED: the statements are not yours to turn. If you find one false, say at which input.
  Laid BY PROGRAM, IN A SANDBOX (cutbox-rows.mjs): the forced cells as the released guide's own fill.sh prints them over the translation f95fd55f14d53ed2… (all of the seat's roots in one cut). By AI agents, Wed Nov 11 2026. No macro, syntax, notation, axiom, sorry.
-/
import Derived.Test.YthegggkfngnehaaChecked
import GoSem.Claim
import GoSem.ClaimJoined
import GoSem.ClaimMapViews
import Derived.JoinedTies
import Derived.KernelRfl
namespace Go.Proofs.Ythegggkfngnehaa
/- THE CELL 'sum', in the pinned program and in every row, IS THE sha256 OF THE DUMP (.gsa) THAT YthegggkfngnehaaProg.lean LOADS. Nothing in Lean hashes anything: it is a label: what it is worth is what the hold of that sum in a sandbox is worth. -/
noncomputable def Try.pinned : Pinned := { name := "ythegggkfngnehaa", sum := "f95fd55f14d53ed2f6790c81b245fab9904eac773502384b9560781d6398d3e5", checked := Try.checked }
namespace Rows
def none {H : Type} : Left H := { results := [], args := [] }

/-- 'laws.FnExactCheckEntry': WHATEVER THE INPUT: true; the input reads as it did. -/
def fnExactCheckEntrySpec : ChangeSpec := { name := "fnExactCheckEntry", fn := fun _ => fun
  | [d1, d2, d3, d4] => { results := [.lit (.bool true)], args := [d1, d2, d3, d4] }
  | _ => none }
def fnExactCheckEntryRow : OpenClaim := { program := "ythegggkfngnehaa", sum := "f95fd55f14d53ed2f6790c81b245fab9904eac773502384b9560781d6398d3e5", func := "loop.example/g00588/laws.FnExactCheckEntry", spec := "fnExactCheckEntry", unfollowed := true, recurses := true, apart := false }
def FnExactCheckEntrySaid : Prop := fnExactCheckEntryRow.holds Try.pinned (OpenSpec.ofChange fnExactCheckEntrySpec)

/-- ITS FALSE NEIGHBOUR: 'it returns false'. Refute it at one input. -/
def fnExactCheckEntryWrong : ChangeSpec := { name := "fnExactCheckEntry", fn := fun _ => fun
  | [d1, d2, d3, d4] => { results := [.lit (.bool false)], args := [d1, d2, d3, d4] }
  | _ => none }
def FnExactCheckEntryWrongFalsely : Prop := fnExactCheckEntryRow.holds Try.pinned (OpenSpec.ofChange fnExactCheckEntryWrong)

/-- 'laws.FnExactCheckAll': WHATEVER THE INPUT: true; the input reads as it did. -/
def fnExactCheckAllSpec : ChangeSpec := { name := "fnExactCheckAll", fn := fun _ => fun
  | [d1, d2] => { results := [.lit (.bool true)], args := [d1, d2] }
  | _ => none }
def fnExactCheckAllRow : OpenClaim := { program := "ythegggkfngnehaa", sum := "f95fd55f14d53ed2f6790c81b245fab9904eac773502384b9560781d6398d3e5", func := "loop.example/g00588/laws.FnExactCheckAll", spec := "fnExactCheckAll", inPlace := ["internal/bytealg.abigen_runtime_cmpstring"], unfollowed := true, recurses := true, apart := false }
def FnExactCheckAllSaid : Prop := fnExactCheckAllRow.holds Try.pinned (OpenSpec.ofChange fnExactCheckAllSpec)

/-- ITS FALSE NEIGHBOUR: 'it returns false'. Refute it at one input. -/
def fnExactCheckAllWrong : ChangeSpec := { name := "fnExactCheckAll", fn := fun _ => fun
  | [d1, d2] => { results := [.lit (.bool false)], args := [d1, d2] }
  | _ => none }
def FnExactCheckAllWrongFalsely : Prop := fnExactCheckAllRow.holds Try.pinned (OpenSpec.ofChange fnExactCheckAllWrong)

/-- 'laws.FnExactProveEntry': WHATEVER THE INPUT: true; the input reads as it did. -/
def fnExactProveEntrySpec : ChangeSpec := { name := "fnExactProveEntry", fn := fun _ => fun
  | [d1, d2] => { results := [.lit (.bool true)], args := [d1, d2] }
  | _ => none }
def fnExactProveEntryRow : OpenClaim := { program := "ythegggkfngnehaa", sum := "f95fd55f14d53ed2f6790c81b245fab9904eac773502384b9560781d6398d3e5", func := "loop.example/g00588/laws.FnExactProveEntry", spec := "fnExactProveEntry", unfollowed := true, recurses := true, apart := false }
def FnExactProveEntrySaid : Prop := fnExactProveEntryRow.holds Try.pinned (OpenSpec.ofChange fnExactProveEntrySpec)

/-- ITS FALSE NEIGHBOUR: 'it returns false'. Refute it at one input. -/
def fnExactProveEntryWrong : ChangeSpec := { name := "fnExactProveEntry", fn := fun _ => fun
  | [d1, d2] => { results := [.lit (.bool false)], args := [d1, d2] }
  | _ => none }
def FnExactProveEntryWrongFalsely : Prop := fnExactProveEntryRow.holds Try.pinned (OpenSpec.ofChange fnExactProveEntryWrong)

/-- 'laws.FnExactCheckAbsence': WHATEVER THE INPUT: true; the input reads as it did. -/
def fnExactCheckAbsenceSpec : ChangeSpec := { name := "fnExactCheckAbsence", fn := fun _ => fun
  | [d1, d2, d3, d4] => { results := [.lit (.bool true)], args := [d1, d2, d3, d4] }
  | _ => none }
def fnExactCheckAbsenceRow : OpenClaim := { program := "ythegggkfngnehaa", sum := "f95fd55f14d53ed2f6790c81b245fab9904eac773502384b9560781d6398d3e5", func := "loop.example/g00588/laws.FnExactCheckAbsence", spec := "fnExactCheckAbsence", inPlace := ["internal/bytealg.abigen_runtime_cmpstring"], unfollowed := true, recurses := true, apart := false }
def FnExactCheckAbsenceSaid : Prop := fnExactCheckAbsenceRow.holds Try.pinned (OpenSpec.ofChange fnExactCheckAbsenceSpec)

/-- ITS FALSE NEIGHBOUR: 'it returns false'. Refute it at one input. -/
def fnExactCheckAbsenceWrong : ChangeSpec := { name := "fnExactCheckAbsence", fn := fun _ => fun
  | [d1, d2, d3, d4] => { results := [.lit (.bool false)], args := [d1, d2, d3, d4] }
  | _ => none }
def FnExactCheckAbsenceWrongFalsely : Prop := fnExactCheckAbsenceRow.holds Try.pinned (OpenSpec.ofChange fnExactCheckAbsenceWrong)

/-- 'laws.FnExactProveAbsence': WHATEVER THE INPUT: true; the input reads as it did. -/
def fnExactProveAbsenceSpec : ChangeSpec := { name := "fnExactProveAbsence", fn := fun _ => fun
  | [d1, d2] => { results := [.lit (.bool true)], args := [d1, d2] }
  | _ => none }
def fnExactProveAbsenceRow : OpenClaim := { program := "ythegggkfngnehaa", sum := "f95fd55f14d53ed2f6790c81b245fab9904eac773502384b9560781d6398d3e5", func := "loop.example/g00588/laws.FnExactProveAbsence", spec := "fnExactProveAbsence", inPlace := ["internal/bytealg.abigen_runtime_cmpstring"], unfollowed := true, recurses := true, apart := false }
def FnExactProveAbsenceSaid : Prop := fnExactProveAbsenceRow.holds Try.pinned (OpenSpec.ofChange fnExactProveAbsenceSpec)

/-- ITS FALSE NEIGHBOUR: 'it returns false'. Refute it at one input. -/
def fnExactProveAbsenceWrong : ChangeSpec := { name := "fnExactProveAbsence", fn := fun _ => fun
  | [d1, d2] => { results := [.lit (.bool false)], args := [d1, d2] }
  | _ => none }
def FnExactProveAbsenceWrongFalsely : Prop := fnExactProveAbsenceRow.holds Try.pinned (OpenSpec.ofChange fnExactProveAbsenceWrong)

/-- 'laws.FnExactDropEntry': WHATEVER THE INPUT: true; the input reads as it did. -/
def fnExactDropEntrySpec : ChangeSpec := { name := "fnExactDropEntry", fn := fun _ => fun
  | [d1, d2] => { results := [.lit (.bool true)], args := [d1, d2] }
  | _ => none }
def fnExactDropEntryRow : OpenClaim := { program := "ythegggkfngnehaa", sum := "f95fd55f14d53ed2f6790c81b245fab9904eac773502384b9560781d6398d3e5", func := "loop.example/g00588/laws.FnExactDropEntry", spec := "fnExactDropEntry", inPlace := ["internal/bytealg.abigen_runtime_cmpstring"], unfollowed := true, recurses := true, apart := false }
def FnExactDropEntrySaid : Prop := fnExactDropEntryRow.holds Try.pinned (OpenSpec.ofChange fnExactDropEntrySpec)

/-- ITS FALSE NEIGHBOUR: 'it returns false'. Refute it at one input. -/
def fnExactDropEntryWrong : ChangeSpec := { name := "fnExactDropEntry", fn := fun _ => fun
  | [d1, d2] => { results := [.lit (.bool false)], args := [d1, d2] }
  | _ => none }
def FnExactDropEntryWrongFalsely : Prop := fnExactDropEntryRow.holds Try.pinned (OpenSpec.ofChange fnExactDropEntryWrong)

/- THE SECOND FORM. 'bulk': how many values and letters a reading holds, each counted each time it is reached (what is shared counts as often as it is met; a slice's spare places count too). A statement '..UptoSaid' is the law's where the arguments, and the package variables that the reading takes, are together of bulk at most 1048576: NARROWER than '..Said'. Prove '..Said' where nothing that the law and all that it calls make is longer than what came in: it says more and counts as full. Else prove '..UptoSaid'. A law counts once. -/
mutual
def uptoBulk {H : Type} : DataW H → Nat
  | .lit (.string bytes) => bytes.length + 1
  | .lit _ => 1
  | .nil => 1
  | .ptr d => uptoBulk d + 1
  | .slice elems spare => uptoBulkAll elems + uptoBulkAll spare + 1
  | .agg parts => uptoBulkAll parts + 1
  | .iface _ d => uptoBulk d + 1
  | .map entries => uptoBulkEntries entries + 1
  | .held _ => 1
def uptoBulkAll {H : Type} : List (DataW H) → Nat
  | [] => 0
  | d :: r => uptoBulk d + uptoBulkAll r
def uptoBulkEntries {H : Type} : List (Lit × DataW H) → Nat
  | [] => 0
  | x :: r => uptoBulkEntry x + uptoBulkEntries r
def uptoBulkEntry {H : Type} : Lit × DataW H → Nat
  | (.string bytes, d) => bytes.length + uptoBulk d + 1
  | (_, d) => uptoBulk d + 1
 end
def uptoSmall : (H : Type) → List (DataW H) → Bool := fun _ ds => decide (uptoBulkAll ds ≤ 1048576)
def OpenSpec.upto (s : _root_.Go.ChangeSpec) : _root_.Go.OpenSpec := { _root_.Go.OpenSpec.ofChange s with cond := some uptoSmall }

/-- 'laws.FnExactCheckEntry', WHERE WHAT IT READS IS OF BULK AT MOST 1048576: true; the input reads as it did. -/
def fnExactCheckEntryUptoRow : OpenClaim := { program := "ythegggkfngnehaa", sum := "f95fd55f14d53ed2f6790c81b245fab9904eac773502384b9560781d6398d3e5", func := "loop.example/g00588/laws.FnExactCheckEntry", spec := "fnExactCheckEntry", unfollowed := true, recurses := true, apart := false, narrowed := true }
def FnExactCheckEntryUptoSaid : Prop := fnExactCheckEntryUptoRow.holds Try.pinned (OpenSpec.upto fnExactCheckEntrySpec)

/-- 'laws.FnExactCheckAll', WHERE WHAT IT READS IS OF BULK AT MOST 1048576: true; the input reads as it did. -/
def fnExactCheckAllUptoRow : OpenClaim := { program := "ythegggkfngnehaa", sum := "f95fd55f14d53ed2f6790c81b245fab9904eac773502384b9560781d6398d3e5", func := "loop.example/g00588/laws.FnExactCheckAll", spec := "fnExactCheckAll", inPlace := ["internal/bytealg.abigen_runtime_cmpstring"], unfollowed := true, recurses := true, apart := false, narrowed := true }
def FnExactCheckAllUptoSaid : Prop := fnExactCheckAllUptoRow.holds Try.pinned (OpenSpec.upto fnExactCheckAllSpec)

/-- 'laws.FnExactProveEntry', WHERE WHAT IT READS IS OF BULK AT MOST 1048576: true; the input reads as it did. -/
def fnExactProveEntryUptoRow : OpenClaim := { program := "ythegggkfngnehaa", sum := "f95fd55f14d53ed2f6790c81b245fab9904eac773502384b9560781d6398d3e5", func := "loop.example/g00588/laws.FnExactProveEntry", spec := "fnExactProveEntry", unfollowed := true, recurses := true, apart := false, narrowed := true }
def FnExactProveEntryUptoSaid : Prop := fnExactProveEntryUptoRow.holds Try.pinned (OpenSpec.upto fnExactProveEntrySpec)

/-- 'laws.FnExactCheckAbsence', WHERE WHAT IT READS IS OF BULK AT MOST 1048576: true; the input reads as it did. -/
def fnExactCheckAbsenceUptoRow : OpenClaim := { program := "ythegggkfngnehaa", sum := "f95fd55f14d53ed2f6790c81b245fab9904eac773502384b9560781d6398d3e5", func := "loop.example/g00588/laws.FnExactCheckAbsence", spec := "fnExactCheckAbsence", inPlace := ["internal/bytealg.abigen_runtime_cmpstring"], unfollowed := true, recurses := true, apart := false, narrowed := true }
def FnExactCheckAbsenceUptoSaid : Prop := fnExactCheckAbsenceUptoRow.holds Try.pinned (OpenSpec.upto fnExactCheckAbsenceSpec)

/-- 'laws.FnExactProveAbsence', WHERE WHAT IT READS IS OF BULK AT MOST 1048576: true; the input reads as it did. -/
def fnExactProveAbsenceUptoRow : OpenClaim := { program := "ythegggkfngnehaa", sum := "f95fd55f14d53ed2f6790c81b245fab9904eac773502384b9560781d6398d3e5", func := "loop.example/g00588/laws.FnExactProveAbsence", spec := "fnExactProveAbsence", inPlace := ["internal/bytealg.abigen_runtime_cmpstring"], unfollowed := true, recurses := true, apart := false, narrowed := true }
def FnExactProveAbsenceUptoSaid : Prop := fnExactProveAbsenceUptoRow.holds Try.pinned (OpenSpec.upto fnExactProveAbsenceSpec)

/-- 'laws.FnExactDropEntry', WHERE WHAT IT READS IS OF BULK AT MOST 1048576: true; the input reads as it did. -/
def fnExactDropEntryUptoRow : OpenClaim := { program := "ythegggkfngnehaa", sum := "f95fd55f14d53ed2f6790c81b245fab9904eac773502384b9560781d6398d3e5", func := "loop.example/g00588/laws.FnExactDropEntry", spec := "fnExactDropEntry", inPlace := ["internal/bytealg.abigen_runtime_cmpstring"], unfollowed := true, recurses := true, apart := false, narrowed := true }
def FnExactDropEntryUptoSaid : Prop := fnExactDropEntryUptoRow.holds Try.pinned (OpenSpec.upto fnExactDropEntrySpec)

end Rows
end Go.Proofs.Ythegggkfngnehaa
