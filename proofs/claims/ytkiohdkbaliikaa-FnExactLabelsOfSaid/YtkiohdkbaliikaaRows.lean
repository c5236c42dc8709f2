/-
  No cell of these rows narrows 'for every input' (looked for: loops, veiled, ifaces, maps, wideKeys, modest, calm, conditions, laid).
  DERIVED. THE GIVEN ROWS OF THIS SEAT. 6 by the template 'for every input the law returns true; each argument reads behind the call as it read before'; 0 by the template 'total and deterministic' (their statements: YtkiohdkbaliikaaTotals.lean).
  GIVEN WITH THE SEED: the statements are not yours to turn. If you find one false, say at which input.
  Laid BY PROGRAM, IN A SANDBOX (cutbox-rows.mjs): the forced cells as the released guide's own fill.sh prints them over the translation ad4cd50b80de7200… (all of the seat's roots in one cut). By AI agents, Wed Nov 11 2026. No macro, syntax, notation, axiom, sorry.
-/
import Derived.Test.YtkiohdkbaliikaaChecked
import GoSem.Claim
import GoSem.ClaimJoined
import GoSem.ClaimMapViews
import Derived.JoinedTies
import Derived.KernelRfl
namespace Go.Proofs.Ytkiohdkbaliikaa
/- THE CELL 'sum', in the pinned program and in every row, IS THE sha256 OF THE DUMP (.gsa) THAT YtkiohdkbaliikaaProg.lean LOADS. Nothing in Lean hashes anything: it is a label: what it is worth is what the hold of that sum in a sandbox is worth. -/
noncomputable def Try.pinned : Pinned := { name := "ytkiohdkbaliikaa", sum := "ad4cd50b80de7200b1784dee9c28611672af1a70658843efc5bfcd7b1622f5b1", checked := Try.checked }
namespace Rows
def none {H : Type} : Left H := { results := [], args := [] }

/-- 'laws.FnExactEqualEntries': WHATEVER THE INPUT: true; the input reads as it did. -/
def fnExactEqualEntriesSpec : ChangeSpec := { name := "fnExactEqualEntries", fn := fun _ => fun
  | [d1, d2] => { results := [.lit (.bool true)], args := [d1, d2] }
  | _ => none }
def fnExactEqualEntriesRow : OpenClaim := { program := "ytkiohdkbaliikaa", sum := "ad4cd50b80de7200b1784dee9c28611672af1a70658843efc5bfcd7b1622f5b1", func := "loop.example/g00588/laws.FnExactEqualEntries", spec := "fnExactEqualEntries", apart := false }
def FnExactEqualEntriesSaid : Prop := fnExactEqualEntriesRow.holds Try.pinned (OpenSpec.ofChange fnExactEqualEntriesSpec)

/-- ITS FALSE NEIGHBOUR: 'it returns false'. Refute it at one input. -/
def fnExactEqualEntriesWrong : ChangeSpec := { name := "fnExactEqualEntries", fn := fun _ => fun
  | [d1, d2] => { results := [.lit (.bool false)], args := [d1, d2] }
  | _ => none }
def FnExactEqualEntriesWrongFalsely : Prop := fnExactEqualEntriesRow.holds Try.pinned (OpenSpec.ofChange fnExactEqualEntriesWrong)

/-- 'laws.FnExactMovedEntry': WHATEVER THE INPUT: true; the input reads as it did. -/
def fnExactMovedEntrySpec : ChangeSpec := { name := "fnExactMovedEntry", fn := fun _ => fun
  | [d1, d2, d3] => { results := [.lit (.bool true)], args := [d1, d2, d3] }
  | _ => none }
def fnExactMovedEntryRow : OpenClaim := { program := "ytkiohdkbaliikaa", sum := "ad4cd50b80de7200b1784dee9c28611672af1a70658843efc5bfcd7b1622f5b1", func := "loop.example/g00588/laws.FnExactMovedEntry", spec := "fnExactMovedEntry", apart := false }
def FnExactMovedEntrySaid : Prop := fnExactMovedEntryRow.holds Try.pinned (OpenSpec.ofChange fnExactMovedEntrySpec)

/-- ITS FALSE NEIGHBOUR: 'it returns false'. Refute it at one input. -/
def fnExactMovedEntryWrong : ChangeSpec := { name := "fnExactMovedEntry", fn := fun _ => fun
  | [d1, d2, d3] => { results := [.lit (.bool false)], args := [d1, d2, d3] }
  | _ => none }
def FnExactMovedEntryWrongFalsely : Prop := fnExactMovedEntryRow.holds Try.pinned (OpenSpec.ofChange fnExactMovedEntryWrong)

/-- 'laws.FnExactFindEntry': WHATEVER THE INPUT: true; the input reads as it did. -/
def fnExactFindEntrySpec : ChangeSpec := { name := "fnExactFindEntry", fn := fun _ => fun
  | [d1, d2] => { results := [.lit (.bool true)], args := [d1, d2] }
  | _ => none }
def fnExactFindEntryRow : OpenClaim := { program := "ytkiohdkbaliikaa", sum := "ad4cd50b80de7200b1784dee9c28611672af1a70658843efc5bfcd7b1622f5b1", func := "loop.example/g00588/laws.FnExactFindEntry", spec := "fnExactFindEntry", unfollowed := true, recurses := true, apart := false }
def FnExactFindEntrySaid : Prop := fnExactFindEntryRow.holds Try.pinned (OpenSpec.ofChange fnExactFindEntrySpec)

/-- ITS FALSE NEIGHBOUR: 'it returns false'. Refute it at one input. -/
def fnExactFindEntryWrong : ChangeSpec := { name := "fnExactFindEntry", fn := fun _ => fun
  | [d1, d2] => { results := [.lit (.bool false)], args := [d1, d2] }
  | _ => none }
def FnExactFindEntryWrongFalsely : Prop := fnExactFindEntryRow.holds Try.pinned (OpenSpec.ofChange fnExactFindEntryWrong)

/-- 'laws.FnExactRankOf': WHATEVER THE INPUT: true; the input reads as it did. -/
def fnExactRankOfSpec : ChangeSpec := { name := "fnExactRankOf", fn := fun _ => fun
  | [d1, d2] => { results := [.lit (.bool true)], args := [d1, d2] }
  | _ => none }
def fnExactRankOfRow : OpenClaim := { program := "ytkiohdkbaliikaa", sum := "ad4cd50b80de7200b1784dee9c28611672af1a70658843efc5bfcd7b1622f5b1", func := "loop.example/g00588/laws.FnExactRankOf", spec := "fnExactRankOf", inPlace := ["internal/bytealg.abigen_runtime_cmpstring"], apart := false }
def FnExactRankOfSaid : Prop := fnExactRankOfRow.holds Try.pinned (OpenSpec.ofChange fnExactRankOfSpec)

/-- ITS FALSE NEIGHBOUR: 'it returns false'. Refute it at one input. -/
def fnExactRankOfWrong : ChangeSpec := { name := "fnExactRankOf", fn := fun _ => fun
  | [d1, d2] => { results := [.lit (.bool false)], args := [d1, d2] }
  | _ => none }
def FnExactRankOfWrongFalsely : Prop := fnExactRankOfRow.holds Try.pinned (OpenSpec.ofChange fnExactRankOfWrong)

/-- 'laws.FnExactLabelsOf': WHATEVER THE INPUT: true; the input reads as it did. -/
def fnExactLabelsOfSpec : ChangeSpec := { name := "fnExactLabelsOf", fn := fun _ => fun
  | [d] => { results := [.lit (.bool true)], args := [d] }
  | _ => none }
def fnExactLabelsOfRow : OpenClaim := { program := "ytkiohdkbaliikaa", sum := "ad4cd50b80de7200b1784dee9c28611672af1a70658843efc5bfcd7b1622f5b1", func := "loop.example/g00588/laws.FnExactLabelsOf", spec := "fnExactLabelsOf", unfollowed := true, recurses := true, apart := false }
def FnExactLabelsOfSaid : Prop := fnExactLabelsOfRow.holds Try.pinned (OpenSpec.ofChange fnExactLabelsOfSpec)

/-- ITS FALSE NEIGHBOUR: 'it returns false'. Refute it at one input. -/
def fnExactLabelsOfWrong : ChangeSpec := { name := "fnExactLabelsOf", fn := fun _ => fun
  | [d] => { results := [.lit (.bool false)], args := [d] }
  | _ => none }
def FnExactLabelsOfWrongFalsely : Prop := fnExactLabelsOfRow.holds Try.pinned (OpenSpec.ofChange fnExactLabelsOfWrong)

/-- 'laws.FnExactSameEntries': WHATEVER THE INPUT: true; the input reads as it did. -/
def fnExactSameEntriesSpec : ChangeSpec := { name := "fnExactSameEntries", fn := fun _ => fun
  | [d1, d2] => { results := [.lit (.bool true)], args := [d1, d2] }
  | _ => none }
def fnExactSameEntriesRow : OpenClaim := { program := "ytkiohdkbaliikaa", sum := "ad4cd50b80de7200b1784dee9c28611672af1a70658843efc5bfcd7b1622f5b1", func := "loop.example/g00588/laws.FnExactSameEntries", spec := "fnExactSameEntries", unfollowed := true, recurses := true, apart := false }
def FnExactSameEntriesSaid : Prop := fnExactSameEntriesRow.holds Try.pinned (OpenSpec.ofChange fnExactSameEntriesSpec)

/-- ITS FALSE NEIGHBOUR: 'it returns false'. Refute it at one input. -/
def fnExactSameEntriesWrong : ChangeSpec := { name := "fnExactSameEntries", fn := fun _ => fun
  | [d1, d2] => { results := [.lit (.bool false)], args := [d1, d2] }
  | _ => none }
def FnExactSameEntriesWrongFalsely : Prop := fnExactSameEntriesRow.holds Try.pinned (OpenSpec.ofChange fnExactSameEntriesWrong)

/- THE SECOND FORM. 'bulk': how many values and letters a reading holds, each counted each time it is reached (what is shared counts as often as it is met; a slice's spare places count too). A statement '..UptoSaid' is the law's where the arguments, and the package variables that the reading takes, are together of bulk at most 1048576: NARROWER than '..Said'. Prove '..Said' where nothing that the law and all that it calls make is longer than what came in: it says more and counts as full. Else prove '..UptoSaid'. A law counts once. -/
mutual
def uptoBulk {H : Type} : DataW H → Nat
  | .lit (.string bytes) => bytes.length + 1
  | .lit _ => 1
  | .nil => 1
  | .ptr d => uptoBulk d + 1
  | .slice elems spare => uptoBulkAll elems + uptoBulkAll spare + 1
  | .agg parts => uptoBulkAll parts + 1
  | .iface _ d => uptoBulk d + 1
  | .map entries => uptoBulkEntries entries + 1
  | .held _ => 1
def uptoBulkAll {H : Type} : List (DataW H) → Nat
  | [] => 0
  | d :: r => uptoBulk d + uptoBulkAll r
def uptoBulkEntries {H : Type} : List (Lit × DataW H) → Nat
  | [] => 0
  | x :: r => uptoBulkEntry x + uptoBulkEntries r
def uptoBulkEntry {H : Type} : Lit × DataW H → Nat
  | (.string bytes, d) => bytes.length + uptoBulk d + 1
  | (_, d) => uptoBulk d + 1
 end
def uptoSmall : (H : Type) → List (DataW H) → Bool := fun _ ds => decide (uptoBulkAll ds ≤ 1048576)
def OpenSpec.upto (s : _root_.Go.ChangeSpec) : _root_.Go.OpenSpec := { _root_.Go.OpenSpec.ofChange s with cond := some uptoSmall }

/-- 'laws.FnExactEqualEntries', WHERE WHAT IT READS IS OF BULK AT MOST 1048576: true; the input reads as it did. -/
def fnExactEqualEntriesUptoRow : OpenClaim := { program := "ytkiohdkbaliikaa", sum := "ad4cd50b80de7200b1784dee9c28611672af1a70658843efc5bfcd7b1622f5b1", func := "loop.example/g00588/laws.FnExactEqualEntries", spec := "fnExactEqualEntries", apart := false, narrowed := true }
def FnExactEqualEntriesUptoSaid : Prop := fnExactEqualEntriesUptoRow.holds Try.pinned (OpenSpec.upto fnExactEqualEntriesSpec)

/-- 'laws.FnExactMovedEntry', WHERE WHAT IT READS IS OF BULK AT MOST 1048576: true; the input reads as it did. -/
def fnExactMovedEntryUptoRow : OpenClaim := { program := "ytkiohdkbaliikaa", sum := "ad4cd50b80de7200b1784dee9c28611672af1a70658843efc5bfcd7b1622f5b1", func := "loop.example/g00588/laws.FnExactMovedEntry", spec := "fnExactMovedEntry", apart := false, narrowed := true }
def FnExactMovedEntryUptoSaid : Prop := fnExactMovedEntryUptoRow.holds Try.pinned (OpenSpec.upto fnExactMovedEntrySpec)

/-- 'laws.FnExactFindEntry', WHERE WHAT IT READS IS OF BULK AT MOST 1048576: true; the input reads as it did. -/
def fnExactFindEntryUptoRow : OpenClaim := { program := "ytkiohdkbaliikaa", sum := "ad4cd50b80de7200b1784dee9c28611672af1a70658843efc5bfcd7b1622f5b1", func := "loop.example/g00588/laws.FnExactFindEntry", spec := "fnExactFindEntry", unfollowed := true, recurses := true, apart := false, narrowed := true }
def FnExactFindEntryUptoSaid : Prop := fnExactFindEntryUptoRow.holds Try.pinned (OpenSpec.upto fnExactFindEntrySpec)

/-- 'laws.FnExactRankOf', WHERE WHAT IT READS IS OF BULK AT MOST 1048576: true; the input reads as it did. -/
def fnExactRankOfUptoRow : OpenClaim := { program := "ytkiohdkbaliikaa", sum := "ad4cd50b80de7200b1784dee9c28611672af1a70658843efc5bfcd7b1622f5b1", func := "loop.example/g00588/laws.FnExactRankOf", spec := "fnExactRankOf", inPlace := ["internal/bytealg.abigen_runtime_cmpstring"], apart := false, narrowed := true }
def FnExactRankOfUptoSaid : Prop := fnExactRankOfUptoRow.holds Try.pinned (OpenSpec.upto fnExactRankOfSpec)

/-- 'laws.FnExactLabelsOf', WHERE WHAT IT READS IS OF BULK AT MOST 1048576: true; the input reads as it did. -/
def fnExactLabelsOfUptoRow : OpenClaim := { program := "ytkiohdkbaliikaa", sum := "ad4cd50b80de7200b1784dee9c28611672af1a70658843efc5bfcd7b1622f5b1", func := "loop.example/g00588/laws.FnExactLabelsOf", spec := "fnExactLabelsOf", unfollowed := true, recurses := true, apart := false, narrowed := true }
def FnExactLabelsOfUptoSaid : Prop := fnExactLabelsOfUptoRow.holds Try.pinned (OpenSpec.upto fnExactLabelsOfSpec)

/-- 'laws.FnExactSameEntries', WHERE WHAT IT READS IS OF BULK AT MOST 1048576: true; the input reads as it did. -/
def fnExactSameEntriesUptoRow : OpenClaim := { program := "ytkiohdkbaliikaa", sum := "ad4cd50b80de7200b1784dee9c28611672af1a70658843efc5bfcd7b1622f5b1", func := "loop.example/g00588/laws.FnExactSameEntries", spec := "fnExactSameEntries", unfollowed := true, recurses := true, apart := false, narrowed := true }
def FnExactSameEntriesUptoSaid : Prop := fnExactSameEntriesUptoRow.holds Try.pinned (OpenSpec.upto fnExactSameEntriesSpec)

end Rows
end Go.Proofs.Ytkiohdkbaliikaa
