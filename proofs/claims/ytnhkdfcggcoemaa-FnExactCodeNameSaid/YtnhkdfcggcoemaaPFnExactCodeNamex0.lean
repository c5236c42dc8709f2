-- PRINTED BY print.sh 35421559b90ae4d0a3588c463048766b98c2df88dd9212a6774a882060cdf62d: not written by this session
import Derived.Test.YtnhkdfcggcoemaaProg
import Derived.Below
import Derived.Deep.Draws
import Derived.Deep.AppendLies
import Derived.Maps.AppendAt
import Derived.OwnWalk
import Derived.Laws.BytesArg
import Derived.Laws.MakeOwn
import Derived.Laws.OwnMore
import Derived.Deep.OwnRows
import Derived.Tactics
import Derived.Lib.ConvBytes
import Derived.Laws.Slices
import Derived.WalkKit
import Derived.KernelRfl
import Derived.RowKit3
import Derived.Deep.LoopGhost
import Derived.Deep.QuietTactic
import Derived.BigQuiet
import Derived.WideLaws
import Derived.Deep.DeepCutAuto
import Derived.Deep.CutBlock
import Derived.Deep.RegionHeld3
import Derived.Laws.Rows
import Derived.Lib.AppendStr
import Derived.ArgAppend
import Derived.Laws.IdiomCopy
import Derived.OrdersHeld
import Derived.Laws.BitsLemmas
import Derived.RowKit
import Derived.Test.YtnhkdfcggcoemaaWWords
import Derived.Test.YtnhkdfcggcoemaaWLast
import Derived.Test.YtnhkdfcggcoemaaWTab
import Derived.Test.YtnhkdfcggcoemaaWFour
import Derived.Test.YtnhkdfcggcoemaaWQPut
import Derived.Test.YtnhkdfcggcoemaaWApart
import Derived.Test.YtnhkdfcggcoemaaWArr
import Derived.Test.YtnhkdfcggcoemaaWZeros
import Derived.Test.YtnhkdfcggcoemaaWFoot
import Derived.Test.YtnhkdfcggcoemaaWKept
import Derived.Test.YtnhkdfcggcoemaaWShare
import Derived.Test.YtnhkdfcggcoemaaWN
import Derived.Test.YtnhkdfcggcoemaaWFootNe
import Derived.Test.YtnhkdfcggcoemaaWAt
import Derived.Test.YtnhkdfcggcoemaaWEqStruct
import Derived.Test.YtnhkdfcggcoemaaWRepsOne
import Derived.Test.YtnhkdfcggcoemaaWInv
import Derived.Test.YtnhkdfcggcoemaaWInvWords
import Derived.Test.YtnhkdfcggcoemaaWGuard
import Derived.Test.YtnhkdfcggcoemaaWNEv
import Derived.Test.YtnhkdfcggcoemaaWMore
namespace Go.Proofs.Ytnhkdfcggcoemaa.PFnExactCodeName
open Go.RowKit Go.Proofs.YtnhkdfcggcoemaaW.PrintWords Go.Proofs.YtnhkdfcggcoemaaW.PrintLast Go.Proofs.YtnhkdfcggcoemaaW.PrintMore
attribute [local go_sem] max2_int min2_int max_two min_two max_three min_three max_four min_four   -- for this text's walks alone
set_option linter.unusedVariables false
set_option linter.unusedSimpArgs false



def errW : Option Int → Value
  | none => .nilIface
  | some c => .iface 0 (.int .i64 c)
theorem errW_none : errW none = .nilIface := rfl
theorem errW_some (c : Int) : errW (some c) = .iface 0 (.int .i64 c) := rfl

theorem info9 : (Try.prog.info? 9).map (fun i => (i.zero, i.size, i.bytes)) = some (some (.string ⟨#[]⟩), 1, 16) := by kernel_rfl
-- the values' own types

end Go.Proofs.Ytnhkdfcggcoemaa.PFnExactCodeName
