-- Laid by xprint, a program of this session that runs over the kit's print.
import Derived.Test.YtonnpncccjpmaaaDoorProg
import Derived.Test.YtonnpncccjpmaaaDoorFv
import Derived.Test.YtonnpncccjpmaaaDoorDr
import Derived.Below
import Derived.Deep.Draws
import Derived.Deep.AppendLies
import Derived.Maps.AppendAt
import Derived.OwnWalk
import Derived.Laws.BytesArg
import Derived.Laws.MakeOwn
import Derived.Laws.OwnMore
import Derived.Deep.OwnRows
import Derived.Tactics
import Derived.Lib.ConvBytes
import Derived.Laws.Slices
import Derived.WalkKit
import Derived.KernelRfl
import Derived.RowKit3
import Derived.Deep.LoopGhost
import Derived.Deep.QuietTactic
import Derived.BigQuiet
import Derived.WideLaws
import Derived.Deep.DeepCutAuto
import Derived.Deep.CutBlock
import Derived.Deep.RegionHeld3
import Derived.Laws.Rows
import Derived.Lib.AppendStr
import Derived.ArgAppend
import Derived.Laws.IdiomCopy
import Derived.OrdersHeld
import Derived.Laws.BitsLemmas
import Derived.RowKit
import Derived.Test.YtonnpncccjpmaaaDoorWWords
import Derived.Test.YtonnpncccjpmaaaDoorWLast
import Derived.Test.YtonnpncccjpmaaaDoorWTab
import Derived.Test.YtonnpncccjpmaaaDoorWFour
import Derived.Test.YtonnpncccjpmaaaDoorWQPut
import Derived.Test.YtonnpncccjpmaaaDoorWApart
import Derived.Test.YtonnpncccjpmaaaDoorWArr
import Derived.Test.YtonnpncccjpmaaaDoorWZeros
import Derived.Test.YtonnpncccjpmaaaDoorWFoot
import Derived.Test.YtonnpncccjpmaaaDoorWKept
import Derived.Test.YtonnpncccjpmaaaDoorWShare
import Derived.Test.YtonnpncccjpmaaaDoorWN
import Derived.Test.YtonnpncccjpmaaaDoorWFootNe
import Derived.Test.YtonnpncccjpmaaaDoorWAt
import Derived.Test.YtonnpncccjpmaaaDoorWEqStruct
import Derived.Test.YtonnpncccjpmaaaDoorWRepsOne
import Derived.Test.YtonnpncccjpmaaaDoorWInv
import Derived.Test.YtonnpncccjpmaaaDoorWInvWords
import Derived.Test.YtonnpncccjpmaaaDoorWGuard
import Derived.Test.YtonnpncccjpmaaaDoorWNEv
import Derived.Test.YtonnpncccjpmaaaDoorWMore
import Derived.Test.YtonnpncccjpmaaaDoorSq
namespace Go.Proofs.YtonnpncccjpmaaaDoor.PFnExactSignalText
open Go.RowKit Go.Proofs.YtonnpncccjpmaaaDoorW.PrintWords Go.Proofs.YtonnpncccjpmaaaDoorW.PrintLast Go.Proofs.YtonnpncccjpmaaaDoorW.PrintMore Go.Proofs.YtonnpncccjpmaaaDoor.Sq
attribute [local go_sem] max2_int min2_int max_two min_two max_three min_three max_four min_four   -- for this text's walks alone
set_option linter.unusedVariables false
set_option linter.unusedSimpArgs false



def errW : Option Int → Value
  | none => .nilIface
  | some c => .iface 0 (.int .i64 c)
theorem errW_none : errW none = .nilIface := rfl
theorem errW_some (c : Int) : errW (some c) = .iface 0 (.int .i64 c) := rfl

theorem info5 : (Tryd.prog.info? 5).map (fun i => (i.zero, i.size, i.bytes)) = some (some (.int .u8 0), 1, 1) := by kernel_rfl
-- the values' own types

end Go.Proofs.YtonnpncccjpmaaaDoor.PFnExactSignalText
