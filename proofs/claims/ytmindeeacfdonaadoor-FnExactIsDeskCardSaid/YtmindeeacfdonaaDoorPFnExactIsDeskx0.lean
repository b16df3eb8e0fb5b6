-- Laid by xprint, a program of this session that runs over the kit's print.
import Derived.Test.YtmindeeacfdonaaDoorProg
import Derived.Test.YtmindeeacfdonaaDoorFv
import Derived.Test.YtmindeeacfdonaaDoorDr
import Derived.Below
import Derived.Deep.Draws
import Derived.Deep.AppendLies
import Derived.Maps.AppendAt
import Derived.OwnWalk
import Derived.Laws.BytesArg
import Derived.Laws.MakeOwn
import Derived.Laws.OwnMore
import Derived.Deep.OwnRows
import Derived.Tactics
import Derived.Lib.ConvBytes
import Derived.Laws.Slices
import Derived.WalkKit
import Derived.KernelRfl
import Derived.RowKit3
import Derived.Deep.LoopGhost
import Derived.Deep.QuietTactic
import Derived.BigQuiet
import Derived.WideLaws
import Derived.Deep.DeepCutAuto
import Derived.Deep.CutBlock
import Derived.Deep.RegionHeld3
import Derived.Laws.Rows
import Derived.Lib.AppendStr
import Derived.ArgAppend
import Derived.Laws.IdiomCopy
import Derived.OrdersHeld
import Derived.Laws.BitsLemmas
import Derived.RowKit
import Derived.Test.YtmindeeacfdonaaDoorWWords
import Derived.Test.YtmindeeacfdonaaDoorWLast
import Derived.Test.YtmindeeacfdonaaDoorWTab
import Derived.Test.YtmindeeacfdonaaDoorWFour
import Derived.Test.YtmindeeacfdonaaDoorWQPut
import Derived.Test.YtmindeeacfdonaaDoorWApart
import Derived.Test.YtmindeeacfdonaaDoorWArr
import Derived.Test.YtmindeeacfdonaaDoorWZeros
import Derived.Test.YtmindeeacfdonaaDoorWFoot
import Derived.Test.YtmindeeacfdonaaDoorWKept
import Derived.Test.YtmindeeacfdonaaDoorWShare
import Derived.Test.YtmindeeacfdonaaDoorWN
import Derived.Test.YtmindeeacfdonaaDoorWFootNe
import Derived.Test.YtmindeeacfdonaaDoorWAt
import Derived.Test.YtmindeeacfdonaaDoorWEqStruct
import Derived.Test.YtmindeeacfdonaaDoorWRepsOne
import Derived.Test.YtmindeeacfdonaaDoorWInv
import Derived.Test.YtmindeeacfdonaaDoorWInvWords
import Derived.Test.YtmindeeacfdonaaDoorWGuard
import Derived.Test.YtmindeeacfdonaaDoorWNEv
import Derived.Test.YtmindeeacfdonaaDoorWMore
import Derived.Test.YtmindeeacfdonaaDoorSq
namespace Go.Proofs.YtmindeeacfdonaaDoor.PFnExactIsDesk
open Go.RowKit Go.Proofs.YtmindeeacfdonaaDoorW.PrintWords Go.Proofs.YtmindeeacfdonaaDoorW.PrintLast Go.Proofs.YtmindeeacfdonaaDoorW.PrintMore Go.Proofs.YtmindeeacfdonaaDoor.Sq
attribute [local go_sem] max2_int min2_int max_two min_two max_three min_three max_four min_four   -- for this text's walks alone
set_option linter.unusedVariables false
set_option linter.unusedSimpArgs false



def errW : Option Int → Value
  | none => .nilIface
  | some c => .iface 0 (.int .i64 c)
theorem errW_none : errW none = .nilIface := rfl
theorem errW_some (c : Int) : errW (some c) = .iface 0 (.int .i64 c) := rfl

-- the values' own types

end Go.Proofs.YtmindeeacfdonaaDoor.PFnExactIsDesk
