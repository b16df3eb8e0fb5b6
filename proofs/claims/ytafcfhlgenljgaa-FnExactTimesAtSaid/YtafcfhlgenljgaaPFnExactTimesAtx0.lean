-- Laid by xprint, a program of this session that runs over the kit's print.
import Derived.Test.YtafcfhlgenljgaaProg
import Derived.Test.YtafcfhlgenljgaaFv
import Derived.Below
import Derived.Deep.Draws
import Derived.Deep.AppendLies
import Derived.Maps.AppendAt
import Derived.OwnWalk
import Derived.Laws.BytesArg
import Derived.Laws.MakeOwn
import Derived.Laws.OwnMore
import Derived.Deep.OwnRows
import Derived.Tactics
import Derived.Lib.ConvBytes
import Derived.Laws.Slices
import Derived.WalkKit
import Derived.KernelRfl
import Derived.RowKit3
import Derived.Deep.LoopGhost
import Derived.Deep.QuietTactic
import Derived.BigQuiet
import Derived.WideLaws
import Derived.Deep.DeepCutAuto
import Derived.Deep.CutBlock
import Derived.Deep.RegionHeld3
import Derived.Laws.Rows
import Derived.Lib.AppendStr
import Derived.ArgAppend
import Derived.Laws.IdiomCopy
import Derived.OrdersHeld
import Derived.Laws.BitsLemmas
import Derived.RowKit
import Derived.Test.YtafcfhlgenljgaaWWords
import Derived.Test.YtafcfhlgenljgaaWLast
import Derived.Test.YtafcfhlgenljgaaWTab
import Derived.Test.YtafcfhlgenljgaaWFour
import Derived.Test.YtafcfhlgenljgaaWQPut
import Derived.Test.YtafcfhlgenljgaaWApart
import Derived.Test.YtafcfhlgenljgaaWArr
import Derived.Test.YtafcfhlgenljgaaWZeros
import Derived.Test.YtafcfhlgenljgaaWFoot
import Derived.Test.YtafcfhlgenljgaaWKept
import Derived.Test.YtafcfhlgenljgaaWShare
import Derived.Test.YtafcfhlgenljgaaWN
import Derived.Test.YtafcfhlgenljgaaWFootNe
import Derived.Test.YtafcfhlgenljgaaWAt
import Derived.Test.YtafcfhlgenljgaaWEqStruct
import Derived.Test.YtafcfhlgenljgaaWRepsOne
import Derived.Test.YtafcfhlgenljgaaWInv
import Derived.Test.YtafcfhlgenljgaaWInvWords
import Derived.Test.YtafcfhlgenljgaaWGuard
import Derived.Test.YtafcfhlgenljgaaWNEv
import Derived.Test.YtafcfhlgenljgaaWMore
import Derived.Test.YtafcfhlgenljgaaSq
namespace Go.Proofs.Ytafcfhlgenljgaa.PFnExactTimesAt
open Go.RowKit Go.Proofs.YtafcfhlgenljgaaW.PrintWords Go.Proofs.YtafcfhlgenljgaaW.PrintLast Go.Proofs.YtafcfhlgenljgaaW.PrintMore Go.Proofs.Ytafcfhlgenljgaa.Sq
attribute [local go_sem] max2_int min2_int max_two min_two max_three min_three max_four min_four   -- for this text's walks alone
set_option linter.unusedVariables false
set_option linter.unusedSimpArgs false



def errW : Option Int → Value
  | none => .nilIface
  | some c => .iface 0 (.int .i64 c)
theorem errW_none : errW none = .nilIface := rfl
theorem errW_some (c : Int) : errW (some c) = .iface 0 (.int .i64 c) := rfl

theorem info3 : (Try.prog.info? 3).map (fun i => (i.zero, i.size, i.bytes)) = some (some (.int .i64 0), 1, 8) := by kernel_rfl
-- the values' own types

end Go.Proofs.Ytafcfhlgenljgaa.PFnExactTimesAt
