-- Laid by xprint, a program of this session that runs over the kit's print.
import Derived.Test.YtlhhbkdeginhoaaProg
import Derived.Test.YtlhhbkdeginhoaaFv
import Derived.Below
import Derived.Deep.Draws
import Derived.Deep.AppendLies
import Derived.Maps.AppendAt
import Derived.OwnWalk
import Derived.Laws.BytesArg
import Derived.Laws.MakeOwn
import Derived.Laws.OwnMore
import Derived.Deep.OwnRows
import Derived.Tactics
import Derived.Lib.ConvBytes
import Derived.Laws.Slices
import Derived.WalkKit
import Derived.KernelRfl
import Derived.RowKit3
import Derived.Deep.LoopGhost
import Derived.Deep.QuietTactic
import Derived.BigQuiet
import Derived.WideLaws
import Derived.Deep.DeepCutAuto
import Derived.Deep.CutBlock
import Derived.Deep.RegionHeld3
import Derived.Laws.Rows
import Derived.Lib.AppendStr
import Derived.ArgAppend
import Derived.Laws.IdiomCopy
import Derived.OrdersHeld
import Derived.Laws.BitsLemmas
import Derived.RowKit
import Derived.Test.YtlhhbkdeginhoaaWWords
import Derived.Test.YtlhhbkdeginhoaaWLast
import Derived.Test.YtlhhbkdeginhoaaWTab
import Derived.Test.YtlhhbkdeginhoaaWFour
import Derived.Test.YtlhhbkdeginhoaaWQPut
import Derived.Test.YtlhhbkdeginhoaaWApart
import Derived.Test.YtlhhbkdeginhoaaWArr
import Derived.Test.YtlhhbkdeginhoaaWZeros
import Derived.Test.YtlhhbkdeginhoaaWFoot
import Derived.Test.YtlhhbkdeginhoaaWKept
import Derived.Test.YtlhhbkdeginhoaaWShare
import Derived.Test.YtlhhbkdeginhoaaWN
import Derived.Test.YtlhhbkdeginhoaaWFootNe
import Derived.Test.YtlhhbkdeginhoaaWAt
import Derived.Test.YtlhhbkdeginhoaaWEqStruct
import Derived.Test.YtlhhbkdeginhoaaWRepsOne
import Derived.Test.YtlhhbkdeginhoaaWInv
import Derived.Test.YtlhhbkdeginhoaaWInvWords
import Derived.Test.YtlhhbkdeginhoaaWGuard
import Derived.Test.YtlhhbkdeginhoaaWNEv
import Derived.Test.YtlhhbkdeginhoaaWMore
import Derived.Test.YtlhhbkdeginhoaaSq
namespace Go.Proofs.Ytlhhbkdeginhoaa.PFnSignalsGo
open Go.RowKit Go.Proofs.YtlhhbkdeginhoaaW.PrintWords Go.Proofs.YtlhhbkdeginhoaaW.PrintLast Go.Proofs.YtlhhbkdeginhoaaW.PrintMore Go.Proofs.Ytlhhbkdeginhoaa.Sq
attribute [local go_sem] max2_int min2_int max_two min_two max_three min_three max_four min_four   -- for this text's walks alone
set_option linter.unusedVariables false
set_option linter.unusedSimpArgs false



def errW : Option Int → Value
  | none => .nilIface
  | some c => .iface 0 (.int .i64 c)
theorem errW_none : errW none = .nilIface := rfl
theorem errW_some (c : Int) : errW (some c) = .iface 0 (.int .i64 c) := rfl

theorem info3 : (Try.prog.info? 3).map (fun i => (i.zero, i.size, i.bytes)) = some (some (.int .i64 0), 1, 8) := by kernel_rfl
-- the values' own types

end Go.Proofs.Ytlhhbkdeginhoaa.PFnSignalsGo
