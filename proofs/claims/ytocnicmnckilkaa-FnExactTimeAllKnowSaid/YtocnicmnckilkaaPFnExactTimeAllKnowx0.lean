-- Laid by xprint, a program of this session that runs over the kit's print.
import Derived.Test.YtocnicmnckilkaaProg
import Derived.Below
import Derived.Deep.Draws
import Derived.Deep.AppendLies
import Derived.Maps.AppendAt
import Derived.OwnWalk
import Derived.Laws.BytesArg
import Derived.Laws.MakeOwn
import Derived.Laws.OwnMore
import Derived.Deep.OwnRows
import Derived.Tactics
import Derived.Lib.ConvBytes
import Derived.Laws.Slices
import Derived.WalkKit
import Derived.KernelRfl
import Derived.RowKit3
import Derived.Deep.LoopGhost
import Derived.Deep.QuietTactic
import Derived.BigQuiet
import Derived.WideLaws
import Derived.Deep.DeepCutAuto
import Derived.Deep.CutBlock
import Derived.Deep.RegionHeld3
import Derived.Laws.Rows
import Derived.Lib.AppendStr
import Derived.ArgAppend
import Derived.Laws.IdiomCopy
import Derived.OrdersHeld
import Derived.Laws.BitsLemmas
import Derived.RowKit
import Derived.Test.YtocnicmnckilkaaWWords
import Derived.Test.YtocnicmnckilkaaWLast
import Derived.Test.YtocnicmnckilkaaWTab
import Derived.Test.YtocnicmnckilkaaWFour
import Derived.Test.YtocnicmnckilkaaWQPut
import Derived.Test.YtocnicmnckilkaaWApart
import Derived.Test.YtocnicmnckilkaaWArr
import Derived.Test.YtocnicmnckilkaaWZeros
import Derived.Test.YtocnicmnckilkaaWFoot
import Derived.Test.YtocnicmnckilkaaWKept
import Derived.Test.YtocnicmnckilkaaWShare
import Derived.Test.YtocnicmnckilkaaWN
import Derived.Test.YtocnicmnckilkaaWFootNe
import Derived.Test.YtocnicmnckilkaaWAt
import Derived.Test.YtocnicmnckilkaaWEqStruct
import Derived.Test.YtocnicmnckilkaaWRepsOne
import Derived.Test.YtocnicmnckilkaaWInv
import Derived.Test.YtocnicmnckilkaaWInvWords
import Derived.Test.YtocnicmnckilkaaWGuard
import Derived.Test.YtocnicmnckilkaaWNEv
import Derived.Test.YtocnicmnckilkaaWMore
namespace Go.Proofs.Ytocnicmnckilkaa.PFnExactTimeAllKnow
open Go.RowKit Go.Proofs.YtocnicmnckilkaaW.PrintWords Go.Proofs.YtocnicmnckilkaaW.PrintLast Go.Proofs.YtocnicmnckilkaaW.PrintMore
attribute [local go_sem] max2_int min2_int max_two min_two max_three min_three max_four min_four   -- for this text's walks alone
set_option linter.unusedVariables false
set_option linter.unusedSimpArgs false



def errW : Option Int → Value
  | none => .nilIface
  | some c => .iface 0 (.int .i64 c)
theorem errW_none : errW none = .nilIface := rfl
theorem errW_some (c : Int) : errW (some c) = .iface 0 (.int .i64 c) := rfl

theorem info3 : (Try.prog.info? 3).map (fun i => (i.zero, i.size, i.bytes)) = some (some (.int .i64 0), 1, 8) := by kernel_rfl
-- the values' own types

end Go.Proofs.Ytocnicmnckilkaa.PFnExactTimeAllKnow
