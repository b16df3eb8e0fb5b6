-- Laid by xprint, a program of this session that runs over the kit's print.
import Derived.Test.YtilaakmggfjcbaaDoorProg
import Derived.Test.YtilaakmggfjcbaaDoorFv
import Derived.Test.YtilaakmggfjcbaaDoorDr
import Derived.Test.YtilaakmggfjcbaaDoorIw
import Derived.Below
import Derived.Deep.Draws
import Derived.Deep.AppendLies
import Derived.Maps.AppendAt
import Derived.OwnWalk
import Derived.Laws.BytesArg
import Derived.Laws.MakeOwn
import Derived.Laws.OwnMore
import Derived.Deep.OwnRows
import Derived.Tactics
import Derived.Lib.ConvBytes
import Derived.Laws.Slices
import Derived.WalkKit
import Derived.KernelRfl
import Derived.RowKit3
import Derived.Deep.LoopGhost
import Derived.Deep.QuietTactic
import Derived.BigQuiet
import Derived.WideLaws
import Derived.Deep.DeepCutAuto
import Derived.Deep.CutBlock
import Derived.Deep.RegionHeld3
import Derived.Laws.Rows
import Derived.Lib.AppendStr
import Derived.ArgAppend
import Derived.Laws.IdiomCopy
import Derived.OrdersHeld
import Derived.Laws.BitsLemmas
import Derived.RowKit
import Derived.Test.YtilaakmggfjcbaaDoorWWords
import Derived.Test.YtilaakmggfjcbaaDoorWLast
import Derived.Test.YtilaakmggfjcbaaDoorWTab
import Derived.Test.YtilaakmggfjcbaaDoorWFour
import Derived.Test.YtilaakmggfjcbaaDoorWQPut
import Derived.Test.YtilaakmggfjcbaaDoorWApart
import Derived.Test.YtilaakmggfjcbaaDoorWArr
import Derived.Test.YtilaakmggfjcbaaDoorWZeros
import Derived.Test.YtilaakmggfjcbaaDoorWFoot
import Derived.Test.YtilaakmggfjcbaaDoorWKept
import Derived.Test.YtilaakmggfjcbaaDoorWShare
import Derived.Test.YtilaakmggfjcbaaDoorWN
import Derived.Test.YtilaakmggfjcbaaDoorWFootNe
import Derived.Test.YtilaakmggfjcbaaDoorWAt
import Derived.Test.YtilaakmggfjcbaaDoorWEqStruct
import Derived.Test.YtilaakmggfjcbaaDoorWRepsOne
import Derived.Test.YtilaakmggfjcbaaDoorWInv
import Derived.Test.YtilaakmggfjcbaaDoorWInvWords
import Derived.Test.YtilaakmggfjcbaaDoorWGuard
import Derived.Test.YtilaakmggfjcbaaDoorWNEv
import Derived.Test.YtilaakmggfjcbaaDoorWMore
import Derived.Test.YtilaakmggfjcbaaDoorSq
namespace Go.Proofs.YtilaakmggfjcbaaDoor.PFnExactParseSignal
open Go.RowKit Go.Proofs.YtilaakmggfjcbaaDoorW.PrintWords Go.Proofs.YtilaakmggfjcbaaDoorW.PrintLast Go.Proofs.YtilaakmggfjcbaaDoorW.PrintMore Go.Proofs.YtilaakmggfjcbaaDoor.Sq
attribute [local go_sem] max2_int min2_int max_two min_two max_three min_three max_four min_four   -- for this text's walks alone
set_option linter.unusedVariables false
set_option linter.unusedSimpArgs false



def errW : Option Int → Value
  | none => .nilIface
  | some c => .iface 55 (.pointer (some ⟨c.toNat, 0, none⟩))
theorem errW_none : errW none = .nilIface := rfl
theorem errW_some (c : Int) : errW (some c) = .iface 55 (.pointer (some ⟨c.toNat, 0, none⟩)) := rfl

theorem info5 : (Tryd.prog.info? 5).map (fun i => (i.zero, i.size, i.bytes)) = some (some (.int .u8 0), 1, 1) := by kernel_rfl
-- the values' own types

end Go.Proofs.YtilaakmggfjcbaaDoor.PFnExactParseSignal
