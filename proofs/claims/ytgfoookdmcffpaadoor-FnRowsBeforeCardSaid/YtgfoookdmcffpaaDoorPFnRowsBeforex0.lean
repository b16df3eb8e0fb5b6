-- Laid by xprint, a program of this session that runs over the kit's print.
import Derived.Test.YtgfoookdmcffpaaDoorProg
import Derived.Laws.Cover1
import Derived.Test.YtgfoookdmcffpaaDoorFv
import Derived.Test.YtgfoookdmcffpaaDoorDr
import Derived.Test.YtgfoookdmcffpaaDoorIt
import Derived.Below
import Derived.Deep.Draws
import Derived.Deep.AppendLies
import Derived.Maps.AppendAt
import Derived.OwnWalk
import Derived.Laws.BytesArg
import Derived.Laws.MakeOwn
import Derived.Laws.OwnMore
import Derived.Deep.OwnRows
import Derived.Tactics
import Derived.Lib.ConvBytes
import Derived.Laws.Slices
import Derived.WalkKit
import Derived.KernelRfl
import Derived.RowKit3
import Derived.Deep.LoopGhost
import Derived.Deep.QuietTactic
import Derived.BigQuiet
import Derived.WideLaws
import Derived.Deep.DeepCutAuto
import Derived.Deep.CutBlock
import Derived.Deep.RegionHeld3
import Derived.Laws.Rows
import Derived.Lib.AppendStr
import Derived.ArgAppend
import Derived.Laws.IdiomCopy
import Derived.OrdersHeld
import Derived.Laws.BitsLemmas
import Derived.RowKit
import Derived.Test.YtgfoookdmcffpaaDoorWWords
import Derived.Test.YtgfoookdmcffpaaDoorWLast
import Derived.Test.YtgfoookdmcffpaaDoorWTab
import Derived.Test.YtgfoookdmcffpaaDoorWFour
import Derived.Test.YtgfoookdmcffpaaDoorWQPut
import Derived.Test.YtgfoookdmcffpaaDoorWApart
import Derived.Test.YtgfoookdmcffpaaDoorWArr
import Derived.Test.YtgfoookdmcffpaaDoorWZeros
import Derived.Test.YtgfoookdmcffpaaDoorWFoot
import Derived.Test.YtgfoookdmcffpaaDoorWKept
import Derived.Test.YtgfoookdmcffpaaDoorWShare
import Derived.Test.YtgfoookdmcffpaaDoorWN
import Derived.Test.YtgfoookdmcffpaaDoorWFootNe
import Derived.Test.YtgfoookdmcffpaaDoorWAt
import Derived.Test.YtgfoookdmcffpaaDoorWEqStruct
import Derived.Test.YtgfoookdmcffpaaDoorWRepsOne
import Derived.Test.YtgfoookdmcffpaaDoorWInv
import Derived.Test.YtgfoookdmcffpaaDoorWInvWords
import Derived.Test.YtgfoookdmcffpaaDoorWGuard
import Derived.Test.YtgfoookdmcffpaaDoorWNEv
import Derived.Test.YtgfoookdmcffpaaDoorWMore
import Derived.Test.YtgfoookdmcffpaaDoorSq
namespace Go.Proofs.YtgfoookdmcffpaaDoor.PFnRowsBefore
open Go.RowKit Go.Proofs.YtgfoookdmcffpaaDoorW.PrintWords Go.Proofs.YtgfoookdmcffpaaDoorW.PrintLast Go.Proofs.YtgfoookdmcffpaaDoorW.PrintMore Go.Proofs.YtgfoookdmcffpaaDoor.Sq
attribute [local go_sem] max2_int min2_int max_two min_two max_three min_three max_four min_four   -- for this text's walks alone
set_option linter.unusedVariables false
set_option linter.unusedSimpArgs false



def errW : Option Int → Value
  | none => .nilIface
  | some c => .iface 0 (.int .i64 c)
theorem errW_none : errW none = .nilIface := rfl
theorem errW_some (c : Int) : errW (some c) = .iface 0 (.int .i64 c) := rfl

theorem info3 : (Tryd.prog.info? 3).map (fun i => (i.zero, i.size, i.bytes)) = some (some (.int .i64 0), 1, 8) := by kernel_rfl
theorem info5 : (Tryd.prog.info? 5).map (fun i => (i.zero, i.size, i.bytes)) = some (some (.int .u8 0), 1, 1) := by kernel_rfl
theorem info9 : (Tryd.prog.info? 9).map (fun i => (i.zero, i.size, i.bytes)) = some (some (.string ⟨#[]⟩), 1, 16) := by kernel_rfl
-- the values' own types

end Go.Proofs.YtgfoookdmcffpaaDoor.PFnRowsBefore
