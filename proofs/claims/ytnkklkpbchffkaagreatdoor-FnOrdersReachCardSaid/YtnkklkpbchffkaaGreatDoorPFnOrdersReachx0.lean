-- Laid by xprint, a program of this session that runs over the kit's print.
import Derived.Test.YtnkklkpbchffkaaGreatDoorProg
import Derived.Laws.Cover1
import Derived.Test.YtnkklkpbchffkaaGreatDoorFv
import Derived.Test.YtnkklkpbchffkaaGreatDoorDr
import Derived.Test.YtnkklkpbchffkaaGreatDoorIt
import Derived.Below
import Derived.Deep.Draws
import Derived.Deep.AppendLies
import Derived.Maps.AppendAt
import Derived.OwnWalk
import Derived.Laws.BytesArg
import Derived.Laws.MakeOwn
import Derived.Laws.OwnMore
import Derived.Deep.OwnRows
import Derived.Tactics
import Derived.Lib.ConvBytes
import Derived.Laws.Slices
import Derived.WalkKit
import Derived.KernelRfl
import Derived.RowKit3
import Derived.Deep.LoopGhost
import Derived.Deep.QuietTactic
import Derived.BigQuiet
import Derived.WideLaws
import Derived.Deep.DeepCutAuto
import Derived.Deep.CutBlock
import Derived.Deep.RegionHeld3
import Derived.Laws.Rows
import Derived.Lib.AppendStr
import Derived.ArgAppend
import Derived.Laws.IdiomCopy
import Derived.OrdersHeld
import Derived.Laws.BitsLemmas
import Derived.RowKit
import Derived.Test.YtnkklkpbchffkaaGreatDoorWWords
import Derived.Test.YtnkklkpbchffkaaGreatDoorWLast
import Derived.Test.YtnkklkpbchffkaaGreatDoorWTab
import Derived.Test.YtnkklkpbchffkaaGreatDoorWFour
import Derived.Test.YtnkklkpbchffkaaGreatDoorWQPut
import Derived.Test.YtnkklkpbchffkaaGreatDoorWApart
import Derived.Test.YtnkklkpbchffkaaGreatDoorWArr
import Derived.Test.YtnkklkpbchffkaaGreatDoorWZeros
import Derived.Test.YtnkklkpbchffkaaGreatDoorWFoot
import Derived.Test.YtnkklkpbchffkaaGreatDoorWKept
import Derived.Test.YtnkklkpbchffkaaGreatDoorWShare
import Derived.Test.YtnkklkpbchffkaaGreatDoorWN
import Derived.Test.YtnkklkpbchffkaaGreatDoorWFootNe
import Derived.Test.YtnkklkpbchffkaaGreatDoorWAt
import Derived.Test.YtnkklkpbchffkaaGreatDoorWEqStruct
import Derived.Test.YtnkklkpbchffkaaGreatDoorWRepsOne
import Derived.Test.YtnkklkpbchffkaaGreatDoorWInv
import Derived.Test.YtnkklkpbchffkaaGreatDoorWInvWords
import Derived.Test.YtnkklkpbchffkaaGreatDoorWGuard
import Derived.Test.YtnkklkpbchffkaaGreatDoorWNEv
import Derived.Test.YtnkklkpbchffkaaGreatDoorWMore
import Derived.Test.YtnkklkpbchffkaaGreatDoorSq
namespace Go.Proofs.YtnkklkpbchffkaaGreatDoor.PFnOrdersReach
open Go.RowKit Go.Proofs.YtnkklkpbchffkaaGreatDoorW.PrintWords Go.Proofs.YtnkklkpbchffkaaGreatDoorW.PrintLast Go.Proofs.YtnkklkpbchffkaaGreatDoorW.PrintMore Go.Proofs.YtnkklkpbchffkaaGreatDoor.Sq
attribute [local go_sem] max2_int min2_int max_two min_two max_three min_three max_four min_four   -- for this text's walks alone
set_option linter.unusedVariables false
set_option linter.unusedSimpArgs false



def errW : Option Int → Value
  | none => .nilIface
  | some c => .iface 0 (.int .i64 c)
theorem errW_none : errW none = .nilIface := rfl
theorem errW_some (c : Int) : errW (some c) = .iface 0 (.int .i64 c) := rfl

theorem info3 : (Tryz.prog.info? 3).map (fun i => (i.zero, i.size, i.bytes)) = some (some (.int .i64 0), 1, 8) := by kernel_rfl
theorem info4 : (Tryz.prog.info? 4).map (fun i => (i.zero, i.size, i.bytes)) = some (some (.bool false), 1, 1) := by kernel_rfl
theorem info9 : (Tryz.prog.info? 9).map (fun i => (i.zero, i.size, i.bytes)) = some (some (.string ⟨#[]⟩), 1, 16) := by kernel_rfl
-- the values' own types

end Go.Proofs.YtnkklkpbchffkaaGreatDoor.PFnOrdersReach
