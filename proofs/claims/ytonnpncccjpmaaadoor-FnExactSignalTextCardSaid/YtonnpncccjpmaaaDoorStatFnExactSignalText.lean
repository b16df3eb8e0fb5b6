/- The pure statement of the law FnExactSignalText. No condition. -/
import Derived.Test.YtonnpncccjpmaaaDoorOpn
import Derived.Test.YtonnpncccjpmaaaDoorPFnExactSignalTextx2
namespace Go.Proofs.YtonnpncccjpmaaaDoor.Pure
open Go.RowKit Go.Proofs.YtonnpncccjpmaaaDoor.PFnExactSignalText Go.Proofs.YtonnpncccjpmaaaDoorW.PrintWords Go.Proofs.YtonnpncccjpmaaaDoor.Opn
/-- What is left of the law FnExactSignalText. -/
def StatFnExactSignalText : Prop := ∀ (a0_0 : Int) (a0_1 : Bool) (a0_2 : Int), I64 a0_0 → I64 a0_2 → ∃ k_ : Nat, laws_FnExactSignalText.f k_ a0_0 a0_1 a0_2 = some true
end Go.Proofs.YtonnpncccjpmaaaDoor.Pure
