/- The pure statement of the law FnExactParseSignal. No condition. -/
import Derived.Test.YtilaakmggfjcbaaDoorOpn
import Derived.Test.YtilaakmggfjcbaaDoorPFnExactParseSignalx4
namespace Go.Proofs.YtilaakmggfjcbaaDoor.Pure
open Go.RowKit Go.Proofs.YtilaakmggfjcbaaDoor.PFnExactParseSignal Go.Proofs.YtilaakmggfjcbaaDoorW.PrintWords Go.Proofs.YtilaakmggfjcbaaDoor.Opn
/-- What is left of the law FnExactParseSignal. -/
def StatFnExactParseSignal : Prop := ∀ (a0 : ByteArray), a0.size ≤ 140737488351232 → ∃ k_ : Nat, laws_FnExactParseSignal.f k_ a0 = some true
end Go.Proofs.YtilaakmggfjcbaaDoor.Pure
