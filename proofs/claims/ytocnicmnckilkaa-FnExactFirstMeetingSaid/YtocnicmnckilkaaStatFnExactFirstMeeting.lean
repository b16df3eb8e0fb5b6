/- The pure statement of the law FnExactFirstMeeting. No condition. -/
import Derived.Test.YtocnicmnckilkaaOpn
import Derived.Test.YtocnicmnckilkaaPFnExactFirstMeetingx5
namespace Go.Proofs.Ytocnicmnckilkaa.Pure
open Go.RowKit Go.Proofs.Ytocnicmnckilkaa.PFnExactFirstMeeting Go.Proofs.YtocnicmnckilkaaW.PrintWords Go.Proofs.Ytocnicmnckilkaa.Opn
/-- What is left of the law FnExactFirstMeeting. -/
def StatFnExactFirstMeeting : Prop := ∀ (a0 : Int) (a1_0 : Int) (a1_1 : Bool) (a1_2 : Int) (a2_0 : Int) (a2_1 : Bool) (a2_2 : Int), I64 a0 → I64 a1_0 → I64 a1_2 → I64 a2_0 → I64 a2_2 → ∃ k_ : Nat, laws_FnExactFirstMeeting.f k_ a0 a1_0 a1_1 a1_2 a2_0 a2_1 a2_2 = some true
end Go.Proofs.Ytocnicmnckilkaa.Pure
