/- The pure statement of the law FnExactIsClue. No condition. -/
import Derived.Test.YtocnicmnckilkaaOpn
import Derived.Test.YtocnicmnckilkaaPFnExactIsCluex1
namespace Go.Proofs.Ytocnicmnckilkaa.Pure
open Go.RowKit Go.Proofs.Ytocnicmnckilkaa.PFnExactIsClue Go.Proofs.YtocnicmnckilkaaW.PrintWords Go.Proofs.Ytocnicmnckilkaa.Opn
/-- What is left of the law FnExactIsClue. -/
def StatFnExactIsClue : Prop := ∀ (a0 : Int) (a1_0 : Int) (a1_1 : Int) (a1_2 : Int) (a1_3 : Int), I64 a0 → I64 a1_0 → I64 a1_1 → I64 a1_2 → I64 a1_3 → laws_FnExactIsClue.f a0 a1_0 a1_1 a1_2 a1_3 = some true
end Go.Proofs.Ytocnicmnckilkaa.Pure
