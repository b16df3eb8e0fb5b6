/- The pure statement of the law FnExactBestStarts. No condition. -/
import Derived.Test.YtjnkjnpopejgaaaOpn
import Derived.Test.YtjnkjnpopejgaaaPFnExactBestStartsx3
namespace Go.Proofs.Ytjnkjnpopejgaaa.Pure
open Go.RowKit Go.Proofs.Ytjnkjnpopejgaaa.PFnExactBestStarts Go.Proofs.YtjnkjnpopejgaaaW.PrintWords Go.Proofs.Ytjnkjnpopejgaaa.Opn
/-- What is left of the law FnExactBestStarts. -/
def StatFnExactBestStarts : Prop := ∀ (a0 : Int) (a1 : Int), I64 a0 → I64 a1 → ∃ k_ : Nat, laws_FnExactBestStarts.f k_ a0 a1 = some true
end Go.Proofs.Ytjnkjnpopejgaaa.Pure
