/- The pure statement of the law FnSignalsGo. No condition. -/
import Derived.Test.YtlhhbkdeginhoaaOpn
import Derived.Test.YtlhhbkdeginhoaaPFnSignalsGox10
namespace Go.Proofs.Ytlhhbkdeginhoaa.Pure
open Go.RowKit Go.Proofs.Ytlhhbkdeginhoaa.PFnSignalsGo Go.Proofs.YtlhhbkdeginhoaaW.PrintWords Go.Proofs.Ytlhhbkdeginhoaa.Opn
/-- What is left of the law FnSignalsGo. -/
def StatFnSignalsGo : Prop := ∀ (l0 : List (Int)) (l1 : List (Int)), l0.length * 1 ≤ 140737488351232 → (∀ x ∈ l0, (0 ≤ x ∧ x ≤ 255)) → l1.length * 1 ≤ 140737488351232 → (∀ x ∈ l1, (0 ≤ x ∧ x ≤ 255)) → ∃ k_ : Nat, laws_FnSignalsGo.f k_ l0 l1 = some true
end Go.Proofs.Ytlhhbkdeginhoaa.Pure
