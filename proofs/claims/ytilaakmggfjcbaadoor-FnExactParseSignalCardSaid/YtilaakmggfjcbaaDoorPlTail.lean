/- Plain facts: Tail. No condition. -/
import Derived.Test.YtilaakmggfjcbaaDoorPlNum
import Derived.Lib.Join
import Derived.RowKit
import Derived.Test.YtilaakmggfjcbaaDoorWWords
import Derived.Test.YtilaakmggfjcbaaDoorWMore
import Derived.Test.YtilaakmggfjcbaaDoorOpn
namespace Go.Proofs.YtilaakmggfjcbaaDoor.Pl
open Go.RowKit Go.Proofs.YtilaakmggfjcbaaDoorW.PrintWords Go.Proofs.YtilaakmggfjcbaaDoorW.PrintMore Go.Proofs.YtilaakmggfjcbaaDoor.Opn
set_option linter.unusedVariables false
set_option linter.unusedSimpArgs false
theorem tail_cons (x : List UInt8) (r : List (List UInt8)) : Go.Lib.joinTail [44] (x :: r) = [44] ++ x ++ Go.Lib.joinTail [44] r := by simp [Go.Lib.joinTail]
theorem tail_len : ∀ (ls : List (List UInt8)), (∀ x ∈ ls, x.length ≤ 11) → (Go.Lib.joinTail [44] ls).length ≤ 12 * ls.length
  | [], _ => by simp [Go.Lib.joinTail]
  | x :: r, h => by
    have h1 := h x (by simp)
    have h2 := tail_len r (fun y hy => h y (by simp [hy]))
    rw [tail_cons]
    simp only [List.length_append, List.length_cons, List.length_nil]
    omega
theorem join_len (ls : List (List UInt8)) (h : ∀ x ∈ ls, x.length ≤ 11) : (Go.Lib.join ls [44]).length ≤ 12 * ls.length := by
  cases ls with
  | nil => simp [Go.Lib.join_nil]
  | cons x r =>
    have h1 := h x (by simp)
    have h2 := tail_len r (fun y hy => h y (by simp [hy]))
    rw [Go.Lib.join_cons]
    simp only [List.length_append, List.length_cons]
    omega
def dd (a : Int) : List UInt8 := Go.Lib.decDigits a.toNat
theorem dd_len (a : Int) (h : 0 ≤ a ∧ a < 100) : (dd a).length ≤ 2 := dec_len a.toNat (by omega)
end Go.Proofs.YtilaakmggfjcbaaDoor.Pl
