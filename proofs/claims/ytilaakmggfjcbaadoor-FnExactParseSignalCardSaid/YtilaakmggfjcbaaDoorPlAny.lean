/- Plain facts: Any. No condition. -/
import Derived.Test.YtilaakmggfjcbaaDoorPlCut
import Derived.Lib.IndexAny
import Derived.RowKit
import Derived.Test.YtilaakmggfjcbaaDoorWWords
import Derived.Test.YtilaakmggfjcbaaDoorWMore
import Derived.Test.YtilaakmggfjcbaaDoorOpn
namespace Go.Proofs.YtilaakmggfjcbaaDoor.Pl
open Go.RowKit Go.Proofs.YtilaakmggfjcbaaDoorW.PrintWords Go.Proofs.YtilaakmggfjcbaaDoorW.PrintMore Go.Proofs.YtilaakmggfjcbaaDoor.Opn
set_option linter.unusedVariables false
set_option linter.unusedSimpArgs false
theorem indexAny_lt (c : List UInt8) : ∀ (l : List UInt8), Go.Lib.indexAny l c < (l.length : Int)
  | [] => by simp [Go.Lib.indexAny]
  | b :: l => by
    have ih := indexAny_lt c l
    rw [Go.Lib.indexAny]
    simp only [List.length_cons]
    split
    · omega
    · split <;> omega
/-- A signal's text. -/
def sgx (f : Int) (l : Bool) (s : Int) : List UInt8 := dd f ++ (if l = true then 60 else 62) :: dd s
theorem sgx_any (f : Int) (l : Bool) (s : Int) (hf : 0 ≤ f ∧ f < 100) : Go.Lib.indexAny (sgx f l s) [60, 62] = ((dd f).length : Int) := by
  refine Go.Lib.indexAny_hit (x := if l = true then 60 else 62) (fun j b hj hb => ?_) ?_ (by cases l <;> rfl)
  · unfold sgx at hb
    rw [List.getElem?_append_left hj] at hb
    have hm := List.mem_of_getElem? hb
    have h1 := dd_mem f hf 60 (by decide)
    have h2 := dd_mem f hf 62 (by decide)
    rw [List.contains_eq_any_beq]
    simp only [List.any_cons, List.any_nil, Bool.or_false, Bool.or_eq_false_iff, beq_eq_false_iff_ne]
    exact ⟨fun e => h1 (e ▸ hm), fun e => h2 (e ▸ hm)⟩
  · unfold sgx; simp
theorem sgx_take (f : Int) (l : Bool) (s : Int) : (sgx f l s).take (dd f).length = dd f := by unfold sgx; simp
theorem sgx_drop (f : Int) (l : Bool) (s : Int) : (sgx f l s).drop ((dd f).length + 1) = dd s := by
  unfold sgx; rw [List.drop_append, List.drop_of_length_le (by omega)]; simp
theorem sgx_len (f : Int) (l : Bool) (s : Int) (hf : 0 ≤ f ∧ f < 100) (hs : 0 ≤ s ∧ s < 100) : (sgx f l s).length = (dd f).length + 1 + (dd s).length ∧ (dd f).length ≤ 2 ∧ (dd s).length ≤ 2 := by
  refine ⟨by unfold sgx; simp; omega, dd_len f hf, dd_len s hs⟩
theorem sgx_bt (f : Int) (l : Bool) (s : Int) : bt (up (sgx f l s)) ((dd f).length : Int) = if l = true then 60 else 62 := by
  have hlt : (dd f).length < (L (up (sgx f l s))).length := by rw [L_mk]; unfold sgx; simp
  rw [bt_nat _ _ hlt]
  have e : (L (up (sgx f l s)))[(dd f).length]'hlt = if l = true then 60 else 62 := by
    have h2 : (sgx f l s)[(dd f).length]? = some (if l = true then 60 else 62) := by unfold sgx; simp
    have h3 : (L (up (sgx f l s)))[(dd f).length]? = some (if l = true then 60 else 62) := by rw [L_mk]; exact h2
    exact (List.getElem?_eq_some_iff.1 h3).2
  rw [e]
  cases l <;> rfl
end Go.Proofs.YtilaakmggfjcbaaDoor.Pl
