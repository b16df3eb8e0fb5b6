/- Plain facts: Spread. No condition. -/
import Derived.Test.YtjnkjnpopejgaaaPlList
import Derived.RowKit
import Derived.Test.YtjnkjnpopejgaaaWWords
import Derived.Test.YtjnkjnpopejgaaaWMore
import Derived.Test.YtjnkjnpopejgaaaOpn
namespace Go.Proofs.Ytjnkjnpopejgaaa.Pl
open Go.RowKit Go.Proofs.YtjnkjnpopejgaaaW.PrintWords Go.Proofs.YtjnkjnpopejgaaaW.PrintMore Go.Proofs.Ytjnkjnpopejgaaa.Opn
set_option linter.unusedVariables false
set_option linter.unusedSimpArgs false
/-- How far the nearest one of l is from x, acc at most. -/
def near (x : Int) (acc : Int) (l : List Int) : Int := l.foldl (fun a k => mn a (mx (x - k) (k - x))) acc
theorem near_bd (x : Int) : ∀ (l : List Int) (acc : Int), 0 ≤ acc → 0 ≤ near x acc l ∧ near x acc l ≤ acc
  | [], acc, h => ⟨h, Int.le_refl _⟩
  | k :: l, acc, h => by
    have h0 : 0 ≤ mx (x - k) (k - x) := by unfold mx; split <;> omega
    have h1 : 0 ≤ mn acc (mx (x - k) (k - x)) ∧ mn acc (mx (x - k) (k - x)) ≤ acc := by unfold mn; split <;> omega
    have := near_bd x l _ h1.1
    simp only [near, List.foldl_cons] at this ⊢
    omega
/-- The times at d places, i being the first one. -/
def spr (n : Int) (l : List Int) : Int → Nat → List Int
  | _, 0 => []
  | i, d + 1 => near i n l :: spr n l (i + 1) d
theorem spr_len (n : Int) (l : List Int) : ∀ (d : Nat) (i : Int), (spr n l i d).length = d
  | 0, _ => rfl
  | d + 1, i => by simp [spr, spr_len n l d]
theorem spr_nn (n : Int) (l : List Int) (hn : 0 ≤ n) : ∀ (d : Nat) (i : Int), ∀ x ∈ spr n l i d, 0 ≤ x ∧ x ≤ n
  | 0, _, x, h => by simp [spr] at h
  | d + 1, i, x, h => by
    simp only [spr, List.mem_cons] at h
    rcases h with rfl | h
    · exact near_bd i l n hn
    · exact spr_nn n l hn d (i + 1) x h
theorem mx_eq_max (a b : Int) : mx a b = max a b := by unfold mx; split <;> omega
theorem mn_eq_min (a b : Int) : mn a b = min a b := by unfold mn; split <;> omega
/-- Are there soldiers from whom news spread? -/
def stOK (n : Int) (l : List Int) : Prop := 1 ≤ n ∧ n ≤ 100 ∧ 0 < l.length ∧ ris l (n - 1) 0 l.length = true
instance (n : Int) (l : List Int) : Decidable (stOK n l) := by unfold stOK; infer_instance
end Go.Proofs.Ytjnkjnpopejgaaa.Pl
