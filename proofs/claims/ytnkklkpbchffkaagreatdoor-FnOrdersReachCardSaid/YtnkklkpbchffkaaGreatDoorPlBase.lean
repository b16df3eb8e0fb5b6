/- Plain facts: Base. No condition. -/
import Derived.RowKit
import Derived.Test.YtnkklkpbchffkaaGreatDoorWWords
import Derived.Test.YtnkklkpbchffkaaGreatDoorWMore
import Derived.Test.YtnkklkpbchffkaaGreatDoorOpn
namespace Go.Proofs.YtnkklkpbchffkaaGreatDoor.Pl
open Go.RowKit Go.Proofs.YtnkklkpbchffkaaGreatDoorW.PrintWords Go.Proofs.YtnkklkpbchffkaaGreatDoorW.PrintMore Go.Proofs.YtnkklkpbchffkaaGreatDoor.Opn
set_option linter.unusedVariables false
set_option linter.unusedSimpArgs false
theorem wrap64_id {x : Int} (h : -9223372036854775808 ≤ x) (h' : x ≤ 9223372036854775807) : wrap64 x = x := by unfold wrap64; omega
theorem Ev.succ {α : Type} {g : Nat → Option α} {r : α} (h : Ev (fun k => g (k + 1)) r) : Ev g r := Ev.step (fun _ => rfl) h
theorem Ev.const {α : Type} {x : Option α} {r : α} (h : x = some r) : Ev (fun _ => x) r := ⟨0, fun _ _ => h⟩
theorem Ev.pos {α : Type} {c : Prop} [Decidable c] {g f : Nat → Option α} {r : α} (hc : c) (h : Ev g r) : Ev (fun k => if c then g k else f k) r := by
  simp only [if_pos hc]; exact h
theorem Ev.neg {α : Type} {c : Prop} [Decidable c] {g f : Nat → Option α} {r : α} (hc : ¬ c) (h : Ev f r) : Ev (fun k => if c then g k else f k) r := by
  simp only [if_neg hc]; exact h
theorem Ev.iff {α : Type} {c : Prop} [Decidable c] {g f : Nat → Option α} {r : α} (h : c → Ev g r) (h' : ¬ c → Ev f r) : Ev (fun k => if c then g k else f k) r := by
  by_cases hc : c
  · exact Ev.pos hc (h hc)
  · exact Ev.neg hc (h' hc)
theorem Ev.both {α γ : Type} {g : Nat → Option α} {a : α} {r : γ} {f : Nat → α → Option γ} (h : Ev g a) (k : Ev (fun n => f n a) r) : Ev (fun n => (g n).bind fun x => f n x) r := Ev.bind h k
theorem Ev.get {α : Type} {g : Nat → Option α} {r : α} (h : Ev g r) : ∃ k, g k = some r := Ev.rounds h
theorem tdiv_nn {a b : Int} (h : 0 ≤ a) : Int.tdiv a b = a / b := Int.tdiv_eq_ediv_of_nonneg h
theorem tmod_nn {a b : Int} (h : 0 ≤ a) : Int.tmod a b = a % b := Int.tmod_eq_emod_of_nonneg h
/-- How many of d whole numbers, t being the first one, p holds of. -/
def cnt (p : Int → Bool) : Int → Nat → Int
  | _, 0 => 0
  | t, d + 1 => (if p t = true then 1 else 0) + cnt p (t + 1) d
theorem cnt_bd (p : Int → Bool) : ∀ (d : Nat) (t : Int), 0 ≤ cnt p t d ∧ cnt p t d ≤ d
  | 0, _ => by simp [cnt]
  | d + 1, t => by
    have := cnt_bd p d (t + 1)
    simp only [cnt]
    split <;> omega
/-- The first of d whole numbers, t being the first one, of which p holds. -/
def fst (p : Int → Bool) : Int → Nat → Option Int
  | _, 0 => none
  | t, d + 1 => if p t = true then some t else fst p (t + 1) d
theorem fst_some (p : Int → Bool) : ∀ (d : Nat) (t r : Int), fst p t d = some r → t ≤ r ∧ r < t + d ∧ p r = true ∧ ∀ q, t ≤ q → q < r → p q = false
  | 0, t, r, h => by simp [fst] at h
  | d + 1, t, r, h => by
    simp only [fst] at h
    by_cases hp : p t = true
    · rw [if_pos hp] at h
      obtain rfl := Option.some.inj h
      exact ⟨by omega, by omega, hp, fun q h1 h2 => by omega⟩
    · rw [if_neg hp] at h
      obtain ⟨h1, h2, h3, h4⟩ := fst_some p d (t + 1) r h
      refine ⟨by omega, by omega, h3, fun q h5 h6 => ?_⟩
      by_cases hq : q = t
      · subst hq; simpa using hp
      · exact h4 q (by omega) h6
theorem fst_none (p : Int → Bool) : ∀ (d : Nat) (t : Int), fst p t d = none → ∀ q, t ≤ q → q < t + d → p q = false
  | 0, t, _, q, h1, h2 => by omega
  | d + 1, t, h, q, h1, h2 => by
    simp only [fst] at h
    by_cases hp : p t = true
    · rw [if_pos hp] at h; simp at h
    · rw [if_neg hp] at h
      by_cases hq : q = t
      · subst hq; simpa using hp
      · exact fst_none p d (t + 1) h q (by omega) (by omega)
/-- Those of d whole numbers, t being the first one, of which p holds. -/
def fil (p : Int → Bool) : Int → Nat → List Int
  | _, 0 => []
  | t, d + 1 => (if p t = true then [t] else []) ++ fil p (t + 1) d
theorem fil_len (p : Int → Bool) : ∀ (d : Nat) (t : Int), (fil p t d).length ≤ d
  | 0, _ => by simp [fil]
  | d + 1, t => by
    have := fil_len p d (t + 1)
    simp only [fil, List.length_append]
    split <;> simp <;> omega

end Go.Proofs.YtnkklkpbchffkaaGreatDoor.Pl
