/- Plain facts: Base, Sig, Tms, List, Spread, Heard, Best, Bytes, Tick, Row, Num, Tail, Cut, Any, Reach. No condition. -/
import Derived.RowKit
import Derived.Test.YtmhbcfdodcnjmaaGreatDoorWWords
import Derived.Test.YtmhbcfdodcnjmaaGreatDoorWMore
import Derived.Test.YtmhbcfdodcnjmaaGreatDoorOpn
import Derived.Laws.Strings
import Derived.Lib.ReplaceLaws
import Derived.Lib.SlTrimSet
import Derived.Lib.ItoaNum
import Derived.Lib.Join
import Derived.Lib.SplitLaws
import Derived.Lib.CountLaws
import Derived.Lib.IndexMore
import Derived.Lib.AtoiAllCases
import Derived.Lib.IndexAny
section
namespace Go.Proofs.YtmhbcfdodcnjmaaGreatDoor.Pl
open Go.RowKit Go.Proofs.YtmhbcfdodcnjmaaGreatDoorW.PrintWords Go.Proofs.YtmhbcfdodcnjmaaGreatDoorW.PrintMore Go.Proofs.YtmhbcfdodcnjmaaGreatDoor.Opn
set_option linter.unusedVariables false
set_option linter.unusedSimpArgs false
theorem wrap64_id {x : Int} (h : -9223372036854775808 ≤ x) (h' : x ≤ 9223372036854775807) : wrap64 x = x := by unfold wrap64; omega
theorem Ev.succ {α : Type} {g : Nat → Option α} {r : α} (h : Ev (fun k => g (k + 1)) r) : Ev g r := Ev.step (fun _ => rfl) h
theorem Ev.const {α : Type} {x : Option α} {r : α} (h : x = some r) : Ev (fun _ => x) r := ⟨0, fun _ _ => h⟩
theorem Ev.pos {α : Type} {c : Prop} [Decidable c] {g f : Nat → Option α} {r : α} (hc : c) (h : Ev g r) : Ev (fun k => if c then g k else f k) r := by
  simp only [if_pos hc]; exact h
theorem Ev.neg {α : Type} {c : Prop} [Decidable c] {g f : Nat → Option α} {r : α} (hc : ¬ c) (h : Ev f r) : Ev (fun k => if c then g k else f k) r := by
  simp only [if_neg hc]; exact h
theorem Ev.iff {α : Type} {c : Prop} [Decidable c] {g f : Nat → Option α} {r : α} (h : c → Ev g r) (h' : ¬ c → Ev f r) : Ev (fun k => if c then g k else f k) r := by
  by_cases hc : c
  · exact Ev.pos hc (h hc)
  · exact Ev.neg hc (h' hc)
theorem Ev.get {α : Type} {g : Nat → Option α} {r : α} (h : Ev g r) : ∃ k, g k = some r := Ev.rounds h
theorem tdiv_nn {a b : Int} (h : 0 ≤ a) : Int.tdiv a b = a / b := Int.tdiv_eq_ediv_of_nonneg h
theorem tmod_nn {a b : Int} (h : 0 ≤ a) : Int.tmod a b = a % b := Int.tmod_eq_emod_of_nonneg h
/-- How many of d whole numbers, t being the first one, p holds of. -/
def cnt (p : Int → Bool) : Int → Nat → Int
  | _, 0 => 0
  | t, d + 1 => (if p t = true then 1 else 0) + cnt p (t + 1) d
/-- The first of d whole numbers, t being the first one, of which p holds. -/
def fst (p : Int → Bool) : Int → Nat → Option Int
  | _, 0 => none
  | t, d + 1 => if p t = true then some t else fst p (t + 1) d
theorem fst_some (p : Int → Bool) : ∀ (d : Nat) (t r : Int), fst p t d = some r → t ≤ r ∧ r < t + d ∧ p r = true ∧ ∀ q, t ≤ q → q < r → p q = false
  | 0, t, r, h => by simp [fst] at h
  | d + 1, t, r, h => by
    simp only [fst] at h
    by_cases hp : p t = true
    · rw [if_pos hp] at h
      obtain rfl := Option.some.inj h
      exact ⟨by omega, by omega, hp, fun q h1 h2 => by omega⟩
    · rw [if_neg hp] at h
      obtain ⟨h1, h2, h3, h4⟩ := fst_some p d (t + 1) r h
      refine ⟨by omega, by omega, h3, fun q h5 h6 => ?_⟩
      by_cases hq : q = t
      · subst hq; simpa using hp
      · exact h4 q (by omega) h6
theorem fst_none (p : Int → Bool) : ∀ (d : Nat) (t : Int), fst p t d = none → ∀ q, t ≤ q → q < t + d → p q = false
  | 0, t, _, q, h1, h2 => by omega
  | d + 1, t, h, q, h1, h2 => by
    simp only [fst] at h
    by_cases hp : p t = true
    · rw [if_pos hp] at h; simp at h
    · rw [if_neg hp] at h
      by_cases hq : q = t
      · subst hq; simpa using hp
      · exact fst_none p d (t + 1) h q (by omega) (by omega)
/-- Those of d whole numbers, t being the first one, of which p holds. -/
def fil (p : Int → Bool) : Int → Nat → List Int
  | _, 0 => []
  | t, d + 1 => (if p t = true then [t] else []) ++ fil p (t + 1) d
theorem fil_len (p : Int → Bool) : ∀ (d : Nat) (t : Int), (fil p t d).length ≤ d
  | 0, _ => by simp [fil]
  | d + 1, t => by
    have := fil_len p d (t + 1)
    simp only [fil, List.length_append]
    split <;> simp <;> omega

end Go.Proofs.YtmhbcfdodcnjmaaGreatDoor.Pl
end
section
namespace Go.Proofs.YtmhbcfdodcnjmaaGreatDoor.Pl
open Go.RowKit Go.Proofs.YtmhbcfdodcnjmaaGreatDoorW.PrintWords Go.Proofs.YtmhbcfdodcnjmaaGreatDoorW.PrintMore Go.Proofs.YtmhbcfdodcnjmaaGreatDoor.Opn
set_option linter.unusedVariables false
set_option linter.unusedSimpArgs false
/-- Where a signal is. -/
def plc (n f : Int) (l : Bool) (s t : Int) : Int :=
  if n = 1 then 0 else
    let r := 2 * (n - 1)
    let m := ((if l = true then r - f else f) + t / s) % r
    if m < r - m then m else r - m
/-- Does it come there? -/
def cms (n s t : Int) : Bool := decide (t = 0) || (decide (n > 1) && decide (t % s = 0))
def sigOK (n f s : Int) : Prop := 1 ≤ n ∧ n ≤ 100 ∧ 0 ≤ f ∧ f ≤ n - 1 ∧ 1 ≤ s ∧ s ≤ 10
instance (n f s : Int) : Decidable (sigOK n f s) := by unfold sigOK; infer_instance
def mtg (n f : Int) (l : Bool) (s f' : Int) (l' : Bool) (s' t : Int) : Bool := (cms n s t || cms n s' t) && decide (plc n f l s t = plc n f' l' s' t)
theorem plc_bd {n f : Int} {l : Bool} {s t : Int} (h : sigOK n f s) (ht : 0 ≤ t) : 0 ≤ plc n f l s t ∧ plc n f l s t ≤ n - 1 := by
  unfold sigOK at h
  unfold plc
  by_cases h1 : n = 1
  · simp [h1]
  · simp only [if_neg h1]
    generalize (if l = true then 2 * (n - 1) - f else f) + t / s = x
    have hm := Int.emod_nonneg x (show 2 * (n - 1) ≠ 0 by omega)
    have hM := Int.emod_lt_of_pos x (show 0 < 2 * (n - 1) by omega)
    generalize x % (2 * (n - 1)) = m at hm hM
    split <;> omega
end Go.Proofs.YtmhbcfdodcnjmaaGreatDoor.Pl
end
section
namespace Go.Proofs.YtmhbcfdodcnjmaaGreatDoor.Pl
open Go.RowKit Go.Proofs.YtmhbcfdodcnjmaaGreatDoorW.PrintWords Go.Proofs.YtmhbcfdodcnjmaaGreatDoorW.PrintMore Go.Proofs.YtmhbcfdodcnjmaaGreatDoor.Opn
set_option linter.unusedVariables false
set_option linter.unusedSimpArgs false
end Go.Proofs.YtmhbcfdodcnjmaaGreatDoor.Pl
end
section
namespace Go.Proofs.YtmhbcfdodcnjmaaGreatDoor.Pl
open Go.RowKit Go.Proofs.YtmhbcfdodcnjmaaGreatDoorW.PrintWords Go.Proofs.YtmhbcfdodcnjmaaGreatDoorW.PrintMore Go.Proofs.YtmhbcfdodcnjmaaGreatDoor.Opn
set_option linter.unusedVariables false
set_option linter.unusedSimpArgs false
theorem rd_cons_drop {l : List Int} {j : Nat} (h : j < l.length) : l.drop j = rd l (j : Int) :: l.drop (j + 1) := by
  rw [List.drop_eq_getElem_cons h]
  congr 1
  simp [rd, h]
theorem rd_mem {l : List Int} {j : Nat} (h : j < l.length) : rd l (j : Int) ∈ l := by
  simp [rd, h]
theorem rd_append {l : List Int} {y : Int} : rd (l ++ [y]) (l.length : Int) = y := by simp [rd]
/-- Do numbers rise, from a place on, and lie from 0 to hi? -/
def ris (l : List Int) (hi : Int) : Int → Nat → Bool
  | _, 0 => true
  | i, d + 1 => decide (0 ≤ rd l i ∧ rd l i ≤ hi) && (!decide (i > 0) || decide (rd l (i - 1) < rd l i)) && ris l hi (i + 1) d
theorem ris_all (l : List Int) (hi : Int) : ∀ (d : Nat) (i : Int), ris l hi i d = true → ∀ j, i ≤ j → j < i + d → 0 ≤ rd l j ∧ rd l j ≤ hi
  | 0, i, _, j, h1, h2 => by omega
  | d + 1, i, h, j, h1, h2 => by
    simp only [ris, Bool.and_eq_true, decide_eq_true_eq] at h
    by_cases e : j = i
    · subst e; exact h.1.1
    · exact ris_all l hi d (i + 1) h.2 j (by omega) (by omega)
theorem ris_mem {l : List Int} {hi : Int} (h : ris l hi 0 l.length = true) : ∀ x ∈ l, 0 ≤ x ∧ x ≤ hi := by
  intro x hx
  obtain ⟨j, hj, rfl⟩ := List.getElem_of_mem hx
  have := ris_all l hi l.length 0 h (j : Int) (by omega) (by omega)
  simpa [rd, hj] using this
end Go.Proofs.YtmhbcfdodcnjmaaGreatDoor.Pl
end
section
namespace Go.Proofs.YtmhbcfdodcnjmaaGreatDoor.Pl
open Go.RowKit Go.Proofs.YtmhbcfdodcnjmaaGreatDoorW.PrintWords Go.Proofs.YtmhbcfdodcnjmaaGreatDoorW.PrintMore Go.Proofs.YtmhbcfdodcnjmaaGreatDoor.Opn
set_option linter.unusedVariables false
set_option linter.unusedSimpArgs false
/-- How far the nearest one of l is from x, acc at most. -/
def near (x : Int) (acc : Int) (l : List Int) : Int := l.foldl (fun a k => mn a (mx (x - k) (k - x))) acc
theorem near_bd (x : Int) : ∀ (l : List Int) (acc : Int), 0 ≤ acc → 0 ≤ near x acc l ∧ near x acc l ≤ acc
  | [], acc, h => ⟨h, Int.le_refl _⟩
  | k :: l, acc, h => by
    have h0 : 0 ≤ mx (x - k) (k - x) := by unfold mx; split <;> omega
    have h1 : 0 ≤ mn acc (mx (x - k) (k - x)) ∧ mn acc (mx (x - k) (k - x)) ≤ acc := by unfold mn; split <;> omega
    have := near_bd x l _ h1.1
    simp only [near, List.foldl_cons] at this ⊢
    omega
/-- The times at d places, i being the first one. -/
def spr (n : Int) (l : List Int) : Int → Nat → List Int
  | _, 0 => []
  | i, d + 1 => near i n l :: spr n l (i + 1) d
theorem spr_len (n : Int) (l : List Int) : ∀ (d : Nat) (i : Int), (spr n l i d).length = d
  | 0, _ => rfl
  | d + 1, i => by simp [spr, spr_len n l d]
/-- Are there soldiers from whom news spread? -/
def stOK (n : Int) (l : List Int) : Prop := 1 ≤ n ∧ n ≤ 100 ∧ 0 < l.length ∧ ris l (n - 1) 0 l.length = true
instance (n : Int) (l : List Int) : Decidable (stOK n l) := by unfold stOK; infer_instance
end Go.Proofs.YtmhbcfdodcnjmaaGreatDoor.Pl
end
section
namespace Go.Proofs.YtmhbcfdodcnjmaaGreatDoor.Pl
open Go.RowKit Go.Proofs.YtmhbcfdodcnjmaaGreatDoorW.PrintWords Go.Proofs.YtmhbcfdodcnjmaaGreatDoorW.PrintMore Go.Proofs.YtmhbcfdodcnjmaaGreatDoor.Opn
set_option linter.unusedVariables false
set_option linter.unusedSimpArgs false
def rnd (n : Int) : Int := if n = 1 then 1 else 2 * (n - 1)
/-- At which step a signal first comes to a place. -/
def frs (n f : Int) (l : Bool) (p : Int) : Int :=
  if n = 1 then 0 else mn ((p - (if l = true then 2 * (n - 1) - f else f) + 2 * (2 * (n - 1))) % (2 * (n - 1))) ((2 * (n - 1) - p - (if l = true then 2 * (n - 1) - f else f) + 2 * (2 * (n - 1))) % (2 * (n - 1)))
theorem em_eq {x y r : Int} (q : Int) (h : 0 ≤ y) (h2 : y < r) (e : x = y + r * q) : x % r = y := by
  subst e
  rw [Int.add_mul_emod_self_left, Int.emod_eq_of_lt h h2]
theorem frs_bd {n f : Int} {l : Bool} {s p : Int} (h : sigOK n f s) : 0 ≤ frs n f l p ∧ frs n f l p < rnd n := by
  unfold sigOK at h
  unfold frs rnd
  by_cases h1 : n = 1
  · simp [h1]
  · simp only [if_neg h1]
    generalize (if l = true then 2 * (n - 1) - f else f) = a
    have r0 : 2 * (n - 1) ≠ 0 := by omega
    have r1 : 0 < 2 * (n - 1) := by omega
    generalize 2 * (n - 1) = r at r0 r1
    have hm := Int.emod_nonneg (p - a + 2 * r) r0
    have hM := Int.emod_lt_of_pos (p - a + 2 * r) r1
    have hm' := Int.emod_nonneg (r - p - a + 2 * r) r0
    have hM' := Int.emod_lt_of_pos (r - p - a + 2 * r) r1
    unfold mn
    split <;> omega
theorem frs_plc {n f : Int} {l : Bool} {s p : Int} (h : sigOK n f s) (h0 : 0 ≤ p) (h1 : p ≤ n - 1) : plc n f l s (frs n f l p * s) = p := by
  unfold sigOK at h
  unfold frs plc
  by_cases hn : n = 1
  · simp only [if_pos hn]; omega
  · simp only [if_neg hn]
    rw [Int.mul_ediv_cancel _ (show s ≠ 0 by omega)]
    generalize (if l = true then 2 * (n - 1) - f else f) = a
    have r1 : 0 < 2 * (n - 1) := by omega
    have r2 : 2 * p ≤ 2 * (n - 1) := by omega
    generalize 2 * (n - 1) = r at r1 r2
    have ht := Int.emod_def (p - a + 2 * r) r
    have hb := Int.emod_def (r - p - a + 2 * r) r
    generalize (p - a + 2 * r) / r = q1 at ht
    generalize (r - p - a + 2 * r) / r = q2 at hb
    have et : (a + (p - a + 2 * r) % r) % r = p := em_eq (2 - q1) h0 (by omega) (by rw [ht, Int.mul_sub]; omega)
    unfold mn
    split
    · by_cases hp : p = 0
      · have eb : (a + (r - p - a + 2 * r) % r) % r = 0 := em_eq (3 - q2) (by omega) r1 (by rw [hb, Int.mul_sub]; omega)
        rw [eb, if_pos (by omega), hp]
      · have eb : (a + (r - p - a + 2 * r) % r) % r = r - p := em_eq (2 - q2) (by omega) (by omega) (by rw [hb, Int.mul_sub]; omega)
        rw [eb]
        split <;> omega
    · rw [et]
      split <;> omega
theorem frs_le {n f : Int} {l : Bool} {s k : Int} (h : sigOK n f s) (h0 : 0 ≤ k) (h1 : k < rnd n) : frs n f l (plc n f l s (k * s)) ≤ k := by
  unfold sigOK at h
  unfold frs plc
  unfold rnd at h1
  by_cases hn : n = 1
  · simp only [if_pos hn]; omega
  · simp only [if_neg hn] at h1 ⊢
    rw [Int.mul_ediv_cancel _ (show s ≠ 0 by omega)]
    generalize (if l = true then 2 * (n - 1) - f else f) = a
    have r1 : 0 < 2 * (n - 1) := by omega
    generalize 2 * (n - 1) = r at r1 h1
    have ht := Int.emod_def (a + k) r
    generalize (a + k) / r = q at ht
    generalize (a + k) % r = m at ht
    unfold mn
    by_cases hm : m < r - m
    · rw [if_pos hm, em_eq (x := m - a + 2 * r) (y := k) (r := r) (2 - q) h0 h1 (by rw [ht, Int.mul_sub]; omega)]
      split <;> omega
    · rw [if_neg hm, em_eq (x := r - (r - m) - a + 2 * r) (y := k) (r := r) (2 - q) h0 h1 (by rw [ht, Int.mul_sub]; omega)]
      split <;> omega
def mrg (o t : Int) : Int := if o < 0 then t else if t < o then t else o
/-- What holds at a place behind i steps of a signal. -/
def hst (n f : Int) (l : Bool) (s i : Int) (o : Int → Int) (q : Int) : Int := if frs n f l q < i then mrg (o q) (frs n f l q * s) else o q
theorem hst_zero {n f : Int} {l : Bool} {s : Int} (h : sigOK n f s) (o : Int → Int) (q : Int) : hst n f l s 0 o q = o q := by
  have := (frs_bd (l := l) (p := q) h).1
  unfold hst; rw [if_neg (by omega)]
theorem hst_all {n f : Int} {l : Bool} {s : Int} (h : sigOK n f s) (o : Int → Int) (q : Int) : hst n f l s (rnd n) o q = mrg (o q) (frs n f l q * s) := by
  have := (frs_bd (l := l) (p := q) h).2
  unfold hst; rw [if_pos this]
theorem hst_far {n f : Int} {l : Bool} {s i : Int} (h : sigOK n f s) (o : Int → Int) (q : Int) (h0 : 0 ≤ q) (h1 : q ≤ n - 1) (hq : q ≠ plc n f l s (i * s)) : hst n f l s i o q = hst n f l s (i + 1) o q := by
  have hne : frs n f l q ≠ i := fun e => hq (by rw [← e, frs_plc h h0 h1])
  unfold hst
  by_cases hc : frs n f l q < i
  · rw [if_pos hc, if_pos (by omega)]
  · rw [if_neg hc, if_neg (by omega)]
theorem hst_at {n f : Int} {l : Bool} {s i : Int} (h : sigOK n f s) (o : Int → Int) (h0 : 0 ≤ i) (h1 : i < rnd n) (q : Int) (hq : q = plc n f l s (i * s)) :
    (if hst n f l s i o q < 0 ∨ i * s < hst n f l s i o q then i * s else hst n f l s i o q) = hst n f l s (i + 1) o q := by
  have hle := frs_le (l := l) h h0 h1
  rw [← hq] at hle
  have hs := h.2.2.2.2.1
  have hb := (frs_bd (l := l) (p := q) h).1
  unfold hst
  by_cases hc : frs n f l q < i
  · rw [if_pos hc, if_pos (show frs n f l q < i + 1 by omega)]
    have hlt : frs n f l q * s < i * s := Int.mul_lt_mul_of_pos_right hc (by omega)
    have hnn : 0 ≤ frs n f l q * s := Int.mul_nonneg hb (by omega)
    generalize frs n f l q * s = t at hlt hnn
    unfold mrg
    split <;> split <;> (try split) <;> omega
  · rw [if_neg hc, if_pos (show frs n f l q < i + 1 by omega), show frs n f l q = i by omega]
    unfold mrg
    split <;> split <;> (try split) <;> omega
/-- A list told by a function of the place. -/
def tbl (o : Int → Int) : Int → Nat → List Int
  | _, 0 => []
  | i, d + 1 => o i :: tbl o (i + 1) d
theorem tbl_len (o : Int → Int) : ∀ (d : Nat) (i : Int), (tbl o i d).length = d
  | 0, _ => rfl
  | d + 1, i => by simp [tbl, tbl_len o d]
theorem tbl_get (o : Int → Int) : ∀ (d : Nat) (i : Int) (j : Nat), j < d → rd (tbl o i d) (j : Int) = o (i + j)
  | 0, _, j, h => by omega
  | d + 1, i, 0, h => by simp [tbl, rd]
  | d + 1, i, j + 1, h => by
    have := tbl_get o d (i + 1) j (by omega)
    simp only [rd, Int.toNat_natCast, List.getD_eq_getElem?_getD] at this
    simp only [tbl, rd, List.getD_eq_getElem?_getD]
    rw [show ((j + 1 : Nat) : Int).toNat = j + 1 by omega, List.getElem?_cons_succ, this]
    congr 1
    omega
theorem tbl_rd (o : Int → Int) (n p : Int) (h0 : 0 ≤ p) (h1 : p < n) : rd (tbl o 0 n.toNat) p = o p := by
  have := tbl_get o n.toNat 0 p.toNat (by omega)
  rwa [show ((p.toNat : Nat) : Int) = p by omega, show (0 : Int) + p = p by omega] at this
theorem tbl_congr {o o' : Int → Int} : ∀ (d : Nat) (i : Int), (∀ q, i ≤ q → q < i + d → o q = o' q) → tbl o i d = tbl o' i d
  | 0, _, _ => rfl
  | d + 1, i, h => by
    simp only [tbl]
    rw [h i (by omega) (by omega), tbl_congr d (i + 1) (fun q h1 h2 => h q (by omega) (by omega))]
theorem tbl_set {o : Int → Int} (v : Int) : ∀ (d : Nat) (i : Int) (j : Nat), j < d → (tbl o i d).set j v = tbl (fun q => if q = i + j then v else o q) i d
  | 0, _, j, h => by omega
  | d + 1, i, 0, h => by
    simp only [tbl, List.set_cons_zero]
    rw [if_pos (by simp)]
    congr 1
    exact tbl_congr d (i + 1) (fun q h1 h2 => by rw [if_neg (by omega)])
  | d + 1, i, j + 1, h => by
    simp only [tbl, List.set_cons_succ]
    rw [if_neg (by omega), tbl_set v d (i + 1) j (by omega)]
    congr 1
    exact tbl_congr d (i + 1) (fun q h1 h2 => by rw [show i + 1 + (j : Int) = i + ((j + 1 : Nat) : Int) by omega])
theorem tbl_const (v : Int) : ∀ (d : Nat) (i : Int), tbl (fun _ => v) i d = List.replicate d v
  | 0, _ => rfl
  | d + 1, i => by simp only [tbl]; rw [tbl_const v d, List.replicate_succ]
end Go.Proofs.YtmhbcfdodcnjmaaGreatDoor.Pl
end
section
namespace Go.Proofs.YtmhbcfdodcnjmaaGreatDoor.Pl
open Go.RowKit Go.Proofs.YtmhbcfdodcnjmaaGreatDoorW.PrintWords Go.Proofs.YtmhbcfdodcnjmaaGreatDoorW.PrintMore Go.Proofs.YtmhbcfdodcnjmaaGreatDoor.Opn
set_option linter.unusedVariables false
set_option linter.unusedSimpArgs false
theorem cnt_or (p q : Int → Bool) : ∀ (d : Nat) (t : Int), cnt (fun x => p x || q x) t d ≤ cnt p t d + cnt q t d
  | 0, _ => by simp [cnt]
  | d + 1, t => by
    have := cnt_or p q d (t + 1)
    simp only [cnt]
    by_cases hp : p t = true <;> by_cases hq : q t = true <;> simp [hp, hq] <;> omega
theorem cnt_between (a b : Int) : ∀ (d : Nat) (i : Int), cnt (fun x => decide (a ≤ x ∧ x ≤ b)) i d ≤ mx 0 (b - mx a i + 1)
  | 0, i => by simp only [cnt]; unfold mx; split <;> omega
  | d + 1, i => by
    have := cnt_between a b d (i + 1)
    simp only [cnt]
    by_cases h : a ≤ i ∧ i ≤ b
    · rw [if_pos (show (fun x => decide (a ≤ x ∧ x ≤ b)) i = true from decide_eq_true h)]
      unfold mx at this ⊢
      repeat' split at this
      all_goals repeat' split
      all_goals omega
    · rw [if_neg (show ¬ (fun x => decide (a ≤ x ∧ x ≤ b)) i = true from fun k => h (of_decide_eq_true k))]
      unfold mx at this ⊢
      repeat' split at this
      all_goals repeat' split
      all_goals omega
theorem cnt_all (p : Int → Bool) : ∀ (d : Nat) (t : Int), (∀ q, t ≤ q → q < t + d → p q = true) → cnt p t d = d
  | 0, _, _ => rfl
  | d + 1, t, h => by
    simp only [cnt]
    rw [if_pos (h t (by omega) (by omega)), cnt_all p d (t + 1) (fun q h1 h2 => h q (by omega) (by omega))]
    omega
theorem cnt_congr {p q : Int → Bool} (h : ∀ x, p x = q x) : ∀ (d : Nat) (t : Int), cnt p t d = cnt q t d
  | 0, _ => rfl
  | d + 1, t => by simp only [cnt]; rw [h, cnt_congr h d]
/-- Is a place within t of one of l? -/
def cvd (t : Int) (l : List Int) (x : Int) : Bool := l.any fun k => decide (mx (x - k) (k - x) ≤ t)
theorem cvd_cnt (t : Int) (ht : 0 ≤ t) (i : Int) (d : Nat) : ∀ l : List Int, cnt (cvd t l) i d ≤ (l.length : Int) * (2 * t + 1)
  | [] => by
    have : ∀ (d : Nat) (i : Int), cnt (cvd t []) i d = 0 := by
      intro d
      induction d with
      | zero => intro i; rfl
      | succ d ih => intro i; simp only [cnt, ih]; simp [cvd]
    rw [this]; simp
  | k :: l => by
    have h1 := cvd_cnt t ht i d l
    have h2 := cnt_or (fun x => decide (mx (x - k) (k - x) ≤ t)) (cvd t l) d i
    have h3 : cnt (fun x => decide (mx (x - k) (k - x) ≤ t)) i d ≤ 2 * t + 1 := by
      rw [cnt_congr (q := fun x => decide (k - t ≤ x ∧ x ≤ k + t)) (fun x => decide_eq_decide.2 (by unfold mx; split <;> omega))]
      have := cnt_between (k - t) (k + t) d i
      unfold mx at this
      repeat' split at this
      all_goals omega
    have e : (((k :: l).length : Nat) : Int) * (2 * t + 1) = (l.length : Int) * (2 * t + 1) + (2 * t + 1) := by
      rw [List.length_cons, show ((l.length + 1 : Nat) : Int) = (l.length : Int) + 1 by omega, Int.add_mul, Int.one_mul]
    rw [e]
    have e2 : cnt (cvd t (k :: l)) i d = cnt (fun x => decide (mx (x - k) (k - x) ≤ t) || cvd t l x) i d := cnt_congr (fun x => by simp [cvd]) d i
    rw [e2]
    omega
theorem near_le (x t : Int) : ∀ (l : List Int) (acc : Int), near x acc l ≤ t ↔ (acc ≤ t ∨ cvd t l x = true)
  | [], acc => by simp [near, cvd]
  | k :: l, acc => by
    have := near_le x t l (mn acc (mx (x - k) (k - x)))
    simp only [near, List.foldl_cons] at this ⊢
    rw [this]
    simp only [cvd, List.any_cons, Bool.or_eq_true, decide_eq_true_eq]
    have e : mn acc (mx (x - k) (k - x)) ≤ t ↔ (acc ≤ t ∨ mx (x - k) (k - x) ≤ t) := by unfold mn; split <;> omega
    rw [e]
    constructor
    · rintro ((h | h) | h) <;> simp [h]
    · rintro (h | h | h) <;> simp [h]
/-- The last time at which news from l come to one of n. -/
def mxs (n : Int) (l : List Int) : Int := (spr n l 0 n.toNat).foldl mx 0
theorem fold_le (t : Int) : ∀ (l : List Int) (a : Int), l.foldl mx a ≤ t ↔ (a ≤ t ∧ ∀ x ∈ l, x ≤ t)
  | [], a => by simp
  | y :: l, a => by
    rw [List.foldl_cons, fold_le t l]
    have e : mx a y ≤ t ↔ (a ≤ t ∧ y ≤ t) := by unfold mx; split <;> omega
    rw [e]
    simp [and_assoc]
theorem spr_all (n : Int) (l : List Int) (P : Int → Prop) : ∀ (d : Nat) (i : Int), (∀ x ∈ spr n l i d, P x) ↔ (∀ q, i ≤ q → q < i + d → P (near q n l))
  | 0, i => by simp [spr]; intro q h1 h2; omega
  | d + 1, i => by
    simp only [spr, List.mem_cons, forall_eq_or_imp]
    rw [spr_all n l P d (i + 1)]
    constructor
    · rintro ⟨h1, h2⟩ q h3 h4
      by_cases e : q = i
      · rw [e]; exact h1
      · exact h2 q (by omega) (by omega)
    · intro h
      exact ⟨h i (by omega) (by omega), fun q h1 h2 => h q (by omega) (by omega)⟩
theorem mxs_le (n : Int) (l : List Int) (t : Int) (hn : 0 ≤ n) (ht : 0 ≤ t) (htn : t < n) : mxs n l ≤ t ↔ ∀ q, 0 ≤ q → q < n → cvd t l q = true := by
  unfold mxs
  rw [fold_le, spr_all]
  constructor
  · rintro ⟨_, h⟩ q h1 h2
    exact ((near_le q t l n).1 (h q h1 (by omega))).resolve_left (by omega)
  · intro h
    exact ⟨ht, fun q h1 h2 => (near_le q t l n).2 (.inr (h q h1 (by omega)))⟩
theorem fold_ge : ∀ (l : List Int) (a : Int), a ≤ l.foldl mx a
  | [], a => Int.le_refl a
  | y :: l, a => by
    have := fold_ge l (mx a y)
    rw [List.foldl_cons]
    have e : a ≤ mx a y := by unfold mx; split <;> omega
    omega
theorem mxs_nn (n : Int) (l : List Int) : 0 ≤ mxs n l := fold_ge _ _
/-- No list of so many is better than the bound tells. -/
theorem mxs_ge (n due : Int) (l : List Int) (hn : 1 ≤ n) (hl : 1 ≤ l.length) (hd : due = 0 ∨ (l.length : Int) * (2 * (due - 1) + 1) < n) (h0 : 0 ≤ due) : due ≤ mxs n l := by
  rcases hd with rfl | hd
  · exact mxs_nn n l
  · rcases Int.lt_or_le (mxs n l) due with hlt | hge
    · exfalso
      have h1 : 0 < due := by have := mxs_nn n l; omega
      have hmul : (2 * (due - 1) + 1) ≤ (l.length : Int) * (2 * (due - 1) + 1) := by
        have := Int.mul_le_mul_of_nonneg_right (show (1 : Int) ≤ (l.length : Int) by omega) (show 0 ≤ 2 * (due - 1) + 1 by omega)
        rwa [Int.one_mul] at this
      have hc := (mxs_le n l (due - 1) (by omega) (by omega) (by omega)).1 (by omega)
      have h2 := cnt_all (cvd (due - 1) l) n.toNat 0 (fun q h1 h2 => hc q h1 (by omega))
      have h3 := cvd_cnt (due - 1) (by omega) 0 n.toNat l
      rw [h2] at h3
      generalize (l.length : Int) * (2 * (due - 1) + 1) = z at *
      omega
    · exact hge
/-- The first of d whole numbers, x being the first one, at which g finds. -/
def lpf {α : Type} (g : Int → Option α) : Int → Nat → Option α
  | _, 0 => none
  | x, d + 1 => if (g x).isSome = true then g x else lpf g (x + 1) d
theorem lpf_some {α : Type} (g : Int → Option α) : ∀ (d : Nat) (x : Int), (∃ y, x ≤ y ∧ y < x + d ∧ (g y).isSome = true) → (lpf g x d).isSome = true
  | 0, x, h => by obtain ⟨y, h1, h2, _⟩ := h; omega
  | d + 1, x, h => by
    simp only [lpf]
    by_cases hc : (g x).isSome = true
    · rw [if_pos hc]; exact hc
    · rw [if_neg hc]
      obtain ⟨y, h1, h2, h3⟩ := h
      refine lpf_some g d (x + 1) ⟨y, ?_, by omega, h3⟩
      by_cases e : y = x
      · subst e; exact absurd h3 hc
      · omega
theorem lpf_from {α : Type} (g : Int → Option α) : ∀ (d : Nat) (x : Int) (r : α), lpf g x d = some r → ∃ y, x ≤ y ∧ y < x + d ∧ g y = some r
  | 0, x, r, h => by simp [lpf] at h
  | d + 1, x, r, h => by
    simp only [lpf] at h
    by_cases hc : (g x).isSome = true
    · rw [if_pos hc] at h; exact ⟨x, by omega, by omega, h⟩
    · rw [if_neg hc] at h
      obtain ⟨y, h1, h2, h3⟩ := lpf_from g d (x + 1) r h
      exact ⟨y, by omega, by omega, h3⟩
/-- The first list, in order, that goes on with r more and is good. -/
def srch (n due : Int) : Nat → List Int → Int → Option (List Int)
  | 0, l, _ => if mxs n l ≤ due then some l else none
  | r + 1, l, x => lpf (fun y => srch n due r (l ++ [y]) (y + 1)) x (n - r - x).toNat
theorem srch_len (n due : Int) : ∀ (r : Nat) (l : List Int) (x : Int) (o : List Int), srch n due r l x = some o → o.length = l.length + r
  | 0, l, x, o, h => by
    simp only [srch] at h
    by_cases hc : mxs n l ≤ due
    · rw [if_pos hc] at h; obtain rfl := Option.some.inj h; rfl
    · rw [if_neg hc] at h; simp at h
  | r + 1, l, x, o, h => by
    simp only [srch] at h
    obtain ⟨y, _, _, h3⟩ := lpf_from _ _ _ _ h
    have := srch_len n due r (l ++ [y]) (y + 1) o h3
    simp at this
    omega
theorem srch_over (n due : Int) (r : Nat) (l : List Int) (x : Int) (h : n - (r : Int) ≤ x) : srch n due (r + 1) l x = none := by
  simp only [srch]
  rw [show (n - (r : Int) - x).toNat = 0 by omega]
  rfl
/-- The first j of a row told by g. -/
def row (g : Nat → Int) : Nat → List Int
  | 0 => []
  | j + 1 => row g j ++ [g j]
theorem row_any (g : Nat → Int) (p : Int → Bool) : ∀ j i, i < j → p (g i) = true → (row g j).any p = true
  | 0, i, h, _ => by omega
  | j + 1, i, h, hp => by
    simp only [row, List.any_append, Bool.or_eq_true]
    by_cases e : i = j
    · subst e; exact .inr (by simp [hp])
    · exact .inl (row_any g p j i (by omega) hp)
theorem srch_row (n due : Int) (m : Nat) (g : Nat → Int) (h1 : ∀ j, j < m → g j ≤ n - (m - j)) (h2 : ∀ j, j + 1 < m → g j + 1 ≤ g (j + 1)) (h3 : mxs n (row g m) ≤ due) :
    ∀ (r j : Nat) (x : Int), j + r = m → (j < m → x ≤ g j) → (srch n due r (row g j) x).isSome = true
  | 0, j, x, h, _ => by
    obtain rfl : j = m := by omega
    simp only [srch]
    rw [if_pos h3]; rfl
  | r + 1, j, x, h, hx => by
    simp only [srch]
    have := h1 j (by omega)
    have := hx (by omega)
    refine lpf_some _ _ _ ⟨g j, by omega, by omega, ?_⟩
    refine srch_row n due m g h1 h2 h3 r (j + 1) (g j + 1) (by omega) (fun hj => h2 j hj)
/-- A good row of m there is. -/
def gud (n t : Int) (m : Nat) (j : Nat) : Int := mn ((j : Int) * (2 * t + 1) + t) (n - m + j)
theorem gud_good (n t : Int) (m : Nat) (hm : 1 ≤ m) (hmn : (m : Int) ≤ n) (ht : 0 ≤ t) (htn : t < n) (hc : n ≤ (m : Int) * (2 * t + 1)) : mxs n (row (gud n t m) m) ≤ t := by
  refine (mxs_le n _ t (by omega) ht htn).2 fun q h0 h1 => ?_
  unfold cvd
  have hpos : 0 < 2 * t + 1 := by omega
  have hd0 : 0 ≤ q / (2 * t + 1) := Int.ediv_nonneg h0 (by omega)
  have hmod := Int.emod_nonneg q (show 2 * t + 1 ≠ 0 by omega)
  have hmod' := Int.emod_lt_of_pos q hpos
  have hdm := Int.mul_ediv_add_emod q (2 * t + 1)
  have hlt : q / (2 * t + 1) < m := Int.ediv_lt_of_lt_mul hpos (by omega)
  obtain ⟨j, hj⟩ : ∃ j : Nat, (j : Int) = q / (2 * t + 1) := ⟨(q / (2 * t + 1)).toNat, by omega⟩
  rw [← hj] at hdm hlt
  rw [Int.mul_comm] at hdm
  have hjm : j < m := by omega
  by_cases hb : (j : Int) * (2 * t + 1) + t ≤ n - m + j
  · refine row_any _ _ m j hjm ?_
    have e : gud n t m j = (j : Int) * (2 * t + 1) + t := by unfold gud mn; split <;> omega
    rw [e, decide_eq_true_eq]
    generalize (j : Int) * (2 * t + 1) = z at *
    unfold mx; split <;> omega
  · have e : gud n t m j = n - m + j := by unfold gud mn; split <;> omega
    by_cases hq : q ≤ n - m + j
    · refine row_any _ _ m j hjm ?_
      rw [e, decide_eq_true_eq]
      generalize (j : Int) * (2 * t + 1) = z at *
      unfold mx; split <;> omega
    · obtain ⟨i, hi⟩ : ∃ i : Nat, (i : Int) = q - (n - m) := ⟨(q - (n - m)).toNat, by omega⟩
      refine row_any _ _ m i (by omega) ?_
      have hmono : (j : Int) * (2 * t + 1) + (i - j) ≤ (i : Int) * (2 * t + 1) := by
        have := Int.mul_le_mul_of_nonneg_left (show (1 : Int) ≤ 2 * t + 1 by omega) (show 0 ≤ (i : Int) - j by omega)
        rw [Int.mul_one, Int.sub_mul] at this
        omega
      have e2 : gud n t m i = n - m + i := by
        generalize (j : Int) * (2 * t + 1) = z at *
        unfold gud mn
        generalize (i : Int) * (2 * t + 1) = z' at *
        split <;> omega
      rw [e2, decide_eq_true_eq]
      unfold mx; split <;> omega
theorem gud_srch (n t : Int) (m : Nat) (hm : 1 ≤ m) (hmn : (m : Int) ≤ n) (ht : 0 ≤ t) (htn : t < n) (hc : n ≤ (m : Int) * (2 * t + 1)) : (srch n t m [] 0).isSome = true := by
  refine srch_row n t m (gud n t m) (fun j hj => ?_) (fun j hj => ?_) (gud_good n t m hm hmn ht htn hc) m 0 0 (by omega) (fun _ => ?_)
  · unfold gud mn; split <;> omega
  · have e : ((j + 1 : Nat) : Int) * (2 * t + 1) = (j : Int) * (2 * t + 1) + (2 * t + 1) := by
      rw [show ((j + 1 : Nat) : Int) = (j : Int) + 1 by omega, Int.add_mul, Int.one_mul]
    unfold gud
    rw [e]
    generalize (j : Int) * (2 * t + 1) = z
    unfold mn; split <;> split <;> omega
  · unfold gud mn
    simp
    split <;> omega
end Go.Proofs.YtmhbcfdodcnjmaaGreatDoor.Pl
end
section
namespace Go.Proofs.YtmhbcfdodcnjmaaGreatDoor.Pl
open Go.RowKit Go.Proofs.YtmhbcfdodcnjmaaGreatDoorW.PrintWords Go.Proofs.YtmhbcfdodcnjmaaGreatDoorW.PrintMore Go.Proofs.YtmhbcfdodcnjmaaGreatDoor.Opn
set_option linter.unusedVariables false
set_option linter.unusedSimpArgs false
/-- A text's bytes. -/
abbrev L (s : ByteArray) : List UInt8 := s.data.toList
theorem size_L (s : ByteArray) : s.size = (L s).length := by rw [Array.length_toList]; rfl
theorem isize_L (s : ByteArray) : (s.size : Int) = ((L s).length : Int) := by rw [size_L]
theorem toList_L (s : ByteArray) : s.toList = L s := ByteArray.toList_eq s
theorem L_mk (l : List UInt8) : L ⟨l.toArray⟩ = l := by simp [L]
theorem mk_L (s : ByteArray) : (⟨(L s).toArray⟩ : ByteArray) = s := by cases s; simp [L]
theorem L_inj {s t : ByteArray} (h : L s = L t) : s = t := by rw [← mk_L s, ← mk_L t, h]
theorem bt_nat (s : ByteArray) (i : Nat) (h : i < (L s).length) : bt s (i : Int) = (((L s)[i]).toNat : Int) := by
  have h' : i < s.size := by rw [size_L]; exact h
  simp only [bt, Int.toNat_natCast, dif_pos h']
  rfl
theorem u8_eq (b c : UInt8) : ((b.toNat : Int) = (c.toNat : Int)) ↔ b = c := by
  constructor
  · intro h; exact UInt8.toNat_inj.1 (by omega)
  · rintro rfl; rfl
theorem bt_is (s : ByteArray) (i : Nat) (h : i < (L s).length) (c : UInt8) : (bt s (i : Int) = (c.toNat : Int)) ↔ (L s)[i] = c := by rw [bt_nat s i h, u8_eq]
end Go.Proofs.YtmhbcfdodcnjmaaGreatDoor.Pl
end
section
namespace Go.Proofs.YtmhbcfdodcnjmaaGreatDoor.Pl
open Go.RowKit Go.Proofs.YtmhbcfdodcnjmaaGreatDoorW.PrintWords Go.Proofs.YtmhbcfdodcnjmaaGreatDoorW.PrintMore Go.Proofs.YtmhbcfdodcnjmaaGreatDoor.Opn
set_option linter.unusedVariables false
set_option linter.unusedSimpArgs false
open Go.Lib
end Go.Proofs.YtmhbcfdodcnjmaaGreatDoor.Pl
end
section
namespace Go.Proofs.YtmhbcfdodcnjmaaGreatDoor.Pl
open Go.RowKit Go.Proofs.YtmhbcfdodcnjmaaGreatDoorW.PrintWords Go.Proofs.YtmhbcfdodcnjmaaGreatDoorW.PrintMore Go.Proofs.YtmhbcfdodcnjmaaGreatDoor.Opn
set_option linter.unusedVariables false
set_option linter.unusedSimpArgs false
open Go.Lib
/-- The text of some bytes. -/
abbrev up (l : List UInt8) : ByteArray := ⟨l.toArray⟩
theorem up_L (s : ByteArray) : s = up (L s) := (mk_L s).symm
theorem up_size (l : List UInt8) : (up l).size = l.length := by rw [size_L, L_mk]
theorem up_isize (l : List UInt8) : ((up l).size : Int) = (l.length : Int) := by rw [up_size]
theorem up_bt (l : List UInt8) (i : Nat) (h : i < l.length) (c : UInt8) : (bt (up l) (i : Int) = (c.toNat : Int)) ↔ l[i] = c := by
  rw [bt_is (up l) i (by rw [L_mk]; exact h) c]
theorem up_app (a b : List UInt8) : up a ++ up b = up (a ++ b) := L_inj (by simp [L])
theorem up_take (l : List UInt8) (n : Nat) : (up l).extract 0 n = up (l.take n) := L_inj (by simp [L])
theorem up_drop (l : List UInt8) (n : Nat) : (up l).extract n (up l).size = up (l.drop n) := L_inj (by rw [up_size]; simp [L, List.take_of_length_le])
end Go.Proofs.YtmhbcfdodcnjmaaGreatDoor.Pl
end
section
namespace Go.Proofs.YtmhbcfdodcnjmaaGreatDoor.Pl
open Go.RowKit Go.Proofs.YtmhbcfdodcnjmaaGreatDoorW.PrintWords Go.Proofs.YtmhbcfdodcnjmaaGreatDoorW.PrintMore Go.Proofs.YtmhbcfdodcnjmaaGreatDoor.Opn
set_option linter.unusedVariables false
set_option linter.unusedSimpArgs false
theorem dec_lo (n : Nat) (h : n < 10) : Go.Lib.decDigits n = [UInt8.ofNat (48 + n)] := by rw [Go.Lib.decDigits, dif_pos h]
theorem dec_hi (n : Nat) (h : ¬ n < 10) : Go.Lib.decDigits n = Go.Lib.decDigits (n / 10) ++ [UInt8.ofNat (48 + n % 10)] := by rw [Go.Lib.decDigits, dif_neg h]
theorem dec_len (n : Nat) (h : n < 100) : (Go.Lib.decDigits n).length ≤ 2 := by
  by_cases h1 : n < 10
  · rw [dec_lo n h1]; simp
  · rw [dec_hi n h1, dec_lo (n / 10) (by omega)]; simp
theorem dig (d : Nat) (h : d < 10) : strOfNums [(wrap64 (48 + (d : Int))) % 256] = up [UInt8.ofNat (48 + d)] := by
  rw [wrap64_id (x := 48 + (d : Int)) (by omega) (by omega), show (48 + (d : Int)) % 256 = ((48 + d : Nat) : Int) by omega]
  rfl
end Go.Proofs.YtmhbcfdodcnjmaaGreatDoor.Pl
end
section
namespace Go.Proofs.YtmhbcfdodcnjmaaGreatDoor.Pl
open Go.RowKit Go.Proofs.YtmhbcfdodcnjmaaGreatDoorW.PrintWords Go.Proofs.YtmhbcfdodcnjmaaGreatDoorW.PrintMore Go.Proofs.YtmhbcfdodcnjmaaGreatDoor.Opn
set_option linter.unusedVariables false
set_option linter.unusedSimpArgs false
def dd (a : Int) : List UInt8 := Go.Lib.decDigits a.toNat
theorem dd_len (a : Int) (h : 0 ≤ a ∧ a < 100) : (dd a).length ≤ 2 := dec_len a.toNat (by omega)
end Go.Proofs.YtmhbcfdodcnjmaaGreatDoor.Pl
end
section
namespace Go.Proofs.YtmhbcfdodcnjmaaGreatDoor.Pl
open Go.RowKit Go.Proofs.YtmhbcfdodcnjmaaGreatDoorW.PrintWords Go.Proofs.YtmhbcfdodcnjmaaGreatDoorW.PrintMore Go.Proofs.YtmhbcfdodcnjmaaGreatDoor.Opn
set_option linter.unusedVariables false
set_option linter.unusedSimpArgs false
/-- The digits of a number below a hundred. -/
theorem dg_nat (d : Nat) (h : d < 10) : (UInt8.ofNat (48 + d)).toNat = 48 + d := by simp; omega
theorem dd_cases (a : Int) (h : 0 ≤ a ∧ a < 100) : (∃ d : Nat, d < 10 ∧ a = (d : Int) ∧ dd a = [UInt8.ofNat (48 + d)]) ∨ (∃ e d : Nat, 1 ≤ e ∧ e < 10 ∧ d < 10 ∧ a = 10 * (e : Int) + (d : Int) ∧ dd a = [UInt8.ofNat (48 + e), UInt8.ofNat (48 + d)]) := by
  unfold dd
  by_cases h1 : a.toNat < 10
  · exact .inl ⟨a.toNat, h1, by omega, dec_lo _ h1⟩
  · exact .inr ⟨a.toNat / 10, a.toNat % 10, by omega, by omega, by omega, by omega, by rw [dec_hi _ h1, dec_lo _ (by omega)]; rfl⟩
theorem dd_mem (a : Int) (h : 0 ≤ a ∧ a < 100) (c : UInt8) (hc : c.toNat < 48 ∨ 57 < c.toNat) : c ∉ dd a := by
  intro hm
  rcases dd_cases a h with ⟨d, hd, _, e⟩ | ⟨x, d, _, hx, hd, _, e⟩
  · rw [e] at hm
    have := dg_nat d hd
    simp only [List.mem_cons, List.not_mem_nil, or_false] at hm
    subst hm; omega
  · rw [e] at hm
    have h1 := dg_nat d hd
    have h2 := dg_nat x hx
    simp only [List.mem_cons, List.not_mem_nil, or_false] at hm
    rcases hm with rfl | rfl <;> omega
theorem pu_step (acc d : Nat) (ha : acc < 1000) (hd : d < 10) (r : List UInt8) : Go.Lib.parseUint10 acc (UInt8.ofNat (48 + d) :: r) = Go.Lib.parseUint10 (acc * 10 + d) r := by
  have h := dg_nat d hd
  rw [Go.Lib.parseUint10, h, if_pos (by omega), if_neg (by omega), if_neg (by omega), show 48 + d - 48 = d by omega]
theorem atoi_dd (a : Int) (h : 0 ≤ a ∧ a < 100) : Go.Lib.atoiAll (dd a) = .ok a := by
  rcases dd_cases a h with ⟨d, hd, e0, e⟩ | ⟨x, d, hx0, hx, hd, e0, e⟩
  · have h1 := dg_nat d hd
    rw [e, Go.Lib.atoiAll_plain _ _ (by omega) (by omega), Go.Lib.parseMag, if_neg (by simp), pu_step 0 d (by omega) hd, Go.Lib.parseUint10]
    simp only [Go.Lib.signless]
    rw [if_neg (by omega), e0]; simp
  · have h1 := dg_nat d hd
    have h2 := dg_nat x hx
    rw [e, Go.Lib.atoiAll_plain _ _ (by omega) (by omega), Go.Lib.parseMag, if_neg (by simp), pu_step 0 x (by omega) hx, pu_step _ d (by omega) hd, Go.Lib.parseUint10]
    simp only [Go.Lib.signless]
    rw [if_neg (by omega), e0]
    congr 1
    omega
end Go.Proofs.YtmhbcfdodcnjmaaGreatDoor.Pl
end
section
namespace Go.Proofs.YtmhbcfdodcnjmaaGreatDoor.Pl
open Go.RowKit Go.Proofs.YtmhbcfdodcnjmaaGreatDoorW.PrintWords Go.Proofs.YtmhbcfdodcnjmaaGreatDoorW.PrintMore Go.Proofs.YtmhbcfdodcnjmaaGreatDoor.Opn
set_option linter.unusedVariables false
set_option linter.unusedSimpArgs false
theorem indexAny_lt (c : List UInt8) : ∀ (l : List UInt8), Go.Lib.indexAny l c < (l.length : Int)
  | [] => by simp [Go.Lib.indexAny]
  | b :: l => by
    have ih := indexAny_lt c l
    rw [Go.Lib.indexAny]
    simp only [List.length_cons]
    split
    · omega
    · split <;> omega
/-- A signal's text. -/
def sgx (f : Int) (l : Bool) (s : Int) : List UInt8 := dd f ++ (if l = true then 60 else 62) :: dd s
theorem sgx_any (f : Int) (l : Bool) (s : Int) (hf : 0 ≤ f ∧ f < 100) : Go.Lib.indexAny (sgx f l s) [60, 62] = ((dd f).length : Int) := by
  refine Go.Lib.indexAny_hit (x := if l = true then 60 else 62) (fun j b hj hb => ?_) ?_ (by cases l <;> rfl)
  · unfold sgx at hb
    rw [List.getElem?_append_left hj] at hb
    have hm := List.mem_of_getElem? hb
    have h1 := dd_mem f hf 60 (by decide)
    have h2 := dd_mem f hf 62 (by decide)
    rw [List.contains_eq_any_beq]
    simp only [List.any_cons, List.any_nil, Bool.or_false, Bool.or_eq_false_iff, beq_eq_false_iff_ne]
    exact ⟨fun e => h1 (e ▸ hm), fun e => h2 (e ▸ hm)⟩
  · unfold sgx; simp
theorem sgx_take (f : Int) (l : Bool) (s : Int) : (sgx f l s).take (dd f).length = dd f := by unfold sgx; simp
theorem sgx_drop (f : Int) (l : Bool) (s : Int) : (sgx f l s).drop ((dd f).length + 1) = dd s := by
  unfold sgx; rw [List.drop_append, List.drop_of_length_le (by omega)]; simp
theorem sgx_len (f : Int) (l : Bool) (s : Int) (hf : 0 ≤ f ∧ f < 100) (hs : 0 ≤ s ∧ s < 100) : (sgx f l s).length = (dd f).length + 1 + (dd s).length ∧ (dd f).length ≤ 2 ∧ (dd s).length ≤ 2 := by
  refine ⟨by unfold sgx; simp; omega, dd_len f hf, dd_len s hs⟩
theorem sgx_bt (f : Int) (l : Bool) (s : Int) : bt (up (sgx f l s)) ((dd f).length : Int) = if l = true then 60 else 62 := by
  have hlt : (dd f).length < (L (up (sgx f l s))).length := by rw [L_mk]; unfold sgx; simp
  rw [bt_nat _ _ hlt]
  have e : (L (up (sgx f l s)))[(dd f).length]'hlt = if l = true then 60 else 62 := by
    have h2 : (sgx f l s)[(dd f).length]? = some (if l = true then 60 else 62) := by unfold sgx; simp
    have h3 : (L (up (sgx f l s)))[(dd f).length]? = some (if l = true then 60 else 62) := by rw [L_mk]; exact h2
    exact (List.getElem?_eq_some_iff.1 h3).2
  rw [e]
  cases l <;> rfl
end Go.Proofs.YtmhbcfdodcnjmaaGreatDoor.Pl
end
section
namespace Go.Proofs.YtmhbcfdodcnjmaaGreatDoor.Pl
open Go.RowKit Go.Proofs.YtmhbcfdodcnjmaaGreatDoorW.PrintWords Go.Proofs.YtmhbcfdodcnjmaaGreatDoorW.PrintMore Go.Proofs.YtmhbcfdodcnjmaaGreatDoor.Opn
set_option linter.unusedVariables false
set_option linter.unusedSimpArgs false
/-- The nearest of neighbours differ by one at most. -/
theorem near_lip (x : Int) : ∀ (l : List Int) (a b : Int), a - b ≤ 1 → b - a ≤ 1 → near (x + 1) a l - near x b l ≤ 1 ∧ near x b l - near (x + 1) a l ≤ 1
  | [], a, b, h, h' => ⟨h, h'⟩
  | k :: l, a, b, h, h' => by
    simp only [near, List.foldl_cons]
    refine near_lip x l _ _ ?_ ?_ <;> unfold mn mx <;> repeat' split
    all_goals omega
theorem near_zero (n x : Int) (l : List Int) (hn : 1 ≤ n) : near x n l = 0 ↔ x ∈ l := by
  have h := near_le x 0 l n
  have hb := near_bd x l n (by omega)
  have e : near x n l = 0 ↔ near x n l ≤ 0 := ⟨fun h => by omega, fun h => by omega⟩
  rw [e, h]
  constructor
  · rintro (h | h)
    · omega
    · simp only [cvd, List.any_eq_true, decide_eq_true_eq] at h
      obtain ⟨k, hk, h2⟩ := h
      have : k = x := by unfold mx at h2; split at h2 <;> omega
      rw [← this]; exact hk
  · intro h
    right
    simp only [cvd, List.any_eq_true, decide_eq_true_eq]
    exact ⟨x, h, by unfold mx; split <;> omega⟩
theorem near_one (n x k : Int) : near x n [k] = mn n (mx (x - k) (k - x)) := rfl
theorem spr_rd (n : Int) (l : List Int) : ∀ (d : Nat) (i : Int) (j : Nat), j < d → rd (spr n l i d) (j : Int) = near (i + j) n l
  | 0, _, _, h => by omega
  | d + 1, i, 0, _ => by simp [spr, rd]
  | d + 1, i, j + 1, h => by
    have := spr_rd n l d (i + 1) j (by omega)
    rw [show i + ((j + 1 : Nat) : Int) = i + 1 + (j : Int) by omega, ← this]
    simp [spr, rd]
theorem frs_own {n f s : Int} {l : Bool} (h : sigOK n f s) : frs n f l f = 0 := by
  unfold sigOK at h
  unfold frs
  by_cases h1 : n = 1
  · rw [if_pos h1]
  · rw [if_neg h1]
    have r0 : 2 * (n - 1) ≠ 0 := by omega
    cases l
    · simp only [Bool.false_eq_true, if_false]
      have b2 := Int.emod_nonneg (2 * (n - 1) - f - f + 2 * (2 * (n - 1))) r0
      rw [show f - f + 2 * (2 * (n - 1)) = (2 * (n - 1)) * 2 by omega, Int.mul_emod_right]
      unfold mn; split <;> omega
    · simp only [if_true]
      have b1 := Int.emod_nonneg (f - (2 * (n - 1) - f) + 2 * (2 * (n - 1))) r0
      rw [show 2 * (n - 1) - f - (2 * (n - 1) - f) + 2 * (2 * (n - 1)) = (2 * (n - 1)) * 2 by omega, Int.mul_emod_right]
      unfold mn; split <;> omega
theorem fil_mem (p : Int → Bool) : ∀ (d : Nat) (t y : Int), y ∈ fil p t d ↔ t ≤ y ∧ y < t + d ∧ p y = true
  | 0, t, y => by simp [fil]; intro h h2; omega
  | d + 1, t, y => by
    simp only [fil, List.mem_append, fil_mem p d (t + 1) y]
    constructor
    · rintro (h | ⟨h1, h2, h3⟩)
      · split at h
        · rename_i c
          simp only [List.mem_cons, List.not_mem_nil, or_false] at h
          subst h; exact ⟨by omega, by omega, c⟩
        · simp at h
      · exact ⟨by omega, by omega, h3⟩
    · rintro ⟨h1, h2, h3⟩
      by_cases e : y = t
      · subst e; left; rw [if_pos h3]; simp
      · right; exact ⟨by omega, by omega, h3⟩
theorem fil_rise (p : Int → Bool) : ∀ (d : Nat) (t : Int), (fil p t d).Pairwise (· < ·)
  | 0, _ => by simp [fil]
  | d + 1, t => by
    simp only [fil]
    split
    · rw [List.singleton_append, List.pairwise_cons]
      exact ⟨fun y hy => by have := (fil_mem p d (t + 1) y).1 hy; omega, fil_rise p d (t + 1)⟩
    · exact fil_rise p d (t + 1)
theorem fil_full (p : Int → Bool) : ∀ (d : Nat) (t : Int), (fil p t d).length = d ↔ ∀ y, t ≤ y → y < t + d → p y = true
  | 0, t => by simp [fil]; intro y h1 h2; omega
  | d + 1, t => by
    have hl := fil_len p d (t + 1)
    simp only [fil, List.length_append]
    constructor
    · intro h y h1 h2
      by_cases c : p t = true
      · rw [if_pos c] at h
        by_cases e : y = t
        · subst e; exact c
        · exact (fil_full p d (t + 1)).1 (by simp at h; omega) y (by omega) (by omega)
      · rw [if_neg c] at h; simp at h; omega
    · intro h
      rw [if_pos (h t (by omega) (by omega)), (fil_full p d (t + 1)).2 (fun y h1 h2 => h y (by omega) (by omega))]
      simp; omega
theorem fil_mono {p q : Int → Bool} (h : ∀ x, p x = true → q x = true) : ∀ (d : Nat) (t : Int), (fil p t d).length ≤ (fil q t d).length
  | 0, _ => by simp [fil]
  | d + 1, t => by
    have := fil_mono h d (t + 1)
    simp only [fil, List.length_append]
    by_cases c : p t = true
    · rw [if_pos c, if_pos (h t c)]; simp; omega
    · rw [if_neg c]; simp; omega
theorem tbl_all (o : Int → Int) (u : Int) (hu : 0 ≤ u) : ∀ (d : Nat) (t : Int), (tbl o t d).foldl mx 0 ≤ u ↔ ∀ y, t ≤ y → y < t + d → o y ≤ u := by
  intro d t
  rw [fold_le]
  constructor
  · rintro ⟨_, h⟩ y h1 h2
    have : o y ∈ tbl o t d := by
      have e := tbl_get o d t (y - t).toNat (by omega)
      rw [show t + (((y - t).toNat : Nat) : Int) = y by omega] at e
      rw [← e]
      exact rd_mem (by rw [tbl_len]; omega)
    exact h _ this
  · intro h
    refine ⟨hu, fun x hx => ?_⟩
    obtain ⟨j, hj, rfl⟩ := List.getElem_of_mem hx
    have hj' : j < d := by rw [tbl_len] at hj; exact hj
    have e := tbl_get o d t j hj'
    have e2 : rd (tbl o t d) (j : Int) = (tbl o t d)[j] := by simp [rd, hj]
    rw [← e2, e]
    exact h _ (by omega) (by omega)
/-- The searched list rises and lies in the row. -/
theorem srch_ok (n due : Int) : ∀ (r : Nat) (l : List Int) (x : Int) (o : List Int), srch n due r l x = some o → l.Pairwise (· < ·) → (∀ y ∈ l, 0 ≤ y ∧ y < x) → 0 ≤ x → x ≤ n → o.Pairwise (· < ·) ∧ (∀ y ∈ o, 0 ≤ y ∧ y < n) ∧ mxs n o ≤ due
  | 0, l, x, o, h, hp, hm, h0, h1 => by
    simp only [srch] at h
    by_cases hc : mxs n l ≤ due
    · rw [if_pos hc] at h; obtain rfl := Option.some.inj h
      exact ⟨hp, fun y hy => by have := hm y hy; omega, hc⟩
    · rw [if_neg hc] at h; simp at h
  | r + 1, l, x, o, h, hp, hm, h0, h1 => by
    simp only [srch] at h
    obtain ⟨y, h2, h3, h4⟩ := lpf_from _ _ _ _ h
    refine srch_ok n due r (l ++ [y]) (y + 1) o h4 ?_ ?_ (by omega) (by omega)
    · rw [List.pairwise_append]
      refine ⟨hp, by simp, fun a ha b hb => ?_⟩
      have := hm a ha
      simp only [List.mem_cons, List.not_mem_nil, or_false] at hb
      omega
    · intro a ha
      rcases List.mem_append.1 ha with ha | ha
      · have := hm a ha; omega
      · simp only [List.mem_cons, List.not_mem_nil, or_false] at ha; omega
theorem ris_of {l : List Int} {hi : Int} (hp : l.Pairwise (· < ·)) (hm : ∀ y ∈ l, 0 ≤ y ∧ y ≤ hi) : ∀ (d i : Nat), i + d = l.length → ris l hi (i : Int) d = true := by
  intro d
  induction d with
  | zero => intro i _; rfl
  | succ d ih =>
    intro i h
    have e0 : ∀ (j : Nat) (h : j < l.length), rd l (j : Int) = l[j] := fun j h => by simp [rd, h]
    have hmem := hm _ (rd_mem (show i < l.length by omega))
    simp only [ris]
    rw [decide_eq_true hmem, show (i : Int) + 1 = ((i + 1 : Nat) : Int) by omega, ih (i + 1) (by omega)]
    by_cases c : i = 0
    · subst c; simp
    · obtain ⟨j, rfl⟩ : ∃ j, i = j + 1 := ⟨i - 1, by omega⟩
      have := List.pairwise_iff_getElem.1 hp j (j + 1) (by omega) (by omega) (by omega)
      have e1 := e0 j (by omega)
      have e2 := e0 (j + 1) (by omega)
      rw [show ((j + 1 : Nat) : Int) - 1 = (j : Int) by omega, e1, e2, decide_eq_true this]; simp
/-- Where a fast signal and a slow one meet. -/
theorem plc_fast {k t : Int} (hk : 2 ≤ k) (h0 : 0 ≤ t) (h1 : t < 2 * (k - 1)) : plc k 0 false 1 t = if t < 2 * (k - 1) - t then t else 2 * (k - 1) - t := by
  unfold plc
  simp only [Bool.false_eq_true, if_false, Int.ediv_one, Int.zero_add]
  rw [if_neg (by omega), Int.emod_eq_of_lt h0 h1]
theorem plc_slow {k t : Int} (hk : 2 ≤ k) (h0 : 0 ≤ t) (h1 : t < 2 * (k - 1)) : plc k 0 false 3 t = if t / 3 < 2 * (k - 1) - t / 3 then t / 3 else 2 * (k - 1) - t / 3 := by
  unfold plc
  simp only [Bool.false_eq_true, if_false, Int.zero_add]
  rw [if_neg (by omega), Int.emod_eq_of_lt (by omega) (by omega)]
theorem mid_meet {k : Int} (hk : 2 ≤ k) (hk2 : k ≤ 100) : mtg k 0 false 1 0 false 3 ((3 * (k - 1) + 1) / 2) = true ∧ ∀ t, 1 ≤ t → t < (3 * (k - 1) + 1) / 2 → t < 2 * (k - 1) → mtg k 0 false 1 0 false 3 t = false := by
  constructor
  · unfold mtg cms
    by_cases c : (3 * (k - 1) + 1) / 2 < 2 * (k - 1)
    · rw [plc_fast hk (by omega) c, plc_slow hk (by omega) c]
      simp only [Int.emod_one, decide_true, Bool.and_true, Bool.and_eq_true, Bool.or_eq_true, decide_eq_true_eq]
      refine ⟨.inl (.inr (by omega)), ?_⟩
      split <;> split <;> omega
    · obtain rfl : k = 2 := by omega
      decide
  · intro t h1 h2 h3
    unfold mtg
    rw [plc_fast hk (by omega) h3, plc_slow hk (by omega) h3, Bool.and_eq_false_iff]
    right
    refine decide_eq_false (fun x => ?_)
    split at x <;> split at x <;> omega
theorem mid_fst {k : Int} (hk : 2 ≤ k) (hk2 : k ≤ 100) (d : Nat) (hd : 200 ≤ d) : fst (mtg k 0 false 1 0 false 3) 1 d = some ((3 * (k - 1) + 1) / 2) := by
  obtain ⟨m1, m2⟩ := mid_meet hk hk2
  cases e : fst (mtg k 0 false 1 0 false 3) 1 d with
  | none =>
    have := fst_none _ _ _ e ((3 * (k - 1) + 1) / 2) (by omega) (by omega)
    rw [m1] at this; exact absurd this (by decide)
  | some q =>
    obtain ⟨h1, h2, h3, h4⟩ := fst_some _ _ _ _ e
    congr 1
    rcases Int.lt_trichotomy q ((3 * (k - 1) + 1) / 2) with c | c | c
    · have := m2 q h1 c (by omega)
      rw [h3] at this; exact absurd this (by decide)
    · exact c
    · have := h4 _ (by omega) c
      rw [m1] at this; exact absurd this (by decide)
end Go.Proofs.YtmhbcfdodcnjmaaGreatDoor.Pl
end
