/- Plain facts: Rest. No condition. -/
import Derived.Test.YtgfoookdmcffpaaDoorPlRow
import Derived.RowKit
import Derived.Test.YtgfoookdmcffpaaDoorWWords
import Derived.Test.YtgfoookdmcffpaaDoorWMore
import Derived.Test.YtgfoookdmcffpaaDoorOpn
namespace Go.Proofs.YtgfoookdmcffpaaDoor.Pl
open Go.RowKit Go.Proofs.YtgfoookdmcffpaaDoorW.PrintWords Go.Proofs.YtgfoookdmcffpaaDoorW.PrintMore Go.Proofs.YtgfoookdmcffpaaDoor.Opn
set_option linter.unusedVariables false
set_option linter.unusedSimpArgs false
/-- How many of the first i look to the right. -/
def hN (l : List UInt8) (i : Nat) : Nat := (l.take i).count 62
theorem hN_zero (l : List UInt8) : hN l 0 = 0 := by simp [hN]
theorem hN_cons (a : UInt8) (l : List UInt8) (i : Nat) : hN (a :: l) (i + 1) = (if a = 62 then 1 else 0) + hN l i := by
  simp only [hN, List.take_succ_cons, List.count_cons, beq_iff_eq]; omega
theorem sgn_or {a : UInt8} (h : sgn a = true) : a = 60 ∨ a = 62 := by
  unfold sgn at h; simpa using h
theorem hN_tick : ∀ (l : List UInt8), l.all sgn = true → ∀ i, 1 ≤ i → i < l.length → hN (twk l) i = max (hN l (i - 1)) (hN l (i + 1) - 1)
  | [], _, i, h1, h2 => by simp at h2
  | [a], _, i, h1, h2 => by simp at h2; omega
  | a :: b :: r, hs, i, h1, h2 => by
    simp only [List.all_cons, Bool.and_eq_true] at hs
    obtain ⟨sa, sb, sr⟩ := hs
    by_cases h : a = 62 ∧ b = 60
    · obtain ⟨rfl, rfl⟩ := h
      rw [twk_hit]
      match i, h1, h2 with
      | 1, _, _ => simp [hN_cons, hN_zero]
      | 2, _, h2 =>
        match r, h2 with
        | c :: r, _ => simp only [hN_cons, hN_zero]; simp; split <;> omega
      | k + 3, _, h2 =>
        have ih := hN_tick r sr (k + 1) (by omega) (by simp at h2; omega)
        simp only [Nat.add_sub_cancel] at ih
        rw [show k + 3 - 1 = k + 2 by omega]
        simp only [hN_cons, ih, show k + 1 + 1 = k + 2 by omega]
        generalize hN r (k + 2) = y
        generalize hN r k = x
        simp
        omega
    · rw [twk, if_neg h]
      match i, h1, h2 with
      | 1, _, _ =>
        simp only [hN_cons, hN_zero, Nat.sub_self]
        rcases sgn_or sa with rfl | rfl
        · rcases sgn_or sb with rfl | rfl <;> simp
        · rcases sgn_or sb with rfl | rfl
          · exact absurd ⟨rfl, rfl⟩ h
          · simp
      | k + 2, _, h2 =>
        have ih := hN_tick (b :: r) (by simp [sb, sr]) (k + 1) (by omega) (by simp at h2 ⊢; omega)
        simp only [Nat.add_sub_cancel] at ih
        have e1 := hN_cons a (twk (b :: r)) (k + 1)
        have e2 := hN_cons a (b :: r) k
        have e3 := hN_cons a (b :: r) (k + 2)
        rw [show k + 2 - 1 = k + 1 by omega, e1, e2, show k + 2 + 1 = k + 3 by omega, e3, ih]
        simp only [show k + 1 + 1 = k + 2 by omega]
        generalize hN (b :: r) k = x
        generalize hN (b :: r) (k + 2) = y
        split <;> omega
theorem hN_top (l : List UInt8) (i : Nat) (h : l.length ≤ i) : hN l i = l.count 62 := by rw [hN, List.take_of_length_le h]
theorem hN_low : ∀ (l : List UInt8) (i : Nat), i ≤ l.length → i + l.count 62 ≤ hN l i + l.length
  | l, 0, _ => by rw [hN_zero]; have := List.count_le_length (a := (62 : UInt8)) (l := l); omega
  | [], i + 1, h => by simp at h
  | a :: l, i + 1, h => by
    have ih := hN_low l i (by simpa using h)
    rw [hN_cons, List.count_cons, List.length_cons]
    simp only [beq_iff_eq]
    split <;> omega
theorem hN_le : ∀ (l : List UInt8) (i : Nat), hN l i ≤ i
  | l, i => by have := List.count_le_length (a := (62 : UInt8)) (l := l.take i); simp only [List.length_take] at this; unfold hN; omega
theorem hN_cnt (l : List UInt8) (i : Nat) : hN l i ≤ l.count 62 := by unfold hN; exact List.Sublist.count_le _ (List.take_sublist i l)
theorem twk_count : ∀ (l : List UInt8) (b : UInt8), (twk l).count b = l.count b
  | [], _ => rfl
  | [a], _ => rfl
  | a :: b :: r, c => by
    rw [twk]
    split
    · next h => obtain ⟨rfl, rfl⟩ := h; simp only [List.count_cons, twk_count r c]; omega
    · simp only [List.count_cons, twk_count (b :: r) c]
theorem hN_bound (n q : Nat) : ∀ (t : Nat) (l : List UInt8) (c : Int), l.all sgn = true → l.length = n → l.count 62 + q = n →
    (∀ i, i ≤ n → 2 * (hN l i : Int) ≤ max 0 (max (2 * ((i : Int) - q)) (i + c))) → ∀ i, i ≤ n → 2 * (hN (twn t l) i : Int) ≤ max 0 (max (2 * ((i : Int) - q)) (i - t + c))
  | 0, l, c, _, _, _, h, i, hi => by have := h i hi; simp only [twn]; omega
  | t + 1, l, c, hs, hl, hq, h, i, hi => by
    have := hN_bound n q t (twk l) (c - 1) (twk_sgn l hs) (by rw [twk_len, hl]) (by rw [twk_count, hq]) (fun j hj => by
      rcases Nat.eq_zero_or_pos j with rfl | h0
      · rw [hN_zero]; omega
      rcases Nat.lt_or_ge j n with h1 | h1
      · rw [hN_tick l hs j h0 (by omega)]
        have a1 := h (j - 1) (by omega)
        have a2 := h (j + 1) (by omega)
        omega
      · rw [hN_top _ _ (by rw [twk_len]; omega), twk_count]; omega) i hi
    rw [twn]
    omega
theorem twn_count : ∀ (t : Nat) (l : List UInt8) (b : UInt8), (twn t l).count b = l.count b
  | 0, _, _ => rfl
  | t + 1, l, b => by rw [twn, twn_count t, twk_count]
theorem fac_hN : ∀ (l : List UInt8), fac l = true → ∃ i, 1 ≤ i ∧ i < l.length ∧ hN l i = hN l (i - 1) + 1 ∧ hN l (i + 1) = hN l i
  | [], h => by simp [fac] at h
  | [a], h => by simp [fac] at h
  | a :: b :: r, h => by
    by_cases hc : a = 62 ∧ b = 60
    · obtain ⟨rfl, rfl⟩ := hc
      exact ⟨1, by omega, by simp, by simp [hN_cons, hN_zero], by simp [hN_cons, hN_zero]⟩
    · rw [fac, decide_eq_false hc, Bool.false_or] at h
      obtain ⟨i, h1, h2, h3, h4⟩ := fac_hN (b :: r) h
      refine ⟨i + 1, by omega, by simp at h2 ⊢; omega, ?_, ?_⟩
      · obtain ⟨j, rfl⟩ : ∃ j, i = j + 1 := ⟨i - 1, by omega⟩
        rw [show j + 1 + 1 - 1 = j + 1 by omega, hN_cons, hN_cons a (b :: r) j, h3]
        simp only [Nat.add_sub_cancel]
        omega
      · have e1 := hN_cons a (b :: r) (i + 1)
        have e2 := hN_cons a (b :: r) i
        rw [e1, e2, h4]
/-- A row of n soldiers is at rest behind n - 1 ticks. -/
theorem rest_fast (l : List UInt8) (hs : l.all sgn = true) (h1 : 1 ≤ l.length) : fac (twn (l.length - 1) l) = false := by
  have hr := List.count_le_length (a := (62 : UInt8)) (l := l)
  have tl : ∀ (t : Nat) (l : List UInt8), (twn t l).length = l.length := fun t => by
    induction t with
    | zero => intro l; rfl
    | succ t ih => intro l; rw [twn, ih, twk_len]
  cases hf : fac (twn (l.length - 1) l) with
  | false => rfl
  | true =>
    obtain ⟨i, i1, i2, i3, i4⟩ := fac_hN _ hf
    rw [tl] at i2
    have hb := hN_bound l.length (l.length - l.count 62) (l.length - 1) l (l.count 62) hs rfl (by omega) (fun j hj => by
      have a1 := hN_le l j
      have a2 := hN_cnt l j
      omega) i (by omega)
    have lo := hN_low (twn (l.length - 1) l) (i + 1) (by rw [tl]; omega)
    rw [tl, twn_count] at lo
    omega
theorem rst_twn : ∀ (t f : Nat) (l : List UInt8), fac (twn t l) = false → (rst f l).2 ≤ t
  | t, 0, l, _ => by simp [rst]
  | 0, f + 1, l, h => by rw [twn] at h; rw [rst, if_neg (by simp [h])]; exact Nat.le_refl _
  | t + 1, f + 1, l, h => by
    rw [rst]
    split
    · have := rst_twn t f (twk l) h; simp only; omega
    · simp
theorem trc_rst : ∀ (f : Nat) (a : Int) (l : List UInt8), trc f a l ≤ ((rst f l).2 : Int)
  | 0, _, _ => by simp [trc]
  | f + 1, a, l => by
    have := trc_rst f a (twk l)
    rw [trc, rst]
    split
    · simp only; split <;> omega
    · simp
theorem rst_n (f : Nat) (l : List UInt8) (hs : l.all sgn = true) (h1 : 1 ≤ l.length) : (rst f l).2 + 1 ≤ l.length := by
  have := rst_twn _ f l (rest_fast l hs h1); omega

end Go.Proofs.YtgfoookdmcffpaaDoor.Pl
