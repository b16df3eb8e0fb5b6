/- Plain facts: Best. No condition. -/
import Derived.Test.YtjnkjnpopejgaaaPlSpread
import Derived.RowKit
import Derived.Test.YtjnkjnpopejgaaaWWords
import Derived.Test.YtjnkjnpopejgaaaWMore
import Derived.Test.YtjnkjnpopejgaaaOpn
namespace Go.Proofs.Ytjnkjnpopejgaaa.Pl
open Go.RowKit Go.Proofs.YtjnkjnpopejgaaaW.PrintWords Go.Proofs.YtjnkjnpopejgaaaW.PrintMore Go.Proofs.Ytjnkjnpopejgaaa.Opn
set_option linter.unusedVariables false
set_option linter.unusedSimpArgs false
theorem cnt_or (p q : Int → Bool) : ∀ (d : Nat) (t : Int), cnt (fun x => p x || q x) t d ≤ cnt p t d + cnt q t d
  | 0, _ => by simp [cnt]
  | d + 1, t => by
    have := cnt_or p q d (t + 1)
    simp only [cnt]
    by_cases hp : p t = true <;> by_cases hq : q t = true <;> simp [hp, hq] <;> omega
theorem cnt_between (a b : Int) : ∀ (d : Nat) (i : Int), cnt (fun x => decide (a ≤ x ∧ x ≤ b)) i d ≤ mx 0 (b - mx a i + 1)
  | 0, i => by simp only [cnt]; unfold mx; split <;> omega
  | d + 1, i => by
    have := cnt_between a b d (i + 1)
    simp only [cnt]
    by_cases h : a ≤ i ∧ i ≤ b
    · rw [if_pos (show (fun x => decide (a ≤ x ∧ x ≤ b)) i = true from decide_eq_true h)]
      unfold mx at this ⊢
      repeat' split at this
      all_goals repeat' split
      all_goals omega
    · rw [if_neg (show ¬ (fun x => decide (a ≤ x ∧ x ≤ b)) i = true from fun k => h (of_decide_eq_true k))]
      unfold mx at this ⊢
      repeat' split at this
      all_goals repeat' split
      all_goals omega
theorem cnt_all (p : Int → Bool) : ∀ (d : Nat) (t : Int), (∀ q, t ≤ q → q < t + d → p q = true) → cnt p t d = d
  | 0, _, _ => rfl
  | d + 1, t, h => by
    simp only [cnt]
    rw [if_pos (h t (by omega) (by omega)), cnt_all p d (t + 1) (fun q h1 h2 => h q (by omega) (by omega))]
    omega
theorem cnt_congr {p q : Int → Bool} (h : ∀ x, p x = q x) : ∀ (d : Nat) (t : Int), cnt p t d = cnt q t d
  | 0, _ => rfl
  | d + 1, t => by simp only [cnt]; rw [h, cnt_congr h d]
/-- Is a place within t of one of l? -/
def cvd (t : Int) (l : List Int) (x : Int) : Bool := l.any fun k => decide (mx (x - k) (k - x) ≤ t)
theorem cvd_cnt (t : Int) (ht : 0 ≤ t) (i : Int) (d : Nat) : ∀ l : List Int, cnt (cvd t l) i d ≤ (l.length : Int) * (2 * t + 1)
  | [] => by
    have : ∀ (d : Nat) (i : Int), cnt (cvd t []) i d = 0 := by
      intro d
      induction d with
      | zero => intro i; rfl
      | succ d ih => intro i; simp only [cnt, ih]; simp [cvd]
    rw [this]; simp
  | k :: l => by
    have h1 := cvd_cnt t ht i d l
    have h2 := cnt_or (fun x => decide (mx (x - k) (k - x) ≤ t)) (cvd t l) d i
    have h3 : cnt (fun x => decide (mx (x - k) (k - x) ≤ t)) i d ≤ 2 * t + 1 := by
      rw [cnt_congr (q := fun x => decide (k - t ≤ x ∧ x ≤ k + t)) (fun x => decide_eq_decide.2 (by unfold mx; split <;> omega))]
      have := cnt_between (k - t) (k + t) d i
      unfold mx at this
      repeat' split at this
      all_goals omega
    have e : (((k :: l).length : Nat) : Int) * (2 * t + 1) = (l.length : Int) * (2 * t + 1) + (2 * t + 1) := by
      rw [List.length_cons, show ((l.length + 1 : Nat) : Int) = (l.length : Int) + 1 by omega, Int.add_mul, Int.one_mul]
    rw [e]
    have e2 : cnt (cvd t (k :: l)) i d = cnt (fun x => decide (mx (x - k) (k - x) ≤ t) || cvd t l x) i d := cnt_congr (fun x => by simp [cvd]) d i
    rw [e2]
    omega
theorem near_le (x t : Int) : ∀ (l : List Int) (acc : Int), near x acc l ≤ t ↔ (acc ≤ t ∨ cvd t l x = true)
  | [], acc => by simp [near, cvd]
  | k :: l, acc => by
    have := near_le x t l (mn acc (mx (x - k) (k - x)))
    simp only [near, List.foldl_cons] at this ⊢
    rw [this]
    simp only [cvd, List.any_cons, Bool.or_eq_true, decide_eq_true_eq]
    have e : mn acc (mx (x - k) (k - x)) ≤ t ↔ (acc ≤ t ∨ mx (x - k) (k - x) ≤ t) := by unfold mn; split <;> omega
    rw [e]
    constructor
    · rintro ((h | h) | h) <;> simp [h]
    · rintro (h | h | h) <;> simp [h]
/-- The last time at which news from l come to one of n. -/
def mxs (n : Int) (l : List Int) : Int := (spr n l 0 n.toNat).foldl mx 0
theorem fold_le (t : Int) : ∀ (l : List Int) (a : Int), l.foldl mx a ≤ t ↔ (a ≤ t ∧ ∀ x ∈ l, x ≤ t)
  | [], a => by simp
  | y :: l, a => by
    rw [List.foldl_cons, fold_le t l]
    have e : mx a y ≤ t ↔ (a ≤ t ∧ y ≤ t) := by unfold mx; split <;> omega
    rw [e]
    simp [and_assoc]
theorem spr_all (n : Int) (l : List Int) (P : Int → Prop) : ∀ (d : Nat) (i : Int), (∀ x ∈ spr n l i d, P x) ↔ (∀ q, i ≤ q → q < i + d → P (near q n l))
  | 0, i => by simp [spr]; intro q h1 h2; omega
  | d + 1, i => by
    simp only [spr, List.mem_cons, forall_eq_or_imp]
    rw [spr_all n l P d (i + 1)]
    constructor
    · rintro ⟨h1, h2⟩ q h3 h4
      by_cases e : q = i
      · rw [e]; exact h1
      · exact h2 q (by omega) (by omega)
    · intro h
      exact ⟨h i (by omega) (by omega), fun q h1 h2 => h q (by omega) (by omega)⟩
theorem mxs_le (n : Int) (l : List Int) (t : Int) (hn : 0 ≤ n) (ht : 0 ≤ t) (htn : t < n) : mxs n l ≤ t ↔ ∀ q, 0 ≤ q → q < n → cvd t l q = true := by
  unfold mxs
  rw [fold_le, spr_all]
  constructor
  · rintro ⟨_, h⟩ q h1 h2
    exact ((near_le q t l n).1 (h q h1 (by omega))).resolve_left (by omega)
  · intro h
    exact ⟨ht, fun q h1 h2 => (near_le q t l n).2 (.inr (h q h1 (by omega)))⟩
theorem fold_ge : ∀ (l : List Int) (a : Int), a ≤ l.foldl mx a
  | [], a => Int.le_refl a
  | y :: l, a => by
    have := fold_ge l (mx a y)
    rw [List.foldl_cons]
    have e : a ≤ mx a y := by unfold mx; split <;> omega
    omega
theorem mxs_nn (n : Int) (l : List Int) : 0 ≤ mxs n l := fold_ge _ _
/-- No list of so many is better than the bound tells. -/
theorem mxs_ge (n due : Int) (l : List Int) (hn : 1 ≤ n) (hl : 1 ≤ l.length) (hd : due = 0 ∨ (l.length : Int) * (2 * (due - 1) + 1) < n) (h0 : 0 ≤ due) : due ≤ mxs n l := by
  rcases hd with rfl | hd
  · exact mxs_nn n l
  · rcases Int.lt_or_le (mxs n l) due with hlt | hge
    · exfalso
      have h1 : 0 < due := by have := mxs_nn n l; omega
      have hmul : (2 * (due - 1) + 1) ≤ (l.length : Int) * (2 * (due - 1) + 1) := by
        have := Int.mul_le_mul_of_nonneg_right (show (1 : Int) ≤ (l.length : Int) by omega) (show 0 ≤ 2 * (due - 1) + 1 by omega)
        rwa [Int.one_mul] at this
      have hc := (mxs_le n l (due - 1) (by omega) (by omega) (by omega)).1 (by omega)
      have h2 := cnt_all (cvd (due - 1) l) n.toNat 0 (fun q h1 h2 => hc q h1 (by omega))
      have h3 := cvd_cnt (due - 1) (by omega) 0 n.toNat l
      rw [h2] at h3
      generalize (l.length : Int) * (2 * (due - 1) + 1) = z at *
      omega
    · exact hge
/-- The first of d whole numbers, x being the first one, at which g finds. -/
def lpf {α : Type} (g : Int → Option α) : Int → Nat → Option α
  | _, 0 => none
  | x, d + 1 => if (g x).isSome = true then g x else lpf g (x + 1) d
theorem lpf_some {α : Type} (g : Int → Option α) : ∀ (d : Nat) (x : Int), (∃ y, x ≤ y ∧ y < x + d ∧ (g y).isSome = true) → (lpf g x d).isSome = true
  | 0, x, h => by obtain ⟨y, h1, h2, _⟩ := h; omega
  | d + 1, x, h => by
    simp only [lpf]
    by_cases hc : (g x).isSome = true
    · rw [if_pos hc]; exact hc
    · rw [if_neg hc]
      obtain ⟨y, h1, h2, h3⟩ := h
      refine lpf_some g d (x + 1) ⟨y, ?_, by omega, h3⟩
      by_cases e : y = x
      · subst e; exact absurd h3 hc
      · omega
theorem lpf_from {α : Type} (g : Int → Option α) : ∀ (d : Nat) (x : Int) (r : α), lpf g x d = some r → ∃ y, x ≤ y ∧ y < x + d ∧ g y = some r
  | 0, x, r, h => by simp [lpf] at h
  | d + 1, x, r, h => by
    simp only [lpf] at h
    by_cases hc : (g x).isSome = true
    · rw [if_pos hc] at h; exact ⟨x, by omega, by omega, h⟩
    · rw [if_neg hc] at h
      obtain ⟨y, h1, h2, h3⟩ := lpf_from g d (x + 1) r h
      exact ⟨y, by omega, by omega, h3⟩
/-- The first list, in order, that goes on with r more and is good. -/
def srch (n due : Int) : Nat → List Int → Int → Option (List Int)
  | 0, l, _ => if mxs n l ≤ due then some l else none
  | r + 1, l, x => lpf (fun y => srch n due r (l ++ [y]) (y + 1)) x (n - r - x).toNat
theorem srch_len (n due : Int) : ∀ (r : Nat) (l : List Int) (x : Int) (o : List Int), srch n due r l x = some o → o.length = l.length + r
  | 0, l, x, o, h => by
    simp only [srch] at h
    by_cases hc : mxs n l ≤ due
    · rw [if_pos hc] at h; obtain rfl := Option.some.inj h; rfl
    · rw [if_neg hc] at h; simp at h
  | r + 1, l, x, o, h => by
    simp only [srch] at h
    obtain ⟨y, _, _, h3⟩ := lpf_from _ _ _ _ h
    have := srch_len n due r (l ++ [y]) (y + 1) o h3
    simp at this
    omega
theorem srch_over (n due : Int) (r : Nat) (l : List Int) (x : Int) (h : n - (r : Int) ≤ x) : srch n due (r + 1) l x = none := by
  simp only [srch]
  rw [show (n - (r : Int) - x).toNat = 0 by omega]
  rfl
/-- The first j of a row told by g. -/
def row (g : Nat → Int) : Nat → List Int
  | 0 => []
  | j + 1 => row g j ++ [g j]
theorem row_len (g : Nat → Int) : ∀ j, (row g j).length = j
  | 0 => rfl
  | j + 1 => by simp [row, row_len g j]
theorem row_any (g : Nat → Int) (p : Int → Bool) : ∀ j i, i < j → p (g i) = true → (row g j).any p = true
  | 0, i, h, _ => by omega
  | j + 1, i, h, hp => by
    simp only [row, List.any_append, Bool.or_eq_true]
    by_cases e : i = j
    · subst e; exact .inr (by simp [hp])
    · exact .inl (row_any g p j i (by omega) hp)
theorem srch_row (n due : Int) (m : Nat) (g : Nat → Int) (h1 : ∀ j, j < m → g j ≤ n - (m - j)) (h2 : ∀ j, j + 1 < m → g j + 1 ≤ g (j + 1)) (h3 : mxs n (row g m) ≤ due) :
    ∀ (r j : Nat) (x : Int), j + r = m → (j < m → x ≤ g j) → (srch n due r (row g j) x).isSome = true
  | 0, j, x, h, _ => by
    obtain rfl : j = m := by omega
    simp only [srch]
    rw [if_pos h3]; rfl
  | r + 1, j, x, h, hx => by
    simp only [srch]
    have := h1 j (by omega)
    have := hx (by omega)
    refine lpf_some _ _ _ ⟨g j, by omega, by omega, ?_⟩
    refine srch_row n due m g h1 h2 h3 r (j + 1) (g j + 1) (by omega) (fun hj => h2 j hj)
/-- A good row of m there is. -/
def gud (n t : Int) (m : Nat) (j : Nat) : Int := mn ((j : Int) * (2 * t + 1) + t) (n - m + j)
theorem gud_good (n t : Int) (m : Nat) (hm : 1 ≤ m) (hmn : (m : Int) ≤ n) (ht : 0 ≤ t) (htn : t < n) (hc : n ≤ (m : Int) * (2 * t + 1)) : mxs n (row (gud n t m) m) ≤ t := by
  refine (mxs_le n _ t (by omega) ht htn).2 fun q h0 h1 => ?_
  unfold cvd
  have hpos : 0 < 2 * t + 1 := by omega
  have hd0 : 0 ≤ q / (2 * t + 1) := Int.ediv_nonneg h0 (by omega)
  have hmod := Int.emod_nonneg q (show 2 * t + 1 ≠ 0 by omega)
  have hmod' := Int.emod_lt_of_pos q hpos
  have hdm := Int.mul_ediv_add_emod q (2 * t + 1)
  have hlt : q / (2 * t + 1) < m := Int.ediv_lt_of_lt_mul hpos (by omega)
  obtain ⟨j, hj⟩ : ∃ j : Nat, (j : Int) = q / (2 * t + 1) := ⟨(q / (2 * t + 1)).toNat, by omega⟩
  rw [← hj] at hdm hlt
  rw [Int.mul_comm] at hdm
  have hjm : j < m := by omega
  by_cases hb : (j : Int) * (2 * t + 1) + t ≤ n - m + j
  · refine row_any _ _ m j hjm ?_
    have e : gud n t m j = (j : Int) * (2 * t + 1) + t := by unfold gud mn; split <;> omega
    rw [e, decide_eq_true_eq]
    generalize (j : Int) * (2 * t + 1) = z at *
    unfold mx; split <;> omega
  · have e : gud n t m j = n - m + j := by unfold gud mn; split <;> omega
    by_cases hq : q ≤ n - m + j
    · refine row_any _ _ m j hjm ?_
      rw [e, decide_eq_true_eq]
      generalize (j : Int) * (2 * t + 1) = z at *
      unfold mx; split <;> omega
    · obtain ⟨i, hi⟩ : ∃ i : Nat, (i : Int) = q - (n - m) := ⟨(q - (n - m)).toNat, by omega⟩
      refine row_any _ _ m i (by omega) ?_
      have hmono : (j : Int) * (2 * t + 1) + (i - j) ≤ (i : Int) * (2 * t + 1) := by
        have := Int.mul_le_mul_of_nonneg_left (show (1 : Int) ≤ 2 * t + 1 by omega) (show 0 ≤ (i : Int) - j by omega)
        rw [Int.mul_one, Int.sub_mul] at this
        omega
      have e2 : gud n t m i = n - m + i := by
        generalize (j : Int) * (2 * t + 1) = z at *
        unfold gud mn
        generalize (i : Int) * (2 * t + 1) = z' at *
        split <;> omega
      rw [e2, decide_eq_true_eq]
      unfold mx; split <;> omega
theorem gud_srch (n t : Int) (m : Nat) (hm : 1 ≤ m) (hmn : (m : Int) ≤ n) (ht : 0 ≤ t) (htn : t < n) (hc : n ≤ (m : Int) * (2 * t + 1)) : (srch n t m [] 0).isSome = true := by
  refine srch_row n t m (gud n t m) (fun j hj => ?_) (fun j hj => ?_) (gud_good n t m hm hmn ht htn hc) m 0 0 (by omega) (fun _ => ?_)
  · unfold gud mn; split <;> omega
  · have e : ((j + 1 : Nat) : Int) * (2 * t + 1) = (j : Int) * (2 * t + 1) + (2 * t + 1) := by
      rw [show ((j + 1 : Nat) : Int) = (j : Int) + 1 by omega, Int.add_mul, Int.one_mul]
    unfold gud
    rw [e]
    generalize (j : Int) * (2 * t + 1) = z
    unfold mn; split <;> split <;> omega
  · unfold gud mn
    simp
    split <;> omega
end Go.Proofs.Ytjnkjnpopejgaaa.Pl
