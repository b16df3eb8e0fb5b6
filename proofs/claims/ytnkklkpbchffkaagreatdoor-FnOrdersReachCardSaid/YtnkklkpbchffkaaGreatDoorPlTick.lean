/- Plain facts: Tick. No condition. -/
import Derived.Test.YtnkklkpbchffkaaGreatDoorPlBytes
import Derived.Lib.ReplaceLaws
import Derived.Lib.SlTrimSet
import Derived.RowKit
import Derived.Test.YtnkklkpbchffkaaGreatDoorWWords
import Derived.Test.YtnkklkpbchffkaaGreatDoorWMore
import Derived.Test.YtnkklkpbchffkaaGreatDoorOpn
namespace Go.Proofs.YtnkklkpbchffkaaGreatDoor.Pl
open Go.RowKit Go.Proofs.YtnkklkpbchffkaaGreatDoorW.PrintWords Go.Proofs.YtnkklkpbchffkaaGreatDoorW.PrintMore Go.Proofs.YtnkklkpbchffkaaGreatDoor.Opn
set_option linter.unusedVariables false
set_option linter.unusedSimpArgs false
open Go.Lib
/-- A row's bytes: each looks to one side. -/
def sgn (b : UInt8) : Bool := b == 60 || b == 62
/-- One tick. -/
def twk : List UInt8 → List UInt8
  | [] => []
  | [a] => [a]
  | a :: b :: r => if a = 62 ∧ b = 60 then 60 :: 62 :: twk r else a :: twk (b :: r)
theorem twk_hit (r : List UInt8) : twk (62 :: 60 :: r) = 60 :: 62 :: twk r := by rw [twk, if_pos ⟨rfl, rfl⟩]
theorem twk_miss {a : UInt8} {l : List UInt8} (h : ¬ ([62, 60] : List UInt8).isPrefixOf (a :: l) = true) : twk (a :: l) = a :: twk l := by
  cases l with
  | nil => rfl
  | cons b r =>
    rw [twk, if_neg]
    rintro ⟨rfl, rfl⟩
    exact h (by simp [List.isPrefixOf])
theorem pre_of {l : List UInt8} (h : ([62, 60] : List UInt8).isPrefixOf l = true) : ∃ r, l = 62 :: 60 :: r := by
  match l, h with
  | [], h => simp [List.isPrefixOf] at h
  | [a], h => simp [List.isPrefixOf] at h
  | a :: b :: r, h =>
    simp [List.isPrefixOf] at h
    obtain ⟨rfl, rfl⟩ := h
    exact ⟨r, rfl⟩
theorem twk_index : ∀ (s : List UInt8) (i : Nat), index s [62, 60] = i → twk s = s.take i ++ [60, 62] ++ twk (s.drop (i + 2))
  | [], i, h => by simp [index] at h
  | a :: l, i, h => by
    unfold index at h
    by_cases hp : ([62, 60] : List UInt8).isPrefixOf (a :: l) = true
    · rw [if_pos hp] at h
      obtain rfl : i = 0 := by omega
      obtain ⟨r, e⟩ := pre_of hp
      rw [e, twk_hit]
      rfl
    · rw [if_neg hp] at h
      by_cases hm : (index l [62, 60] == -1) = true
      · rw [if_pos hm] at h; omega
      · rw [if_neg hm] at h
        obtain ⟨j, rfl⟩ : ∃ j, i = j + 1 := ⟨i - 1, by have := index_ge l [62, 60]; have : index l [62, 60] ≠ -1 := fun e => hm (by simp [e]); omega⟩
        rw [twk_miss hp, twk_index l j (by omega)]
        rfl
theorem twk_none : ∀ (s : List UInt8), index s [62, 60] = -1 → twk s = s
  | [], h => rfl
  | a :: l, h => by
    unfold index at h
    by_cases hp : ([62, 60] : List UInt8).isPrefixOf (a :: l) = true
    · rw [if_pos hp] at h; omega
    · rw [if_neg hp] at h
      by_cases hm : (index l [62, 60] == -1) = true
      · rw [twk_miss hp, twk_none l (by simpa using hm)]
      · rw [if_neg hm] at h
        have := index_ge l [62, 60]
        have : index l [62, 60] ≠ -1 := fun e => hm (by simp [e])
        omega
theorem replaceK_twk : ∀ (n : Nat) (s : List UInt8), s.length ≤ n → replaceK [62, 60] [60, 62] (count s [62, 60]) s = twk s
  | n, s, hn => by
    by_cases h : index s [62, 60] = -1
    · rw [count_miss h, twk_none s h]; rfl
    · have hg := index_ge s [62, 60]
      obtain ⟨i, hi⟩ : ∃ i : Nat, index s [62, 60] = i := ⟨(index s [62, 60]).toNat, by omega⟩
      have hr := index_room s [62, 60] (by omega)
      simp only [List.length_cons, List.length_nil] at hr
      have hi' := hi
      rw [count_hit (by simp) hi, Nat.add_comm, replaceK_hit _ _ _ _ _ hi, twk_index s i hi]
      simp only [List.length_cons, List.length_nil, Nat.zero_add]
      match n with
      | 0 => rw [hi] at hr; omega
      | n + 1 =>
        rw [show i + (1 + 1) = i + 2 from rfl, replaceK_twk n (s.drop (i + 2)) (by simp; omega)]
theorem replaceAll_twk (s : List UInt8) : replaceAll s [62, 60] [60, 62] = twk s := by
  unfold replaceAll replace replaceNum
  rw [if_neg (by decide), if_pos (by left; decide)]
  exact replaceK_twk s.length s (Nat.le_refl _)
/-- Do two stand face to face? -/
def fac : List UInt8 → Bool
  | [] => false
  | [_] => false
  | a :: b :: r => (decide (a = 62 ∧ b = 60)) || fac (b :: r)
theorem fac_index : ∀ (s : List UInt8), Lib.contains s [62, 60] = fac s
  | [] => rfl
  | [a] => by
    unfold Lib.contains index
    rw [if_neg (by simp [List.isPrefixOf])]
    simp [index, fac]
  | a :: b :: r => by
    have ih := fac_index (b :: r)
    unfold Lib.contains at ih ⊢
    rw [index, fac, ← ih]
    by_cases hp : ([62, 60] : List UInt8).isPrefixOf (a :: b :: r) = true
    · rw [if_pos hp]
      obtain ⟨r', e⟩ := pre_of hp
      injection e with e1 e2
      injection e2 with e2 _
      simp [e1, e2]
    · rw [if_neg hp]
      have hn : decide (a = 62 ∧ b = 60) = false := by
        rw [decide_eq_false_iff_not]
        rintro ⟨rfl, rfl⟩
        exact hp (by simp [List.isPrefixOf])
      rw [hn, Bool.false_or]
      have hg := index_ge (b :: r) [62, 60]
      by_cases hm : (index (b :: r) [62, 60] == -1) = true
      · rw [if_pos hm]
        have : index (b :: r) [62, 60] = -1 := by simpa using hm
        rw [this]
      · rw [if_neg hm]
        have : index (b :: r) [62, 60] ≠ -1 := fun e => hm (by simp [e])
        rw [decide_eq_true (by omega), decide_eq_true (by omega)]
theorem twk_rest : ∀ (s : List UInt8), fac s = false → twk s = s
  | [], _ => rfl
  | [a], _ => rfl
  | a :: b :: r, h => by
    rw [fac, Bool.or_eq_false_iff, decide_eq_false_iff_not] at h
    rw [twk, if_neg h.1, twk_rest (b :: r) h.2]
theorem twk_len : ∀ (s : List UInt8), (twk s).length = s.length
  | [] => rfl
  | [a] => rfl
  | a :: b :: r => by
    rw [twk]
    split
    · simp [twk_len r]
    · simp [twk_len (b :: r)]
theorem twk_sgn : ∀ (s : List UInt8), s.all sgn = true → (twk s).all sgn = true
  | [], _ => rfl
  | [a], h => h
  | a :: b :: r, h => by
    rw [twk]
    simp only [List.all_cons, Bool.and_eq_true] at h
    split
    · simp only [List.all_cons, Bool.and_eq_true]; exact ⟨rfl, rfl, twk_sgn r h.2.2⟩
    · simp only [List.all_cons, Bool.and_eq_true]; exact ⟨h.1, twk_sgn (b :: r) (by simp [h.2])⟩
/-- How far those who look to the right are from the end, together. -/
def wt : List UInt8 → Nat
  | [] => 0
  | a :: r => (if a = 62 then r.length else 0) + wt r
theorem wt_le : ∀ (s : List UInt8), wt (twk s) ≤ wt s ∧ (fac s = true → wt (twk s) < wt s)
  | [] => ⟨Nat.le_refl _, by simp [fac]⟩
  | [a] => ⟨Nat.le_refl _, by simp [fac]⟩
  | a :: b :: r => by
    by_cases h : a = 62 ∧ b = 60
    · obtain ⟨rfl, rfl⟩ := h
      have := (wt_le r).1
      rw [twk_hit]
      simp only [wt, List.length_cons, twk_len]
      simp
      omega
    · have ⟨h1, h2⟩ := wt_le (b :: r)
      rw [twk, if_neg h]
      have e : wt (a :: twk (b :: r)) = (if a = 62 then (b :: r).length else 0) + wt (twk (b :: r)) := by rw [wt, twk_len]
      rw [e, wt]
      refine ⟨by omega, fun hf => ?_⟩
      rw [fac, decide_eq_false h, Bool.false_or] at hf
      have := h2 hf
      omega
theorem wt_sq : ∀ (s : List UInt8), wt s ≤ s.length * s.length
  | [] => Nat.le_refl _
  | a :: r => by
    have := wt_sq r
    simp only [wt, List.length_cons]
    have : (if a = 62 then r.length else 0) ≤ r.length := by split <;> omega
    have : (r.length + 1) * (r.length + 1) = r.length * r.length + r.length + r.length + 1 := by rw [Nat.mul_add, Nat.add_mul]; omega
    omega
/-- The row at rest, and how many ticks lead to it, at most f. -/
def rst : Nat → List UInt8 → List UInt8 × Nat
  | 0, s => (s, 0)
  | f + 1, s => if fac s = true then ((rst f (twk s)).1, (rst f (twk s)).2 + 1) else (s, 0)
theorem rst_le : ∀ (f : Nat) (s : List UInt8), (rst f s).2 ≤ f
  | 0, s => Nat.le_refl _
  | f + 1, s => by rw [rst]; split; · have := rst_le f (twk s); simp; omega
                   · simp
/-- The places of those who face the next one. -/
def prs : Nat → List UInt8 → List Int
  | _, [] => []
  | _, [_] => []
  | o, a :: b :: r => if a = 62 ∧ b = 60 then (o : Int) :: prs (o + 1) (b :: r) else prs (o + 1) (b :: r)
theorem prs_ge : ∀ (s : List UInt8) (o : Nat), ∀ x ∈ prs o s, (o : Int) ≤ x ∧ x + 1 < o + s.length
  | [], o, x, h => by simp [prs] at h
  | [a], o, x, h => by simp [prs] at h
  | a :: b :: r, o, x, h => by
    have ih := prs_ge (b :: r) (o + 1)
    rw [prs] at h
    simp only [List.length_cons] at ih ⊢
    split at h
    · rcases List.mem_cons.1 h with rfl | h
      · omega
      · have := ih x h; omega
    · have := ih x h; omega
theorem prs_nil : ∀ (s : List UInt8) (o : Nat), (prs o s = []) = (fac s = false)
  | [], o => by simp [prs, fac]
  | [a], o => by simp [prs, fac]
  | a :: b :: r, o => by
    have ih := prs_nil (b :: r) (o + 1)
    rw [prs, fac]
    by_cases h : a = 62 ∧ b = 60
    · simp [h]
    · rw [if_neg h, decide_eq_false h, Bool.false_or, ih]
theorem prs_len : ∀ (s : List UInt8) (o : Nat), (prs o s).length ≤ s.length
  | [], o => by simp [prs]
  | [a], o => by simp [prs]
  | a :: b :: r, o => by
    have ih := prs_len (b :: r) (o + 1)
    rw [prs]
    simp only [List.length_cons] at ih ⊢
    split
    · simp; omega
    · omega
/-- A row in which the pair at i turns. -/
def trn (s : List UInt8) (i : Int) : List UInt8 := s.take i.toNat ++ [60, 62] ++ s.drop (i.toNat + 2)
theorem trn_app (pre : List UInt8) (r : List UInt8) : trn (pre ++ 62 :: 60 :: r) (pre.length : Int) = pre ++ 60 :: 62 :: r := by
  unfold trn
  rw [Int.toNat_natCast, List.take_left]
  simp [List.drop_append]
theorem fold_trn : ∀ (n : Nat) (s pre : List UInt8), s.length ≤ n → (prs pre.length s).foldl trn (pre ++ s) = pre ++ twk s
  | _, [], pre, _ => rfl
  | _, [a], pre, _ => rfl
  | 0, a :: b :: r, pre, h => by simp at h
  | n + 1, a :: b :: r, pre, h => by
    rw [prs]
    by_cases hc : a = 62 ∧ b = 60
    · obtain ⟨rfl, rfl⟩ := hc
      rw [if_pos ⟨rfl, rfl⟩, List.foldl_cons, trn_app, twk_hit]
      have e : prs (pre.length + 1) (60 :: r) = prs (pre.length + 2) r := by
        cases r with
        | nil => rfl
        | cons c r => rw [prs, if_neg (by rintro ⟨h, _⟩; exact absurd h (by decide))]
      have := fold_trn n r (pre ++ [60, 62]) (by simp at h; omega)
      rw [e]
      simpa using this
    · rw [if_neg hc, twk, if_neg hc]
      have := fold_trn n (b :: r) (pre ++ [a]) (by simpa using h)
      simpa using this
theorem fold_tick (s : List UInt8) : (prs 0 s).foldl trn s = twk s := by
  have := fold_trn s.length s [] (Nat.le_refl _)
  simpa using this
theorem drop_nil {p : UInt8 → Bool} : ∀ {l : List UInt8}, l.dropWhile p = [] ↔ ∀ x ∈ l, p x = true
  | [] => by simp
  | a :: l => by
    rw [List.dropWhile_cons]
    by_cases h : p a = true
    · rw [if_pos h, drop_nil]; simp [h]
    · rw [if_neg h]; simp [h]
theorem trim_sgn' (l : List UInt8) : List.dropWhile sgn (List.dropWhile sgn l.reverse).reverse = [] ↔ l.all sgn = true := by
  rw [drop_nil]
  constructor
  · intro h
    rw [List.all_eq_true]
    by_cases hd : l.reverse.dropWhile sgn = []
    · rw [drop_nil] at hd
      intro x hx
      exact hd x (by simpa using hx)
    · exfalso
      obtain ⟨c, t, hc⟩ := List.exists_cons_of_ne_nil hd
      have h1 := h c (by rw [hc]; simp)
      have h2 : sgn c = false := by
        have := List.head?_dropWhile_not sgn l.reverse
        rw [hc] at this
        simpa using this
      rw [h1] at h2
      exact absurd h2 (by decide)
  · intro h x hx
    have hx' : x ∈ l := by
      have := (List.dropWhile_sublist sgn (l := l.reverse)).subset (List.mem_reverse.1 hx)
      simpa using this
    exact List.all_eq_true.1 h x hx'
/-- Is a row's text one of signs alone? -/
theorem trim_sgn (l : List UInt8) : (Lib.trimS l [60, 62] = []) ↔ l.all sgn = true := by
  have hs : (fun x => ([60, 62] : List UInt8).contains x) = sgn := by
    funext x
    simp [sgn, List.contains, List.elem]
    cases (x == 60) <;> cases (x == 62) <;> rfl
  unfold Lib.trimS Lib.trimLeftS Lib.trimRightS
  rw [show (([60, 62] : List UInt8).contains ·) = sgn from hs]
  exact trim_sgn' l
/-- Is a text a row? -/
def rgood (l : List UInt8) : Bool := decide (1 ≤ l.length ∧ l.length ≤ 60) && l.all sgn
theorem bt60 (s : ByteArray) (i : Nat) (h : i < (L s).length) : (bt s (i : Int) = 60) ↔ (L s)[i] = 60 := bt_is s i h 60
theorem bt62 (s : ByteArray) (i : Nat) (h : i < (L s).length) : (bt s (i : Int) = 62) ↔ (L s)[i] = 62 := bt_is s i h 62
end Go.Proofs.YtnkklkpbchffkaaGreatDoor.Pl
