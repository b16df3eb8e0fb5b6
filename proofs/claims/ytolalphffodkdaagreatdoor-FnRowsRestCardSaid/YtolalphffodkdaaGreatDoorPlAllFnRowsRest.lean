/- Plain facts: Base, List, Clue, Bytes, Tick, Row, Val, Mk, Rest, Nums, Ord, Inv, Rs. No condition. -/
import Derived.RowKit
import Derived.Test.YtolalphffodkdaaGreatDoorWWords
import Derived.Test.YtolalphffodkdaaGreatDoorWMore
import Derived.Test.YtolalphffodkdaaGreatDoorOpn
import Derived.Laws.Strings
import Derived.Lib.ReplaceLaws
import Derived.Lib.SlTrimSet
import Derived.Lib.RabinKarpLaws
import Derived.Sort.Walk0
import Derived.Lib.MapLaws
import Derived.Lib.TrimAscii
section
namespace Go.Proofs.YtolalphffodkdaaGreatDoor.Pl
open Go.RowKit Go.Proofs.YtolalphffodkdaaGreatDoorW.PrintWords Go.Proofs.YtolalphffodkdaaGreatDoorW.PrintMore Go.Proofs.YtolalphffodkdaaGreatDoor.Opn
set_option linter.unusedVariables false
set_option linter.unusedSimpArgs false
theorem wrap64_id {x : Int} (h : -9223372036854775808 ≤ x) (h' : x ≤ 9223372036854775807) : wrap64 x = x := by unfold wrap64; omega
theorem Ev.succ {α : Type} {g : Nat → Option α} {r : α} (h : Ev (fun k => g (k + 1)) r) : Ev g r := Ev.step (fun _ => rfl) h
theorem Ev.const {α : Type} {x : Option α} {r : α} (h : x = some r) : Ev (fun _ => x) r := ⟨0, fun _ _ => h⟩
theorem Ev.pos {α : Type} {c : Prop} [Decidable c] {g f : Nat → Option α} {r : α} (hc : c) (h : Ev g r) : Ev (fun k => if c then g k else f k) r := by
  simp only [if_pos hc]; exact h
theorem Ev.neg {α : Type} {c : Prop} [Decidable c] {g f : Nat → Option α} {r : α} (hc : ¬ c) (h : Ev f r) : Ev (fun k => if c then g k else f k) r := by
  simp only [if_neg hc]; exact h
theorem Ev.iff {α : Type} {c : Prop} [Decidable c] {g f : Nat → Option α} {r : α} (h : c → Ev g r) (h' : ¬ c → Ev f r) : Ev (fun k => if c then g k else f k) r := by
  by_cases hc : c
  · exact Ev.pos hc (h hc)
  · exact Ev.neg hc (h' hc)
theorem Ev.get {α : Type} {g : Nat → Option α} {r : α} (h : Ev g r) : ∃ k, g k = some r := Ev.rounds h
theorem tdiv_nn {a b : Int} (h : 0 ≤ a) : Int.tdiv a b = a / b := Int.tdiv_eq_ediv_of_nonneg h
theorem tmod_nn {a b : Int} (h : 0 ≤ a) : Int.tmod a b = a % b := Int.tmod_eq_emod_of_nonneg h
end Go.Proofs.YtolalphffodkdaaGreatDoor.Pl
end
section
namespace Go.Proofs.YtolalphffodkdaaGreatDoor.Pl
open Go.RowKit Go.Proofs.YtolalphffodkdaaGreatDoorW.PrintWords Go.Proofs.YtolalphffodkdaaGreatDoorW.PrintMore Go.Proofs.YtolalphffodkdaaGreatDoor.Opn
set_option linter.unusedVariables false
set_option linter.unusedSimpArgs false
theorem rd_cons_drop {l : List Int} {j : Nat} (h : j < l.length) : l.drop j = rd l (j : Int) :: l.drop (j + 1) := by
  rw [List.drop_eq_getElem_cons h]
  congr 1
  simp [rd, h]
theorem rd_mem {l : List Int} {j : Nat} (h : j < l.length) : rd l (j : Int) ∈ l := by
  simp [rd, h]
/-- What a copying loop has so far. -/
def cpy {α : Type} (z : α) (l : List α) (i : Nat) : List α := l.take i ++ List.replicate (l.length - i) z
theorem cpy_zero {α : Type} (z : α) (l : List α) : cpy z l 0 = List.replicate l.length z := by simp [cpy]
theorem cpy_all {α : Type} (z : α) (l : List α) : cpy z l l.length = l := by simp [cpy]
theorem cpy_len {α : Type} (z : α) (l : List α) (i : Nat) (h : i ≤ l.length) : (cpy z l i).length = l.length := by simp [cpy]; omega
theorem cpy_succ {α : Type} (z : α) (l : List α) (i : Nat) (h : i < l.length) : (cpy z l i).set i l[i] = cpy z l (i + 1) := by
  have e : List.replicate (l.length - i) z = z :: List.replicate (l.length - (i + 1)) z := by
    rw [show l.length - i = (l.length - (i + 1)) + 1 by omega]; rfl
  unfold cpy
  rw [e, List.set_append_right _ _ (by simp; omega), List.length_take, Nat.min_eq_left (by omega), Nat.sub_self, List.set_cons_zero, List.take_succ_eq_append_getElem h, List.append_assoc]
  rfl
end Go.Proofs.YtolalphffodkdaaGreatDoor.Pl
end
section
namespace Go.Proofs.YtolalphffodkdaaGreatDoor.Pl
open Go.RowKit Go.Proofs.YtolalphffodkdaaGreatDoorW.PrintWords Go.Proofs.YtolalphffodkdaaGreatDoorW.PrintMore Go.Proofs.YtolalphffodkdaaGreatDoor.Opn
set_option linter.unusedVariables false
set_option linter.unusedSimpArgs false
end Go.Proofs.YtolalphffodkdaaGreatDoor.Pl
end
section
namespace Go.Proofs.YtolalphffodkdaaGreatDoor.Pl
open Go.RowKit Go.Proofs.YtolalphffodkdaaGreatDoorW.PrintWords Go.Proofs.YtolalphffodkdaaGreatDoorW.PrintMore Go.Proofs.YtolalphffodkdaaGreatDoor.Opn
set_option linter.unusedVariables false
set_option linter.unusedSimpArgs false
/-- A text's bytes. -/
abbrev L (s : ByteArray) : List UInt8 := s.data.toList
theorem size_L (s : ByteArray) : s.size = (L s).length := by rw [Array.length_toList]; rfl
theorem toList_L (s : ByteArray) : s.toList = L s := ByteArray.toList_eq s
theorem L_mk (l : List UInt8) : L ⟨l.toArray⟩ = l := by simp [L]
theorem mk_L (s : ByteArray) : (⟨(L s).toArray⟩ : ByteArray) = s := by cases s; simp [L]
theorem L_inj {s t : ByteArray} (h : L s = L t) : s = t := by rw [← mk_L s, ← mk_L t, h]
theorem bt_nat (s : ByteArray) (i : Nat) (h : i < (L s).length) : bt s (i : Int) = (((L s)[i]).toNat : Int) := by
  have h' : i < s.size := by rw [size_L]; exact h
  simp only [bt, Int.toNat_natCast, dif_pos h']
  rfl
theorem u8_eq (b c : UInt8) : ((b.toNat : Int) = (c.toNat : Int)) ↔ b = c := by
  constructor
  · intro h; exact UInt8.toNat_inj.1 (by omega)
  · rintro rfl; rfl
theorem bt_is (s : ByteArray) (i : Nat) (h : i < (L s).length) (c : UInt8) : (bt s (i : Int) = (c.toNat : Int)) ↔ (L s)[i] = c := by rw [bt_nat s i h, u8_eq]
end Go.Proofs.YtolalphffodkdaaGreatDoor.Pl
end
section
namespace Go.Proofs.YtolalphffodkdaaGreatDoor.Pl
open Go.RowKit Go.Proofs.YtolalphffodkdaaGreatDoorW.PrintWords Go.Proofs.YtolalphffodkdaaGreatDoorW.PrintMore Go.Proofs.YtolalphffodkdaaGreatDoor.Opn
set_option linter.unusedVariables false
set_option linter.unusedSimpArgs false
open Go.Lib
/-- A row's bytes: each looks to one side. -/
def sgn (b : UInt8) : Bool := b == 60 || b == 62
/-- One tick. -/
def twk : List UInt8 → List UInt8
  | [] => []
  | [a] => [a]
  | a :: b :: r => if a = 62 ∧ b = 60 then 60 :: 62 :: twk r else a :: twk (b :: r)
theorem twk_hit (r : List UInt8) : twk (62 :: 60 :: r) = 60 :: 62 :: twk r := by rw [twk, if_pos ⟨rfl, rfl⟩]
theorem twk_miss {a : UInt8} {l : List UInt8} (h : ¬ ([62, 60] : List UInt8).isPrefixOf (a :: l) = true) : twk (a :: l) = a :: twk l := by
  cases l with
  | nil => rfl
  | cons b r =>
    rw [twk, if_neg]
    rintro ⟨rfl, rfl⟩
    exact h (by simp [List.isPrefixOf])
theorem pre_of {l : List UInt8} (h : ([62, 60] : List UInt8).isPrefixOf l = true) : ∃ r, l = 62 :: 60 :: r := by
  match l, h with
  | [], h => simp [List.isPrefixOf] at h
  | [a], h => simp [List.isPrefixOf] at h
  | a :: b :: r, h =>
    simp [List.isPrefixOf] at h
    obtain ⟨rfl, rfl⟩ := h
    exact ⟨r, rfl⟩
theorem twk_index : ∀ (s : List UInt8) (i : Nat), index s [62, 60] = i → twk s = s.take i ++ [60, 62] ++ twk (s.drop (i + 2))
  | [], i, h => by simp [index] at h
  | a :: l, i, h => by
    unfold index at h
    by_cases hp : ([62, 60] : List UInt8).isPrefixOf (a :: l) = true
    · rw [if_pos hp] at h
      obtain rfl : i = 0 := by omega
      obtain ⟨r, e⟩ := pre_of hp
      rw [e, twk_hit]
      rfl
    · rw [if_neg hp] at h
      by_cases hm : (index l [62, 60] == -1) = true
      · rw [if_pos hm] at h; omega
      · rw [if_neg hm] at h
        obtain ⟨j, rfl⟩ : ∃ j, i = j + 1 := ⟨i - 1, by have := index_ge l [62, 60]; have : index l [62, 60] ≠ -1 := fun e => hm (by simp [e]); omega⟩
        rw [twk_miss hp, twk_index l j (by omega)]
        rfl
theorem twk_none : ∀ (s : List UInt8), index s [62, 60] = -1 → twk s = s
  | [], h => rfl
  | a :: l, h => by
    unfold index at h
    by_cases hp : ([62, 60] : List UInt8).isPrefixOf (a :: l) = true
    · rw [if_pos hp] at h; omega
    · rw [if_neg hp] at h
      by_cases hm : (index l [62, 60] == -1) = true
      · rw [twk_miss hp, twk_none l (by simpa using hm)]
      · rw [if_neg hm] at h
        have := index_ge l [62, 60]
        have : index l [62, 60] ≠ -1 := fun e => hm (by simp [e])
        omega
theorem replaceK_twk : ∀ (n : Nat) (s : List UInt8), s.length ≤ n → replaceK [62, 60] [60, 62] (count s [62, 60]) s = twk s
  | n, s, hn => by
    by_cases h : index s [62, 60] = -1
    · rw [count_miss h, twk_none s h]; rfl
    · have hg := index_ge s [62, 60]
      obtain ⟨i, hi⟩ : ∃ i : Nat, index s [62, 60] = i := ⟨(index s [62, 60]).toNat, by omega⟩
      have hr := index_room s [62, 60] (by omega)
      simp only [List.length_cons, List.length_nil] at hr
      have hi' := hi
      rw [count_hit (by simp) hi, Nat.add_comm, replaceK_hit _ _ _ _ _ hi, twk_index s i hi]
      simp only [List.length_cons, List.length_nil, Nat.zero_add]
      match n with
      | 0 => rw [hi] at hr; omega
      | n + 1 =>
        rw [show i + (1 + 1) = i + 2 from rfl, replaceK_twk n (s.drop (i + 2)) (by simp; omega)]
theorem replaceAll_twk (s : List UInt8) : replaceAll s [62, 60] [60, 62] = twk s := by
  unfold replaceAll replace replaceNum
  rw [if_neg (by decide), if_pos (by left; decide)]
  exact replaceK_twk s.length s (Nat.le_refl _)
/-- Do two stand face to face? -/
def fac : List UInt8 → Bool
  | [] => false
  | [_] => false
  | a :: b :: r => (decide (a = 62 ∧ b = 60)) || fac (b :: r)
theorem fac_index : ∀ (s : List UInt8), Lib.contains s [62, 60] = fac s
  | [] => rfl
  | [a] => by
    unfold Lib.contains index
    rw [if_neg (by simp [List.isPrefixOf])]
    simp [index, fac]
  | a :: b :: r => by
    have ih := fac_index (b :: r)
    unfold Lib.contains at ih ⊢
    rw [index, fac, ← ih]
    by_cases hp : ([62, 60] : List UInt8).isPrefixOf (a :: b :: r) = true
    · rw [if_pos hp]
      obtain ⟨r', e⟩ := pre_of hp
      injection e with e1 e2
      injection e2 with e2 _
      simp [e1, e2]
    · rw [if_neg hp]
      have hn : decide (a = 62 ∧ b = 60) = false := by
        rw [decide_eq_false_iff_not]
        rintro ⟨rfl, rfl⟩
        exact hp (by simp [List.isPrefixOf])
      rw [hn, Bool.false_or]
      have hg := index_ge (b :: r) [62, 60]
      by_cases hm : (index (b :: r) [62, 60] == -1) = true
      · rw [if_pos hm]
        have : index (b :: r) [62, 60] = -1 := by simpa using hm
        rw [this]
      · rw [if_neg hm]
        have : index (b :: r) [62, 60] ≠ -1 := fun e => hm (by simp [e])
        rw [decide_eq_true (by omega), decide_eq_true (by omega)]
theorem twk_rest : ∀ (s : List UInt8), fac s = false → twk s = s
  | [], _ => rfl
  | [a], _ => rfl
  | a :: b :: r, h => by
    rw [fac, Bool.or_eq_false_iff, decide_eq_false_iff_not] at h
    rw [twk, if_neg h.1, twk_rest (b :: r) h.2]
theorem twk_len : ∀ (s : List UInt8), (twk s).length = s.length
  | [] => rfl
  | [a] => rfl
  | a :: b :: r => by
    rw [twk]
    split
    · simp [twk_len r]
    · simp [twk_len (b :: r)]
theorem twk_sgn : ∀ (s : List UInt8), s.all sgn = true → (twk s).all sgn = true
  | [], _ => rfl
  | [a], h => h
  | a :: b :: r, h => by
    rw [twk]
    simp only [List.all_cons, Bool.and_eq_true] at h
    split
    · simp only [List.all_cons, Bool.and_eq_true]; exact ⟨rfl, rfl, twk_sgn r h.2.2⟩
    · simp only [List.all_cons, Bool.and_eq_true]; exact ⟨h.1, twk_sgn (b :: r) (by simp [h.2])⟩
/-- How far those who look to the right are from the end, together. -/
def wt : List UInt8 → Nat
  | [] => 0
  | a :: r => (if a = 62 then r.length else 0) + wt r
theorem wt_le : ∀ (s : List UInt8), wt (twk s) ≤ wt s ∧ (fac s = true → wt (twk s) < wt s)
  | [] => ⟨Nat.le_refl _, by simp [fac]⟩
  | [a] => ⟨Nat.le_refl _, by simp [fac]⟩
  | a :: b :: r => by
    by_cases h : a = 62 ∧ b = 60
    · obtain ⟨rfl, rfl⟩ := h
      have := (wt_le r).1
      rw [twk_hit]
      simp only [wt, List.length_cons, twk_len]
      simp
      omega
    · have ⟨h1, h2⟩ := wt_le (b :: r)
      rw [twk, if_neg h]
      have e : wt (a :: twk (b :: r)) = (if a = 62 then (b :: r).length else 0) + wt (twk (b :: r)) := by rw [wt, twk_len]
      rw [e, wt]
      refine ⟨by omega, fun hf => ?_⟩
      rw [fac, decide_eq_false h, Bool.false_or] at hf
      have := h2 hf
      omega
theorem wt_sq : ∀ (s : List UInt8), wt s ≤ s.length * s.length
  | [] => Nat.le_refl _
  | a :: r => by
    have := wt_sq r
    simp only [wt, List.length_cons]
    have : (if a = 62 then r.length else 0) ≤ r.length := by split <;> omega
    have : (r.length + 1) * (r.length + 1) = r.length * r.length + r.length + r.length + 1 := by rw [Nat.mul_add, Nat.add_mul]; omega
    omega
/-- The row at rest, and how many ticks lead to it, at most f. -/
def rst : Nat → List UInt8 → List UInt8 × Nat
  | 0, s => (s, 0)
  | f + 1, s => if fac s = true then ((rst f (twk s)).1, (rst f (twk s)).2 + 1) else (s, 0)
theorem rst_le : ∀ (f : Nat) (s : List UInt8), (rst f s).2 ≤ f
  | 0, s => Nat.le_refl _
  | f + 1, s => by rw [rst]; split; · have := rst_le f (twk s); simp; omega
                   · simp
/-- The places of those who face the next one. -/
def prs : Nat → List UInt8 → List Int
  | _, [] => []
  | _, [_] => []
  | o, a :: b :: r => if a = 62 ∧ b = 60 then (o : Int) :: prs (o + 1) (b :: r) else prs (o + 1) (b :: r)
theorem prs_ge : ∀ (s : List UInt8) (o : Nat), ∀ x ∈ prs o s, (o : Int) ≤ x ∧ x + 1 < o + s.length
  | [], o, x, h => by simp [prs] at h
  | [a], o, x, h => by simp [prs] at h
  | a :: b :: r, o, x, h => by
    have ih := prs_ge (b :: r) (o + 1)
    rw [prs] at h
    simp only [List.length_cons] at ih ⊢
    split at h
    · rcases List.mem_cons.1 h with rfl | h
      · omega
      · have := ih x h; omega
    · have := ih x h; omega
theorem prs_nil : ∀ (s : List UInt8) (o : Nat), (prs o s = []) = (fac s = false)
  | [], o => by simp [prs, fac]
  | [a], o => by simp [prs, fac]
  | a :: b :: r, o => by
    have ih := prs_nil (b :: r) (o + 1)
    rw [prs, fac]
    by_cases h : a = 62 ∧ b = 60
    · simp [h]
    · rw [if_neg h, decide_eq_false h, Bool.false_or, ih]
theorem prs_len : ∀ (s : List UInt8) (o : Nat), (prs o s).length ≤ s.length
  | [], o => by simp [prs]
  | [a], o => by simp [prs]
  | a :: b :: r, o => by
    have ih := prs_len (b :: r) (o + 1)
    rw [prs]
    simp only [List.length_cons] at ih ⊢
    split
    · simp; omega
    · omega
/-- A row in which the pair at i turns. -/
def trn (s : List UInt8) (i : Int) : List UInt8 := s.take i.toNat ++ [60, 62] ++ s.drop (i.toNat + 2)
theorem trn_app (pre : List UInt8) (r : List UInt8) : trn (pre ++ 62 :: 60 :: r) (pre.length : Int) = pre ++ 60 :: 62 :: r := by
  unfold trn
  rw [Int.toNat_natCast, List.take_left]
  simp [List.drop_append]
theorem fold_trn : ∀ (n : Nat) (s pre : List UInt8), s.length ≤ n → (prs pre.length s).foldl trn (pre ++ s) = pre ++ twk s
  | _, [], pre, _ => rfl
  | _, [a], pre, _ => rfl
  | 0, a :: b :: r, pre, h => by simp at h
  | n + 1, a :: b :: r, pre, h => by
    rw [prs]
    by_cases hc : a = 62 ∧ b = 60
    · obtain ⟨rfl, rfl⟩ := hc
      rw [if_pos ⟨rfl, rfl⟩, List.foldl_cons, trn_app, twk_hit]
      have e : prs (pre.length + 1) (60 :: r) = prs (pre.length + 2) r := by
        cases r with
        | nil => rfl
        | cons c r => rw [prs, if_neg (by rintro ⟨h, _⟩; exact absurd h (by decide))]
      have := fold_trn n r (pre ++ [60, 62]) (by simp at h; omega)
      rw [e]
      simpa using this
    · rw [if_neg hc, twk, if_neg hc]
      have := fold_trn n (b :: r) (pre ++ [a]) (by simpa using h)
      simpa using this
theorem fold_tick (s : List UInt8) : (prs 0 s).foldl trn s = twk s := by
  have := fold_trn s.length s [] (Nat.le_refl _)
  simpa using this
theorem drop_nil {p : UInt8 → Bool} : ∀ {l : List UInt8}, l.dropWhile p = [] ↔ ∀ x ∈ l, p x = true
  | [] => by simp
  | a :: l => by
    rw [List.dropWhile_cons]
    by_cases h : p a = true
    · rw [if_pos h, drop_nil]; simp [h]
    · rw [if_neg h]; simp [h]
theorem trim_sgn' (l : List UInt8) : List.dropWhile sgn (List.dropWhile sgn l.reverse).reverse = [] ↔ l.all sgn = true := by
  rw [drop_nil]
  constructor
  · intro h
    rw [List.all_eq_true]
    by_cases hd : l.reverse.dropWhile sgn = []
    · rw [drop_nil] at hd
      intro x hx
      exact hd x (by simpa using hx)
    · exfalso
      obtain ⟨c, t, hc⟩ := List.exists_cons_of_ne_nil hd
      have h1 := h c (by rw [hc]; simp)
      have h2 : sgn c = false := by
        have := List.head?_dropWhile_not sgn l.reverse
        rw [hc] at this
        simpa using this
      rw [h1] at h2
      exact absurd h2 (by decide)
  · intro h x hx
    have hx' : x ∈ l := by
      have := (List.dropWhile_sublist sgn (l := l.reverse)).subset (List.mem_reverse.1 hx)
      simpa using this
    exact List.all_eq_true.1 h x hx'
/-- Is a row's text one of signs alone? -/
theorem trim_sgn (l : List UInt8) : (Lib.trimS l [60, 62] = []) ↔ l.all sgn = true := by
  have hs : (fun x => ([60, 62] : List UInt8).contains x) = sgn := by
    funext x
    simp [sgn, List.contains, List.elem]
    cases (x == 60) <;> cases (x == 62) <;> rfl
  unfold Lib.trimS Lib.trimLeftS Lib.trimRightS
  rw [show (([60, 62] : List UInt8).contains ·) = sgn from hs]
  exact trim_sgn' l
/-- Is a text a row? -/
def rgood (l : List UInt8) : Bool := decide (1 ≤ l.length ∧ l.length ≤ 60) && l.all sgn
theorem bt60 (s : ByteArray) (i : Nat) (h : i < (L s).length) : (bt s (i : Int) = 60) ↔ (L s)[i] = 60 := bt_is s i h 60
theorem bt62 (s : ByteArray) (i : Nat) (h : i < (L s).length) : (bt s (i : Int) = 62) ↔ (L s)[i] = 62 := bt_is s i h 62
end Go.Proofs.YtolalphffodkdaaGreatDoor.Pl
end
section
namespace Go.Proofs.YtolalphffodkdaaGreatDoor.Pl
open Go.RowKit Go.Proofs.YtolalphffodkdaaGreatDoorW.PrintWords Go.Proofs.YtolalphffodkdaaGreatDoorW.PrintMore Go.Proofs.YtolalphffodkdaaGreatDoor.Opn
set_option linter.unusedVariables false
set_option linter.unusedSimpArgs false
open Go.Lib
/-- The text of some bytes. -/
abbrev up (l : List UInt8) : ByteArray := ⟨l.toArray⟩
theorem up_L (s : ByteArray) : s = up (L s) := (mk_L s).symm
theorem up_size (l : List UInt8) : (up l).size = l.length := by rw [size_L, L_mk]
theorem up_isize (l : List UInt8) : ((up l).size : Int) = (l.length : Int) := by rw [up_size]
theorem up_bt (l : List UInt8) (i : Nat) (h : i < l.length) (c : UInt8) : (bt (up l) (i : Int) = (c.toNat : Int)) ↔ l[i] = c := by
  rw [bt_is (up l) i (by rw [L_mk]; exact h) c]
theorem up60 (l : List UInt8) (i : Nat) (h : i < l.length) : (bt (up l) (i : Int) = 60) ↔ l[i] = 60 := up_bt l i h 60
theorem up62 (l : List UInt8) (i : Nat) (h : i < l.length) : (bt (up l) (i : Int) = 62) ↔ l[i] = 62 := up_bt l i h 62
theorem up_app (a b : List UInt8) : up a ++ up b = up (a ++ b) := L_inj (by simp [L])
theorem up_take (l : List UInt8) (n : Nat) : (up l).extract 0 n = up (l.take n) := L_inj (by simp [L])
theorem up_drop (l : List UInt8) (n : Nat) : (up l).extract n (up l).size = up (l.drop n) := L_inj (by rw [up_size]; simp [L, List.take_of_length_le])
theorem prs_two (l : List UInt8) (i : Nat) (h : i + 1 < l.length) : prs i (l.drop i) = (if l[i] = 62 ∧ l[i + 1] = 60 then [(i : Int)] else []) ++ prs (i + 1) (l.drop (i + 1)) := by
  have e : l.drop i = l[i] :: l[i + 1] :: l.drop (i + 2) := by rw [List.drop_eq_getElem_cons (by omega), List.drop_eq_getElem_cons h]
  have e2 : l.drop (i + 1) = l[i + 1] :: l.drop (i + 2) := List.drop_eq_getElem_cons h
  rw [e, e2, prs]
  split <;> simp
theorem prs_one (l : List UInt8) (i : Nat) (h : ¬ i + 1 < l.length) : prs i (l.drop i) = [] := by
  have : (l.drop i).length ≤ 1 := by simp; omega
  match hd : l.drop i, this with
  | [], _ => rfl
  | [a], _ => rfl
theorem trn_len (s : List UInt8) (i : Int) (h0 : 0 ≤ i) (h1 : i + 1 < s.length) : (trn s i).length = s.length := by
  unfold trn; simp; omega
theorem prs_sparse : ∀ (s : List UInt8) (o : Nat), (prs o s).Pairwise (fun x y => x + 2 ≤ y)
  | [], o => by simp [prs]
  | [a], o => by simp [prs]
  | a :: b :: r, o => by
    rw [prs]
    split
    · next h =>
      refine List.pairwise_cons.2 ⟨fun y hy => ?_, prs_sparse (b :: r) (o + 1)⟩
      cases r with
      | nil => simp [prs] at hy
      | cons c r =>
        rw [prs, if_neg (by rintro ⟨h1, _⟩; rw [h.2] at h1; exact absurd h1 (by decide))] at hy
        have := prs_ge (c :: r) (o + 1 + 1) y hy
        omega
    · exact prs_sparse (b :: r) (o + 1)
/-- The row behind n ticks. -/
def twn : Nat → List UInt8 → List UInt8
  | 0, l => l
  | n + 1, l => twn n (twk l)
theorem twn_rest : ∀ (n : Nat) (l : List UInt8), fac l = false → twn n l = l
  | 0, _, _ => rfl
  | n + 1, l, h => by rw [twn, twk_rest l h, twn_rest n l h]
def bump (o : List Int) (j : Int) : List Int := (o.set j.toNat (wrap64 (rd o j + 1))).set (j + 1).toNat (wrap64 (rd (o.set j.toNat (wrap64 (rd o j + 1))) (j + 1) + 1))
theorem bump_len (o : List Int) (j : Int) : (bump o j).length = o.length := by simp [bump]
theorem rd_set (o : List Int) (j a v : Int) (h0 : 0 ≤ j) (h1 : j < o.length) (ha : 0 ≤ a) : rd (o.set j.toNat v) a = if a = j then v else rd o a := by
  unfold rd
  rw [List.getD_eq_getElem?_getD, List.getElem?_set, List.getD_eq_getElem?_getD]
  by_cases e : a = j
  · subst e
    rw [if_pos rfl, if_pos (by omega), if_pos rfl]; rfl
  · rw [if_neg (by omega), if_neg e]
end Go.Proofs.YtolalphffodkdaaGreatDoor.Pl
end
section
namespace Go.Proofs.YtolalphffodkdaaGreatDoor.Pl
open Go.RowKit Go.Proofs.YtolalphffodkdaaGreatDoorW.PrintWords Go.Proofs.YtolalphffodkdaaGreatDoorW.PrintMore Go.Proofs.YtolalphffodkdaaGreatDoor.Opn
set_option linter.unusedVariables false
set_option linter.unusedSimpArgs false
end Go.Proofs.YtolalphffodkdaaGreatDoor.Pl
end
section
namespace Go.Proofs.YtolalphffodkdaaGreatDoor.Pl
open Go.RowKit Go.Proofs.YtolalphffodkdaaGreatDoorW.PrintWords Go.Proofs.YtolalphffodkdaaGreatDoorW.PrintMore Go.Proofs.YtolalphffodkdaaGreatDoor.Opn
set_option linter.unusedVariables false
set_option linter.unusedSimpArgs false
def sgnOf (b : Nat) : UInt8 := if b = 1 then 62 else 60
theorem sgn_of (b : Nat) : sgn (sgnOf b) = true := by unfold sgnOf; split <;> rfl
/-- The row of n soldiers with a number. -/
def mk : Nat → Nat → List UInt8
  | 0, _ => []
  | n + 1, m => mk n (m / 2) ++ [sgnOf (m % 2)]
theorem mk_len : ∀ (n m : Nat), (mk n m).length = n
  | 0, _ => rfl
  | n + 1, m => by rw [mk, List.length_append, mk_len n]; rfl
theorem mk_all : ∀ (n m : Nat), (mk n m).all sgn = true
  | 0, _ => rfl
  | n + 1, m => by rw [mk, List.all_append, mk_all n, List.all_cons, sgn_of]; rfl
theorem mk_get : ∀ (n m i : Nat), i < n → (mk n m)[i]? = some (sgnOf (m / 2 ^ (n - 1 - i) % 2))
  | 0, _, _, h => by omega
  | n + 1, m, i, h => by
    rw [mk]
    by_cases e : i = n
    · subst e
      rw [List.getElem?_append_right (by rw [mk_len]; omega), mk_len, Nat.sub_self, show i + 1 - 1 - i = 0 by omega]
      simp
    · rw [List.getElem?_append_left (by rw [mk_len]; omega), mk_get n (m / 2) i (by omega), Nat.div_div_eq_div_mul, show n + 1 - 1 - i = (n - 1 - i) + 1 by omega, Nat.pow_succ, Nat.mul_comm 2]
theorem mk_good (n m : Nat) (h : 1 ≤ n ∧ n ≤ 60) : rgood (mk n m) = true := by
  unfold rgood
  rw [mk_len, mk_all, decide_eq_true h]; rfl
theorem shr_div (m s : Nat) (hs : s ≤ 64) : shr .i64 (m : Int) (s : Int) = ((m / 2 ^ s : Nat) : Int) := by
  unfold shr
  rw [Int.toNat_natCast, show min s IntKind.i64.bits = s from Nat.min_eq_left hs]
  push_cast
  rfl
theorem and1 (x : Nat) (h : x < 9223372036854775808) : Go.bits .and .i64 (x : Int) 1 = ((x % 2 : Nat) : Int) := Go.Proofs.and_one x h
theorem shl_one (n : Nat) (h : n ≤ 60) : shl .i64 1 (n : Int) = ((2 ^ n : Nat) : Int) := by
  unfold shl
  have h64 : IntKind.i64.bits = 64 := rfl
  rw [Int.toNat_natCast, Nat.min_eq_left (by omega), Int.one_mul, show ∀ z, IntKind.i64.wrap z = wrap64 z from fun z => by unfold wrap64; exact IntKind.wrap_i64 z]
  have : 2 ^ n ≤ 2 ^ 60 := Nat.pow_le_pow_right (by omega) h
  have e : ((2 : Int) ^ n) = ((2 ^ n : Nat) : Int) := by push_cast; rfl
  rw [e]
  have h60 : 2 ^ 60 = 1152921504606846976 := by decide
  generalize 2 ^ n = q at this
  rw [wrap64_id (by omega) (by omega)]
def inums (l : List UInt8) : List Int := l.map fun b => (b.toNat : Int)
theorem inums_str (l : List UInt8) : strOfNums (inums l) = up l := by
  apply L_inj
  simp [strOfNums, inums, L, Function.comp_def]
end Go.Proofs.YtolalphffodkdaaGreatDoor.Pl
end
section
namespace Go.Proofs.YtolalphffodkdaaGreatDoor.Pl
open Go.RowKit Go.Proofs.YtolalphffodkdaaGreatDoorW.PrintWords Go.Proofs.YtolalphffodkdaaGreatDoorW.PrintMore Go.Proofs.YtolalphffodkdaaGreatDoor.Opn
set_option linter.unusedVariables false
set_option linter.unusedSimpArgs false
/-- How many of the first i look to the right. -/
def hN (l : List UInt8) (i : Nat) : Nat := (l.take i).count 62
theorem hN_zero (l : List UInt8) : hN l 0 = 0 := by simp [hN]
theorem hN_cons (a : UInt8) (l : List UInt8) (i : Nat) : hN (a :: l) (i + 1) = (if a = 62 then 1 else 0) + hN l i := by
  simp only [hN, List.take_succ_cons, List.count_cons, beq_iff_eq]; omega
theorem sgn_or {a : UInt8} (h : sgn a = true) : a = 60 ∨ a = 62 := by
  unfold sgn at h; simpa using h
theorem hN_tick : ∀ (l : List UInt8), l.all sgn = true → ∀ i, 1 ≤ i → i < l.length → hN (twk l) i = max (hN l (i - 1)) (hN l (i + 1) - 1)
  | [], _, i, h1, h2 => by simp at h2
  | [a], _, i, h1, h2 => by simp at h2; omega
  | a :: b :: r, hs, i, h1, h2 => by
    simp only [List.all_cons, Bool.and_eq_true] at hs
    obtain ⟨sa, sb, sr⟩ := hs
    by_cases h : a = 62 ∧ b = 60
    · obtain ⟨rfl, rfl⟩ := h
      rw [twk_hit]
      match i, h1, h2 with
      | 1, _, _ => simp [hN_cons, hN_zero]
      | 2, _, h2 =>
        match r, h2 with
        | c :: r, _ => simp only [hN_cons, hN_zero]; simp; split <;> omega
      | k + 3, _, h2 =>
        have ih := hN_tick r sr (k + 1) (by omega) (by simp at h2; omega)
        simp only [Nat.add_sub_cancel] at ih
        rw [show k + 3 - 1 = k + 2 by omega]
        simp only [hN_cons, ih, show k + 1 + 1 = k + 2 by omega]
        generalize hN r (k + 2) = y
        generalize hN r k = x
        simp
        omega
    · rw [twk, if_neg h]
      match i, h1, h2 with
      | 1, _, _ =>
        simp only [hN_cons, hN_zero, Nat.sub_self]
        rcases sgn_or sa with rfl | rfl
        · rcases sgn_or sb with rfl | rfl <;> simp
        · rcases sgn_or sb with rfl | rfl
          · exact absurd ⟨rfl, rfl⟩ h
          · simp
      | k + 2, _, h2 =>
        have ih := hN_tick (b :: r) (by simp [sb, sr]) (k + 1) (by omega) (by simp at h2 ⊢; omega)
        simp only [Nat.add_sub_cancel] at ih
        have e1 := hN_cons a (twk (b :: r)) (k + 1)
        have e2 := hN_cons a (b :: r) k
        have e3 := hN_cons a (b :: r) (k + 2)
        rw [show k + 2 - 1 = k + 1 by omega, e1, e2, show k + 2 + 1 = k + 3 by omega, e3, ih]
        simp only [show k + 1 + 1 = k + 2 by omega]
        generalize hN (b :: r) k = x
        generalize hN (b :: r) (k + 2) = y
        split <;> omega
theorem hN_top (l : List UInt8) (i : Nat) (h : l.length ≤ i) : hN l i = l.count 62 := by rw [hN, List.take_of_length_le h]
theorem hN_low : ∀ (l : List UInt8) (i : Nat), i ≤ l.length → i + l.count 62 ≤ hN l i + l.length
  | l, 0, _ => by rw [hN_zero]; have := List.count_le_length (a := (62 : UInt8)) (l := l); omega
  | [], i + 1, h => by simp at h
  | a :: l, i + 1, h => by
    have ih := hN_low l i (by simpa using h)
    rw [hN_cons, List.count_cons, List.length_cons]
    simp only [beq_iff_eq]
    split <;> omega
theorem hN_le : ∀ (l : List UInt8) (i : Nat), hN l i ≤ i
  | l, i => by have := List.count_le_length (a := (62 : UInt8)) (l := l.take i); simp only [List.length_take] at this; unfold hN; omega
theorem hN_cnt (l : List UInt8) (i : Nat) : hN l i ≤ l.count 62 := by unfold hN; exact List.Sublist.count_le _ (List.take_sublist i l)
theorem twk_count : ∀ (l : List UInt8) (b : UInt8), (twk l).count b = l.count b
  | [], _ => rfl
  | [a], _ => rfl
  | a :: b :: r, c => by
    rw [twk]
    split
    · next h => obtain ⟨rfl, rfl⟩ := h; simp only [List.count_cons, twk_count r c]; omega
    · simp only [List.count_cons, twk_count (b :: r) c]
theorem hN_bound (n q : Nat) : ∀ (t : Nat) (l : List UInt8) (c : Int), l.all sgn = true → l.length = n → l.count 62 + q = n →
    (∀ i, i ≤ n → 2 * (hN l i : Int) ≤ max 0 (max (2 * ((i : Int) - q)) (i + c))) → ∀ i, i ≤ n → 2 * (hN (twn t l) i : Int) ≤ max 0 (max (2 * ((i : Int) - q)) (i - t + c))
  | 0, l, c, _, _, _, h, i, hi => by have := h i hi; simp only [twn]; omega
  | t + 1, l, c, hs, hl, hq, h, i, hi => by
    have := hN_bound n q t (twk l) (c - 1) (twk_sgn l hs) (by rw [twk_len, hl]) (by rw [twk_count, hq]) (fun j hj => by
      rcases Nat.eq_zero_or_pos j with rfl | h0
      · rw [hN_zero]; omega
      rcases Nat.lt_or_ge j n with h1 | h1
      · rw [hN_tick l hs j h0 (by omega)]
        have a1 := h (j - 1) (by omega)
        have a2 := h (j + 1) (by omega)
        omega
      · rw [hN_top _ _ (by rw [twk_len]; omega), twk_count]; omega) i hi
    rw [twn]
    omega
theorem twn_count : ∀ (t : Nat) (l : List UInt8) (b : UInt8), (twn t l).count b = l.count b
  | 0, _, _ => rfl
  | t + 1, l, b => by rw [twn, twn_count t, twk_count]
theorem fac_hN : ∀ (l : List UInt8), fac l = true → ∃ i, 1 ≤ i ∧ i < l.length ∧ hN l i = hN l (i - 1) + 1 ∧ hN l (i + 1) = hN l i
  | [], h => by simp [fac] at h
  | [a], h => by simp [fac] at h
  | a :: b :: r, h => by
    by_cases hc : a = 62 ∧ b = 60
    · obtain ⟨rfl, rfl⟩ := hc
      exact ⟨1, by omega, by simp, by simp [hN_cons, hN_zero], by simp [hN_cons, hN_zero]⟩
    · rw [fac, decide_eq_false hc, Bool.false_or] at h
      obtain ⟨i, h1, h2, h3, h4⟩ := fac_hN (b :: r) h
      refine ⟨i + 1, by omega, by simp at h2 ⊢; omega, ?_, ?_⟩
      · obtain ⟨j, rfl⟩ : ∃ j, i = j + 1 := ⟨i - 1, by omega⟩
        rw [show j + 1 + 1 - 1 = j + 1 by omega, hN_cons, hN_cons a (b :: r) j, h3]
        simp only [Nat.add_sub_cancel]
        omega
      · have e1 := hN_cons a (b :: r) (i + 1)
        have e2 := hN_cons a (b :: r) i
        rw [e1, e2, h4]
/-- A row of n soldiers is at rest behind n - 1 ticks. -/
theorem rest_fast (l : List UInt8) (hs : l.all sgn = true) (h1 : 1 ≤ l.length) : fac (twn (l.length - 1) l) = false := by
  have hr := List.count_le_length (a := (62 : UInt8)) (l := l)
  have tl : ∀ (t : Nat) (l : List UInt8), (twn t l).length = l.length := fun t => by
    induction t with
    | zero => intro l; rfl
    | succ t ih => intro l; rw [twn, ih, twk_len]
  cases hf : fac (twn (l.length - 1) l) with
  | false => rfl
  | true =>
    obtain ⟨i, i1, i2, i3, i4⟩ := fac_hN _ hf
    rw [tl] at i2
    have hb := hN_bound l.length (l.length - l.count 62) (l.length - 1) l (l.count 62) hs rfl (by omega) (fun j hj => by
      have a1 := hN_le l j
      have a2 := hN_cnt l j
      omega) i (by omega)
    have lo := hN_low (twn (l.length - 1) l) (i + 1) (by rw [tl]; omega)
    rw [tl, twn_count] at lo
    omega
theorem rst_twn : ∀ (t f : Nat) (l : List UInt8), fac (twn t l) = false → (rst f l).2 ≤ t
  | t, 0, l, _ => by simp [rst]
  | 0, f + 1, l, h => by rw [twn] at h; rw [rst, if_neg (by simp [h])]; exact Nat.le_refl _
  | t + 1, f + 1, l, h => by
    rw [rst]
    split
    · have := rst_twn t f (twk l) h; simp only; omega
    · simp
theorem rst_n (f : Nat) (l : List UInt8) (hs : l.all sgn = true) (h1 : 1 ≤ l.length) : (rst f l).2 + 1 ≤ l.length := by
  have := rst_twn _ f l (rest_fast l hs h1); omega

end Go.Proofs.YtolalphffodkdaaGreatDoor.Pl
end
section
namespace Go.Proofs.YtolalphffodkdaaGreatDoor.Pl
open Go.RowKit Go.Proofs.YtolalphffodkdaaGreatDoorW.PrintWords Go.Proofs.YtolalphffodkdaaGreatDoorW.PrintMore Go.Proofs.YtolalphffodkdaaGreatDoor.Opn
set_option linter.unusedVariables false
set_option linter.unusedSimpArgs false
end Go.Proofs.YtolalphffodkdaaGreatDoor.Pl
end
section
namespace Go.Proofs.YtolalphffodkdaaGreatDoor.Pl
open Go.RowKit Go.Proofs.YtolalphffodkdaaGreatDoorW.PrintWords Go.Proofs.YtolalphffodkdaaGreatDoorW.PrintMore Go.Proofs.YtolalphffodkdaaGreatDoor.Opn
set_option linter.unusedVariables false
set_option linter.unusedSimpArgs false
open Go.Lib
/-- A soldier turns. -/
def flp (b : UInt8) : UInt8 := if b = 60 then 62 else 60
theorem sgn_is {b : UInt8} (h : sgn b = true) : b = 60 ∨ b = 62 := by simpa [sgn] using h
theorem flp_flp {b : UInt8} (h : sgn b = true) : flp (flp b) = b := by
  rcases sgn_is h with rfl | rfl <;> decide
theorem flp_ne {b : UInt8} (h : sgn b = true) : flp b ≠ b := by
  rcases sgn_is h with rfl | rfl <;> decide
theorem flp_sgn (b : UInt8) : sgn (flp b) = true := by unfold flp; split <;> decide
theorem map_flp : ∀ (l : List UInt8), l.all sgn = true → mapD (fun x => 122 - x) l = l.map flp
  | [], _ => rfl
  | b :: l, h => by
    simp only [List.all_cons, Bool.and_eq_true] at h
    have hb : b.toNat < 128 := by rcases sgn_is h.1 with rfl | rfl <;> decide
    rw [mapD_step _ _ (by simp), decodeL_ascii b l hb]
    simp only [List.drop_succ_cons, List.drop_zero, List.map_cons]
    rw [map_flp l h.2]
    rcases sgn_is h.1 with rfl | rfl <;> rfl
end Go.Proofs.YtolalphffodkdaaGreatDoor.Pl
end
section
namespace Go.Proofs.YtolalphffodkdaaGreatDoor.Pl
open Go.RowKit Go.Proofs.YtolalphffodkdaaGreatDoorW.PrintWords Go.Proofs.YtolalphffodkdaaGreatDoorW.PrintMore Go.Proofs.YtolalphffodkdaaGreatDoor.Opn
set_option linter.unusedVariables false
set_option linter.unusedSimpArgs false
/-- How many pairs, near or far, of whom the left one looks to the right and the right one to the left. -/
def inv : List UInt8 → Nat
  | [] => 0
  | a :: r => (if a = 62 then r.count 60 else 0) + inv r
theorem inv_tick : ∀ (n : Nat) (l : List UInt8) (o : Nat), l.length ≤ n → inv (twk l) + (prs o l).length = inv l
  | _, [], o, _ => by simp [prs, twk]
  | _, [a], o, _ => by simp [prs, twk]
  | 0, a :: b :: r, o, h => by simp at h
  | n + 1, a :: b :: r, o, h => by
    by_cases c : a = 62 ∧ b = 60
    · obtain ⟨rfl, rfl⟩ := c
      have ih := inv_tick n r (o + 2) (by simp at h; omega)
      have e : prs (o + 1) (60 :: r) = prs (o + 2) r := by
        cases r with
        | nil => rfl
        | cons c r => rw [prs, if_neg (by rintro ⟨h, _⟩; exact absurd h (by decide))]
      rw [twk_hit, prs, if_pos ⟨rfl, rfl⟩, e]
      have hc := twk_count r 60
      simp only [inv, List.length_cons, List.count_cons, hc]
      simp
      omega
    · have ih := inv_tick n (b :: r) (o + 1) (by simpa using h)
      rw [twk, if_neg c, prs, if_neg c]
      have hc := twk_count (b :: r) 60
      have e : inv (a :: twk (b :: r)) = (if a = 62 then (twk (b :: r)).count 60 else 0) + inv (twk (b :: r)) := rfl
      have e2 : inv (a :: b :: r) = (if a = 62 then (b :: r).count 60 else 0) + inv (b :: r) := rfl
      rw [e, e2, hc]; omega
theorem inv_rest : ∀ (l : List UInt8), l.all sgn = true → fac l = false → inv l = 0
  | [], _, _ => rfl
  | [a], _, _ => by simp [inv]
  | a :: b :: r, hs, hf => by
    simp only [List.all_cons, Bool.and_eq_true] at hs
    rw [fac, Bool.or_eq_false_iff, decide_eq_false_iff_not] at hf
    have ih := inv_rest (b :: r) (by simp [hs.2]) hf.2
    have e2 : inv (a :: b :: r) = (if a = 62 then (b :: r).count 60 else 0) + inv (b :: r) := rfl
    rw [e2, ih]
    by_cases ha : a = 62
    · rw [if_pos ha]
      have hb : b = 62 := by
        rcases sgn_or hs.2.1 with h | h
        · exact absurd ⟨ha, h⟩ hf.1
        · exact h
      have e3 : inv (b :: r) = (if b = 62 then r.count 60 else 0) + inv r := rfl
      rw [ih, if_pos hb] at e3
      rw [List.count_cons, hb]
      simp; omega
    · rw [if_neg ha]
/-- How many pairs turn in f ticks. -/
def ttl : Nat → List UInt8 → Nat
  | 0, _ => 0
  | f + 1, l => if fac l = true then (prs 0 l).length + ttl f (twk l) else 0
theorem ttl_inv : ∀ (f : Nat) (l : List UInt8), l.all sgn = true → wt l ≤ f → ttl f l = inv l
  | 0, l, hs, hw => by
    have hf : fac l = false := by
      rw [← Bool.not_eq_true]; intro hf; have := (wt_le l).2 hf; omega
    rw [inv_rest l hs hf]; rfl
  | f + 1, l, hs, hw => by
    rw [ttl]
    by_cases hf : fac l = true
    · have := (wt_le l).2 hf
      rw [if_pos hf, ttl_inv f (twk l) (twk_sgn l hs) (by omega)]
      have := inv_tick l.length l 0 (Nat.le_refl _)
      omega
    · rw [if_neg hf]
      rw [Bool.not_eq_true] at hf
      exact (inv_rest l hs hf).symm
theorem rst_ttl : ∀ (f : Nat) (l : List UInt8), (rst f l).2 ≤ ttl f l
  | 0, l => by simp [rst]
  | f + 1, l => by
    rw [rst, ttl]
    split
    · next h =>
      have := rst_ttl f (twk l)
      have hp : (prs 0 l).length ≠ 0 := by
        intro e
        have := (prs_nil l 0).mp (List.eq_nil_of_length_eq_zero e)
        rw [this] at h; exact absurd h (by decide)
      simp only; omega
    · simp
/-- A row behind one tick, place by place. -/
theorem twk_at : ∀ (n : Nat) (l : List UInt8) (i : Nat), l.length ≤ n → (twk l)[i]? = if l[i]? = some 62 ∧ l[i + 1]? = some 60 then some 60 else if l[i]? = some 60 ∧ 1 ≤ i ∧ l[i - 1]? = some 62 then some 62 else l[i]?
  | _, [], i, _ => by simp [twk]
  | _, [a], i, _ => by
    simp only [twk]
    rcases i with _ | i
    · simp
    · simp
  | 0, a :: b :: r, i, h => by simp at h
  | n + 1, a :: b :: r, i, h => by
    by_cases c : a = 62 ∧ b = 60
    · obtain ⟨rfl, rfl⟩ := c
      rw [twk_hit]
      match i with
      | 0 => simp
      | 1 => simp
      | k + 2 =>
        have ih := twk_at n r k (by simp at h; omega)
        simp only [List.getElem?_cons_succ]
        rw [ih]
        by_cases c1 : r[k]? = some 62 ∧ r[k + 1]? = some 60
        · rw [if_pos c1, if_pos c1]
        · rw [if_neg c1, if_neg c1]
          rcases k with _ | k
          · have : ¬ (r[0]? = some 60 ∧ 1 ≤ 0 ∧ r[0 - 1]? = some 62) := by omega
            rw [if_neg this, if_neg (by simp)]
          · have e : k + 1 + 2 - 1 = k + 2 := by omega
            rw [e]
            simp only [List.getElem?_cons_succ, Nat.add_sub_cancel]
            by_cases c2 : r[k + 1]? = some 60 ∧ r[k]? = some 62
            · rw [if_pos ⟨c2.1, by omega, c2.2⟩, if_pos ⟨c2.1, by omega, c2.2⟩]
            · rw [if_neg (fun x => c2 ⟨x.1, x.2.2⟩), if_neg (fun x => c2 ⟨x.1, x.2.2⟩)]
    · rw [twk, if_neg c]
      match i with
      | 0 =>
        have : ¬ ((a :: b :: r)[0]? = some 62 ∧ (a :: b :: r)[0 + 1]? = some 60) := by simpa using c
        rw [if_neg this, if_neg (by omega)]; simp
      | k + 1 =>
        have ih := twk_at n (b :: r) k (by simpa using h)
        have e1 : (a :: twk (b :: r))[k + 1]? = (twk (b :: r))[k]? := by simp
        have e2 : (a :: b :: r)[k + 1]? = (b :: r)[k]? := by simp
        have e3 : (a :: b :: r)[k + 1 + 1]? = (b :: r)[k + 1]? := by simp
        rw [e1, e2, e3, ih]
        by_cases c1 : (b :: r)[k]? = some 62 ∧ (b :: r)[k + 1]? = some 60
        · rw [if_pos c1, if_pos c1]
        · rw [if_neg c1, if_neg c1, Nat.add_sub_cancel]
          rcases k with _ | k
          · have n1 : ¬ ((b :: r)[0]? = some 60 ∧ 1 ≤ 0 ∧ (b :: r)[0 - 1]? = some 62) := by omega
            have n2 : ¬ ((b :: r)[0]? = some 60 ∧ 1 ≤ 0 + 1 ∧ (a :: b :: r)[0]? = some 62) := by
              rintro ⟨x, _, y⟩
              simp at x y
              exact c ⟨y, x⟩
            rw [if_neg n1, if_neg n2]
          · have e4 : (a :: b :: r)[k + 1]? = (b :: r)[k]? := by simp
            rw [e4, Nat.add_sub_cancel]
            by_cases c2 : (b :: r)[k + 1]? = some 60 ∧ (b :: r)[k]? = some 62
            · rw [if_pos ⟨c2.1, by omega, c2.2⟩, if_pos ⟨c2.1, by omega, c2.2⟩]
            · rw [if_neg (fun x => c2 ⟨x.1, x.2.2⟩), if_neg (fun x => c2 ⟨x.1, x.2.2⟩)]
theorem prs_at : ∀ (l : List UInt8) (o : Nat) (x : Int), x ∈ prs o l ↔ ∃ i : Nat, x = (o : Int) + i ∧ l[i]? = some 62 ∧ l[i + 1]? = some 60
  | [], o, x => by simp [prs]
  | [a], o, x => by
    simp only [prs, List.not_mem_nil, false_iff]
    rintro ⟨i, _, h1, h2⟩
    rcases i with _ | i <;> simp at h2
  | a :: b :: r, o, x => by
    have ih := prs_at (b :: r) (o + 1) x
    have e : x ∈ prs o (a :: b :: r) ↔ (x = (o : Int) ∧ a = 62 ∧ b = 60) ∨ x ∈ prs (o + 1) (b :: r) := by
      rw [prs]
      by_cases c : a = 62 ∧ b = 60
      · rw [if_pos c, List.mem_cons]
        exact ⟨fun h => h.imp (fun y => ⟨y, c⟩) id, fun h => h.imp (fun y => y.1) id⟩
      · rw [if_neg c]
        exact ⟨.inr, fun h => h.resolve_left (fun y => c y.2)⟩
    rw [e, ih]
    constructor
    · rintro (⟨h1, h2, h3⟩ | ⟨i, h1, h2, h3⟩)
      · exact ⟨0, by omega, by simp [h2], by simp [h3]⟩
      · exact ⟨i + 1, by omega, by simpa using h2, by simpa using h3⟩
    · rintro ⟨i, h1, h2, h3⟩
      rcases i with _ | i
      · left
        simp at h2 h3
        exact ⟨by omega, h2, h3⟩
      · right
        exact ⟨i, by omega, by simpa using h2, by simpa using h3⟩
/-- A row in a mirror. -/
def mir (l : List UInt8) : List UInt8 := (l.map flp).reverse
theorem mir_len (l : List UInt8) : (mir l).length = l.length := by simp [mir]
theorem mir_at (l : List UInt8) (i : Nat) (h : i < l.length) : (mir l)[i]? = (l[l.length - 1 - i]?).map flp := by
  unfold mir
  rw [List.getElem?_reverse (by simpa using h), List.getElem?_map, List.length_map]
theorem mir_sgn (l : List UInt8) : (mir l).all sgn = true := by
  rw [List.all_eq_true]
  intro x hx
  unfold mir at hx
  rw [List.mem_reverse, List.mem_map] at hx
  obtain ⟨b, _, rfl⟩ := hx
  exact flp_sgn b
theorem mir_mir (l : List UInt8) (hs : l.all sgn = true) : mir (mir l) = l := by
  unfold mir
  rw [List.map_reverse, List.reverse_reverse, List.map_map]
  have : ∀ b ∈ l, (flp ∘ flp) b = b := fun b hb => flp_flp (List.all_eq_true.1 hs b hb)
  rw [List.map_congr_left this, List.map_id']
theorem flp62 (b : UInt8) : flp b = 62 ↔ b = 60 := by
  unfold flp
  by_cases h : b = 60
  · rw [if_pos h]; simp [h]
  · rw [if_neg h]; simp [h]
theorem flp60 {b : UInt8} (h : sgn b = true) : flp b = 60 ↔ b = 62 := by
  rcases sgn_or h with rfl | rfl <;> decide
theorem twk_mir (l : List UInt8) (hs : l.all sgn = true) : twk (mir l) = mir (twk l) := by
  apply List.ext_getElem?
  intro i
  by_cases hi : i < l.length
  · have hj : l.length - 1 - i < l.length := by omega
    have sj : ∀ j b, l[j]? = some b → sgn b = true := fun j b hb => List.all_eq_true.1 hs b (List.mem_of_getElem? hb)
    rw [twk_at _ _ i (Nat.le_refl _), mir_at (twk l) i (by rw [twk_len]; exact hi), twk_len, twk_at _ l _ (Nat.le_refl _), mir_at l i hi]
    have hx : ∃ b, l[l.length - 1 - i]? = some b := ⟨_, List.getElem?_eq_getElem hj⟩
    obtain ⟨b, hb⟩ := hx
    have sb := sj _ b hb
    have up1 : (mir l)[i + 1]? = some 60 ↔ 1 ≤ l.length - 1 - i ∧ l[l.length - 1 - i - 1]? = some 62 := by
      by_cases h1 : i + 1 < l.length
      · rw [mir_at l (i + 1) h1, show l.length - 1 - (i + 1) = l.length - 1 - i - 1 by omega]
        obtain ⟨c, hc⟩ : ∃ c, l[l.length - 1 - i - 1]? = some c := ⟨_, List.getElem?_eq_getElem (by omega)⟩
        rw [hc]
        simp only [Option.map_some, Option.some.injEq]
        rw [flp60 (sj _ c hc)]
        exact ⟨fun h => ⟨by omega, h⟩, fun h => h.2⟩
      · rw [List.getElem?_eq_none (by rw [mir_len]; omega)]
        exact ⟨fun h => absurd h (by simp), fun h => by omega⟩
    have dn1 : (1 ≤ i ∧ (mir l)[i - 1]? = some 62) ↔ l[l.length - 1 - i + 1]? = some 60 := by
      by_cases h1 : 1 ≤ i
      · rw [mir_at l (i - 1) (by omega), show l.length - 1 - (i - 1) = l.length - 1 - i + 1 by omega]
        obtain ⟨c, hc⟩ : ∃ c, l[l.length - 1 - i + 1]? = some c := ⟨_, List.getElem?_eq_getElem (by omega)⟩
        rw [hc]
        simp only [Option.map_some, Option.some.injEq]
        rw [flp62]
        exact ⟨fun h => h.2, fun h => ⟨h1, h⟩⟩
      · rw [List.getElem?_eq_none (show l.length ≤ l.length - 1 - i + 1 by omega)]
        exact ⟨fun h => absurd h.1 h1, fun h => absurd h (by simp)⟩
    simp only [up1, hb, Option.map_some, Option.some.injEq, flp62, flp60 sb]
    rcases sgn_or sb with rfl | rfl
    · -- b = 60
      rw [if_neg (show ¬ ((60 : UInt8) = 62 ∧ l[l.length - 1 - i + 1]? = some 60) by rintro ⟨h, _⟩; exact absurd h (by decide))]
      by_cases c1 : 1 ≤ l.length - 1 - i ∧ l[l.length - 1 - i - 1]? = some 62
      · rw [if_pos ⟨rfl, c1⟩, if_pos ⟨rfl, c1⟩]; rfl
      · rw [if_neg (fun h => c1 h.2), if_neg (by rintro ⟨h, _⟩; exact absurd h (by decide)), if_neg (fun h => c1 h.2)]; rfl
    · -- b = 62
      rw [if_neg (show ¬ ((62 : UInt8) = 60 ∧ 1 ≤ l.length - 1 - i ∧ l[l.length - 1 - i - 1]? = some 62) by rintro ⟨h, _⟩; exact absurd h (by decide))]
      by_cases c1 : l[l.length - 1 - i + 1]? = some 60
      · rw [if_pos ⟨rfl, dn1.2 c1⟩, if_pos ⟨rfl, c1⟩]; rfl
      · rw [if_neg (fun h => c1 (dn1.1 h.2)), if_neg (fun h => c1 h.2), if_neg (by rintro ⟨h, _⟩; exact absurd h (by decide))]; rfl
  · rw [List.getElem?_eq_none (by rw [twk_len, mir_len]; omega), List.getElem?_eq_none (by rw [mir_len, twk_len]; omega)]
theorem fac_prs0 (l : List UInt8) : fac l = true ↔ ∃ i : Nat, l[i]? = some 62 ∧ l[i + 1]? = some 60 := by
  have h := prs_nil l 0
  constructor
  · intro hf
    have hne : prs 0 l ≠ [] := fun e => by rw [h.mp e] at hf; exact absurd hf (by decide)
    obtain ⟨x, hx⟩ := List.exists_mem_of_ne_nil _ hne
    obtain ⟨i, _, h1, h2⟩ := (prs_at l 0 x).1 hx
    exact ⟨i, h1, h2⟩
  · rintro ⟨i, h1, h2⟩
    cases hf : fac l
    · have e := h.mpr hf
      have : (i : Int) ∈ prs 0 l := (prs_at l 0 _).2 ⟨i, by omega, h1, h2⟩
      rw [e] at this; simp at this
    · rfl
theorem fac_mir (l : List UInt8) (hs : l.all sgn = true) : fac (mir l) = fac l := by
  have one : ∀ l : List UInt8, l.all sgn = true → fac l = true → fac (mir l) = true := by
    intro l hs h
    obtain ⟨i, h1, h2⟩ := (fac_prs0 l).1 h
    have hi : i + 1 < l.length := by
      rcases Nat.lt_or_ge (i + 1) l.length with h | h
      · exact h
      · rw [List.getElem?_eq_none h] at h2; exact absurd h2 (by simp)
    refine (fac_prs0 _).2 ⟨l.length - 2 - i, ?_, ?_⟩
    · rw [mir_at l _ (by omega), show l.length - 1 - (l.length - 2 - i) = i + 1 by omega, h2]; rfl
    · rw [mir_at l _ (by omega), show l.length - 1 - (l.length - 2 - i + 1) = i by omega, h1]; rfl
  cases h : fac l
  · cases h2 : fac (mir l)
    · rfl
    · have := one (mir l) (mir_sgn l) h2
      rw [mir_mir l hs, h] at this; exact absurd this (by decide)
  · exact one l hs h
theorem rst_mir : ∀ (f : Nat) (l : List UInt8), l.all sgn = true → (rst f (mir l)).2 = (rst f l).2
  | 0, _, _ => rfl
  | f + 1, l, hs => by
    rw [rst, rst, fac_mir l hs, twk_mir l hs]
    split
    · simp only; rw [rst_mir f (twk l) (twk_sgn l hs)]
    · rfl
/-- A row at rest: all who look to the left, then all who look to the right. -/
theorem rest_form : ∀ (l : List UInt8), l.all sgn = true → fac l = false → l = List.replicate (l.length - l.count 62) 60 ++ List.replicate (l.count 62) 62
  | [], _, _ => rfl
  | a :: r, hs, hf => by
    have hs2 : sgn a = true ∧ r.all sgn = true := by simpa using hs
    have hf2 : fac r = false := by
      cases r with
      | nil => rfl
      | cons b r => rw [fac, Bool.or_eq_false_iff] at hf; exact hf.2
    have ih := rest_form r hs2.2 hf2
    have hc := List.count_le_length (l := r) (a := (62 : UInt8))
    rcases sgn_or hs2.1 with rfl | rfl
    · have e : (60 :: r).count 62 = r.count 62 := by simp
      rw [e, List.length_cons, show r.length + 1 - r.count 62 = (r.length - r.count 62) + 1 by omega, List.replicate_succ, List.cons_append, ← ih]
    · have i0 := inv_rest (62 :: r) hs hf
      have e2 : inv (62 :: r) = (if (62 : UInt8) = 62 then r.count 60 else 0) + inv r := rfl
      rw [if_pos rfl, i0] at e2
      have h60 : r.count 60 = 0 := by omega
      have all62 : ∀ b ∈ r, b = 62 := by
        intro b hb
        rcases sgn_or (List.all_eq_true.1 hs2.2 b hb) with h | h
        · exfalso
          have := List.count_pos_iff.2 (h ▸ hb)
          omega
        · exact h
      have er : r = List.replicate r.length 62 := List.eq_replicate_iff.2 ⟨rfl, all62⟩
      have ec : r.count 62 = r.length := by
        have := List.count_replicate_self (a := (62 : UInt8)) (n := r.length)
        rw [← er] at this; exact this
      have e : (62 :: r).count 62 = r.length + 1 := by simp [ec]
      rw [e, List.length_cons, Nat.sub_self, List.replicate_succ, ← er]; rfl

end Go.Proofs.YtolalphffodkdaaGreatDoor.Pl
end
section
namespace Go.Proofs.YtolalphffodkdaaGreatDoor.Pl
open Go.RowKit Go.Proofs.YtolalphffodkdaaGreatDoorW.PrintWords Go.Proofs.YtolalphffodkdaaGreatDoorW.PrintMore Go.Proofs.YtolalphffodkdaaGreatDoor.Opn
set_option linter.unusedVariables false
set_option linter.unusedSimpArgs false
theorem rg_len {l : List UInt8} (h : rgood l = true) : 1 ≤ l.length ∧ l.length ≤ 60 := by
  unfold rgood at h; rw [Bool.and_eq_true, decide_eq_true_eq] at h; exact h.1
theorem rg_all {l : List UInt8} (h : rgood l = true) : l.all sgn = true := by
  unfold rgood at h; rw [Bool.and_eq_true] at h; exact h.2
theorem rg_mk {l : List UInt8} (h : 1 ≤ l.length ∧ l.length ≤ 60) (h2 : l.all sgn = true) : rgood l = true := by
  unfold rgood; rw [Bool.and_eq_true, decide_eq_true_eq]; exact ⟨h, h2⟩
theorem rg_twk {l : List UInt8} (h : rgood l = true) : rgood (twk l) = true := rg_mk (by rw [twk_len]; exact rg_len h) (twk_sgn l (rg_all h))
theorem rg_mir {l : List UInt8} (h : rgood l = true) : rgood (mir l) = true := rg_mk (by rw [mir_len]; exact rg_len h) (mir_sgn l)
theorem inv_le : ∀ l : List UInt8, inv l ≤ l.length * l.length
  | [] => Nat.le_refl _
  | a :: r => by
    have := inv_le r
    have hc := List.count_le_length (l := r) (a := (60 : UInt8))
    have e2 : inv (a :: r) = (if a = 62 then r.count 60 else 0) + inv r := rfl
    have : (if a = 62 then r.count 60 else 0) ≤ r.length := by split <;> omega
    have : (r.length + 1) * (r.length + 1) = r.length * r.length + r.length + r.length + 1 := by rw [Nat.mul_add, Nat.add_mul]; omega
    rw [e2, List.length_cons]; omega
theorem rst_rest : ∀ (f : Nat) (l : List UInt8), wt l ≤ f → fac (rst f l).1 = false
  | 0, l, h => by
    rw [rst]; rw [← Bool.not_eq_true]; intro hf; have := (wt_le l).2 hf; omega
  | f + 1, l, h => by
    rw [rst]
    by_cases hf : fac l = true
    · rw [if_pos hf]; have := (wt_le l).2 hf; exact rst_rest f (twk l) (by omega)
    · rw [if_neg hf]; exact Bool.not_eq_true _ ▸ hf
theorem rst_len : ∀ (f : Nat) (l : List UInt8), (rst f l).1.length = l.length
  | 0, l => rfl
  | f + 1, l => by
    rw [rst]; split
    · show (rst f (twk l)).1.length = _; rw [rst_len f, twk_len]
    · rfl
theorem rst_sgn : ∀ (f : Nat) (l : List UInt8), l.all sgn = true → (rst f l).1.all sgn = true
  | 0, l, h => h
  | f + 1, l, h => by
    rw [rst]; split
    · exact rst_sgn f (twk l) (twk_sgn l h)
    · exact h
theorem rst_count : ∀ (f : Nat) (l : List UInt8) (b : UInt8), (rst f l).1.count b = l.count b
  | 0, l, b => rfl
  | f + 1, l, b => by
    rw [rst]; split
    · show (rst f (twk l)).1.count b = _; rw [rst_count f, twk_count]
    · rfl
theorem rst_zero (f : Nat) (l : List UInt8) (h : wt l ≤ f) : ((rst f l).2 = 0) ↔ fac l = false := by
  cases f with
  | zero => rw [rst]; exact ⟨fun _ => by rw [← Bool.not_eq_true]; intro hf; have := (wt_le l).2 hf; omega, fun _ => rfl⟩
  | succ f =>
    rw [rst]; split
    · next hf => rw [hf]; simp
    · next hf => rw [Bool.not_eq_true] at hf; simp [hf]
theorem rst_more : ∀ (f g : Nat) (l : List UInt8), wt l ≤ f → f ≤ g → rst g l = rst f l
  | 0, g, l, h, _ => by
    have hf : fac l = false := by rw [← Bool.not_eq_true]; intro hf; have := (wt_le l).2 hf; omega
    cases g with
    | zero => rfl
    | succ g => rw [rst, rst, if_neg (by simp [hf])]
  | f + 1, 0, l, _, hg => by omega
  | f + 1, g + 1, l, h, hg => by
    rw [rst, rst]; split
    · next hf => have := (wt_le l).2 hf; rw [rst_more f g (twk l) (by omega) (by omega)]
    · rfl
theorem rst_next (f : Nat) (l : List UInt8) (h : wt l ≤ f) (hf : fac l = true) : (rst f l).2 = (rst f (twk l)).2 + 1 := by
  have hw := (wt_le l).2 hf
  cases f with
  | zero => omega
  | succ f => rw [rst, if_pos hf]; show (rst f (twk l)).2 + 1 = _; rw [rst_more f (f + 1) (twk l) (by omega) (by omega)]
theorem rst_fix (f : Nat) (l : List UInt8) (h : wt l ≤ f) : fac l = false ↔ l = (rst f l).1 := by
  constructor
  · intro hf
    cases f with
    | zero => rfl
    | succ f => rw [rst, if_neg (by simp [hf])]
  · intro e; rw [e]; exact rst_rest f l h
/-- Turns of each soldier, told tick by tick. -/
def tof : Nat → List UInt8 → List Int → List Int
  | 0, _, o => o
  | f + 1, l, o => if fac l = true then tof f (twk l) ((prs 0 l).foldl bump o) else o
theorem fold_len (ps : List Int) : ∀ o : List Int, (ps.foldl bump o).length = o.length := by
  induction ps with
  | nil => intro o; rfl
  | cons p ps ih => intro o; rw [List.foldl_cons, ih, bump_len]
theorem tof_len : ∀ (f : Nat) (l : List UInt8) (o : List Int), (tof f l o).length = o.length
  | 0, _, _ => rfl
  | f + 1, l, o => by
    rw [tof]; split
    · rw [tof_len f, fold_len]
    · rfl
theorem sum_set : ∀ (o : List Int) (j : Nat) (v : Int), j < o.length → (o.set j v).sum = o.sum - o.getD j 0 + v
  | [], j, v, h => by simp at h
  | x :: o, 0, v, h => by simp; omega
  | x :: o, j + 1, v, h => by
    have := sum_set o j v (by simpa using h)
    simp only [List.set_cons_succ, List.sum_cons, List.getD_cons_succ, this]; omega
theorem sum_setr (o : List Int) (j v : Int) (h0 : 0 ≤ j) (h : j < o.length) : (o.set j.toNat v).sum = o.sum - rd o j + v := sum_set o j.toNat v (by omega)
theorem sum_bump (o : List Int) (j : Int) (h0 : 0 ≤ j) (h1 : j + 1 < o.length) (hb : ∀ q, 0 ≤ rd o q ∧ rd o q ≤ 4000000000000) : (bump o j).sum = o.sum + 2 := by
  have b0 := hb j
  have b1 := hb (j + 1)
  have e0 : ∀ v, rd (o.set j.toNat v) (j + 1) = rd o (j + 1) := fun v => by rw [rd_set o j (j + 1) v h0 (by omega) (by omega), if_neg (by omega)]
  unfold bump
  rw [sum_setr _ (j + 1) _ (by omega) (by simp; omega), e0, sum_setr o j _ h0 (by omega), wrap64_id (x := rd o j + 1) (by omega) (by omega), wrap64_id (x := rd o (j + 1) + 1) (by omega) (by omega)]
  omega
theorem rd_neg (o : List Int) (q : Int) (h : q < 0) : rd o q = rd o 0 := by simp [rd, Int.toNat_of_nonpos (Int.le_of_lt h)]
theorem bump_le (o : List Int) (j : Int) (B : Int) (h0 : 0 ≤ j) (h1 : j + 1 < o.length) (hB : B ≤ 4000000000000) (hb : ∀ q, 0 ≤ rd o q ∧ rd o q ≤ B) : ∀ q, 0 ≤ rd (bump o j) q ∧ rd (bump o j) q ≤ B + 1 := by
  have e0 : ∀ v, rd (o.set j.toNat v) (j + 1) = rd o (j + 1) := fun v => by rw [rd_set o j (j + 1) v h0 (by omega) (by omega), if_neg (by omega)]
  have pos : ∀ q, 0 ≤ q → 0 ≤ rd (bump o j) q ∧ rd (bump o j) q ≤ B + 1 := by
    intro q hq
    have b0 := hb j
    have b1 := hb (j + 1)
    have b2 := hb q
    unfold bump
    rw [e0, rd_set _ (j + 1) q _ (by omega) (by simp; omega) hq, rd_set o j q _ h0 (by omega) hq, wrap64_id (x := rd o j + 1) (by omega) (by omega), wrap64_id (x := rd o (j + 1) + 1) (by omega) (by omega)]
    split
    · omega
    · split <;> omega
  intro q
  by_cases h : 0 ≤ q
  · exact pos q h
  · rw [rd_neg _ q (by omega)]; exact pos 0 (Int.le_refl _)
theorem sum_fold : ∀ (ps : List Int) (o : List Int) (B : Int), (∀ p ∈ ps, 0 ≤ p ∧ p + 1 < o.length) → B + ps.length ≤ 4000000000000 → (∀ q, 0 ≤ rd o q ∧ rd o q ≤ B) →
    (ps.foldl bump o).sum = o.sum + 2 * (ps.length : Int) ∧ ∀ q, 0 ≤ rd (ps.foldl bump o) q ∧ rd (ps.foldl bump o) q ≤ B + ps.length
  | [], o, B, _, _, hq => ⟨by simp, fun q => by have := hq q; simp; omega⟩
  | p :: ps, o, B, hp, hB, hq => by
    have h1 := hp p (by simp)
    simp only [List.length_cons] at hB
    have hb := bump_le o p B h1.1 h1.2 (by omega) hq
    have hs := sum_bump o p h1.1 h1.2 (fun q => by have := hq q; omega)
    obtain ⟨e1, e2⟩ := sum_fold ps (bump o p) (B + 1) (fun x hx => by rw [bump_len]; exact hp x (by simp [hx])) (by omega) hb
    rw [List.foldl_cons, List.length_cons]
    refine ⟨by rw [e1, hs]; push_cast; omega, fun q => ?_⟩
    have := e2 q
    push_cast; omega
theorem sum_tof : ∀ (f : Nat) (l : List UInt8) (o : List Int) (B : Int), l.length ≤ 1000 → o.length = l.length → B + 1000 * (f : Int) ≤ 3000000000000 → (∀ q, 0 ≤ rd o q ∧ rd o q ≤ B) →
    (tof f l o).sum = o.sum + 2 * (ttl f l : Int) ∧ ∀ q, 0 ≤ rd (tof f l o) q ∧ rd (tof f l o) q ≤ B + 1000 * (f : Int)
  | 0, l, o, B, _, _, _, hq => ⟨by simp [tof, ttl], fun q => by have := hq q; rw [tof]; omega⟩
  | f + 1, l, o, B, hl, ho, hB, hq => by
    rw [tof, ttl]
    split
    · have hpl := prs_len l 0
      have hpp := sum_fold (prs 0 l) o B (fun p hp => by have := prs_ge l 0 p hp; omega) (by omega) hq
      obtain ⟨e1, e2⟩ := sum_tof f (twk l) ((prs 0 l).foldl bump o) (B + 1000) (by rw [twk_len]; exact hl) (by rw [fold_len, twk_len]; exact ho) (by push_cast at hB; omega) (fun q => by have := hpp.2 q; omega)
      refine ⟨by rw [e1, hpp.1]; push_cast; omega, fun q => ?_⟩
      have := e2 q
      push_cast; omega
    · exact ⟨by simp, fun q => by have := hq q; push_cast; omega⟩
/-- The number of a row: how many rows come before it. -/
def num : List UInt8 → Nat → Nat
  | [], a => a
  | b :: r, a => num r (2 * a + if b = 62 then 1 else 0)
theorem num_app : ∀ (l : List UInt8) (b : UInt8) (a : Nat), num (l ++ [b]) a = 2 * num l a + if b = 62 then 1 else 0
  | [], b, a => rfl
  | x :: l, b, a => by rw [List.cons_append, num, num_app l b]; rfl
theorem num_mk : ∀ (n m : Nat), m < 2 ^ n → num (mk n m) 0 = m
  | 0, m, h => by simp at h; subst h; rfl
  | n + 1, m, h => by
    rw [Nat.pow_succ] at h
    rw [mk, num_app, num_mk n (m / 2) (by omega)]
    unfold sgnOf
    rcases Nat.mod_two_eq_zero_or_one m with e | e <;> rw [e] <;> simp <;> omega
theorem mk_num : ∀ (l : List UInt8) (n a : Nat), l.all sgn = true → mk (n + l.length) (num l a) = mk n a ++ l
  | [], n, a, _ => by simp [num]
  | b :: r, n, a, h => by
    have hs : sgn b = true ∧ r.all sgn = true := by simpa using h
    rw [num, List.length_cons, show n + (r.length + 1) = (n + 1) + r.length by omega, mk_num r (n + 1) _ hs.2, mk]
    have e1 : (2 * a + if b = 62 then 1 else 0) / 2 = a := by split <;> omega
    have e2 : sgnOf ((2 * a + if b = 62 then 1 else 0) % 2) = b := by
      rcases sgn_or hs.1 with rfl | rfl
      · rw [if_neg (by decide)]; unfold sgnOf; rw [if_neg (by omega)]
      · rw [if_pos rfl]; unfold sgnOf; rw [if_pos (by omega)]
    rw [e1, e2, List.append_assoc]; rfl
theorem num_lt : ∀ (l : List UInt8) (n a : Nat), a < 2 ^ n → num l a < 2 ^ (n + l.length)
  | [], n, a, h => h
  | b :: r, n, a, h => by
    rw [num, List.length_cons, show n + (r.length + 1) = (n + 1) + r.length by omega]
    refine num_lt r (n + 1) _ ?_
    rw [Nat.pow_succ]; split <;> omega
theorem two60 {n : Nat} (h : n ≤ 60) : 2 ^ n ≤ 1152921504606846976 := Nat.pow_le_pow_right (by omega) h
theorem tick_at (l : List UInt8) (hs : l.all sgn = true) (i : Nat) (h : i < l.length) (h' : i < (twk l).length) : (decide ((twk l)[i] ≠ l[i])) = (decide ((i : Int) ∈ prs 0 l) || decide ((i : Int) - 1 ∈ prs 0 l)) := by
  have e := twk_at l.length l i (Nat.le_refl _)
  rw [List.getElem?_eq_getElem h', List.getElem?_eq_getElem h] at e
  have p0 : ((i : Int) ∈ prs 0 l) ↔ (l[i] = 62 ∧ l[i + 1]? = some 60) := by
    rw [prs_at]
    constructor
    · rintro ⟨j, e1, e2, e3⟩
      have : j = i := by omega
      subst this
      rw [List.getElem?_eq_getElem h] at e2
      exact ⟨Option.some.inj e2, e3⟩
    · rintro ⟨e2, e3⟩; exact ⟨i, by omega, by rw [List.getElem?_eq_getElem h, e2], e3⟩
  have p1 : ((i : Int) - 1 ∈ prs 0 l) ↔ (1 ≤ i ∧ l[i - 1]? = some 62 ∧ l[i] = 60) := by
    rw [prs_at]
    constructor
    · rintro ⟨j, e1, e2, e3⟩
      have : j = i - 1 := by omega
      subst this
      rw [show i - 1 + 1 = i by omega, List.getElem?_eq_getElem h] at e3
      exact ⟨by omega, e2, Option.some.inj e3⟩
    · rintro ⟨e1, e2, e3⟩; exact ⟨i - 1, by omega, e2, by rw [show i - 1 + 1 = i by omega, List.getElem?_eq_getElem h, e3]⟩
  have hn : ¬ (l[i] = 62 ∧ l[i] = 60) := fun ⟨a, b⟩ => by rw [a] at b; exact absurd b (by decide)
  by_cases c0 : l[i] = 62 ∧ l[i + 1]? = some 60
  · rw [if_pos ⟨by rw [c0.1], c0.2⟩] at e
    have e := Option.some.inj e
    rw [decide_eq_true (p0.2 c0), Bool.true_or, decide_eq_true_eq, e, c0.1]; decide
  · rw [if_neg (fun c => c0 ⟨Option.some.inj c.1, c.2⟩)] at e
    rw [decide_eq_false (fun c => c0 (p0.1 c)), Bool.false_or]
    by_cases c1 : 1 ≤ i ∧ l[i - 1]? = some 62 ∧ l[i] = 60
    · rw [if_pos ⟨by rw [c1.2.2], c1.1, c1.2.1⟩] at e
      have e := Option.some.inj e
      rw [decide_eq_true (p1.2 c1), decide_eq_true_eq, e, c1.2.2]; decide
    · rw [if_neg (fun c => c1 ⟨c.2.1, c.2.2, Option.some.inj c.1⟩)] at e
      have e := Option.some.inj e
      rw [decide_eq_false (fun c => c1 (p1.1 c)), e]; simp
theorem prs_get (l : List UInt8) (x : Int) (hx : x ∈ prs 0 l) : ∃ i : Nat, x = i ∧ ∃ h : i + 1 < l.length, l[i]'(by omega) = 62 ∧ l[i + 1] = 60 := by
  obtain ⟨i, e1, e2, e3⟩ := (prs_at l 0 x).1 hx
  have h : i + 1 < l.length := by
    rcases Nat.lt_or_ge (i + 1) l.length with h | h
    · exact h
    · rw [List.getElem?_eq_none h] at e3; exact absurd e3 (by simp)
  refine ⟨i, by omega, h, ?_, ?_⟩
  · rw [List.getElem?_eq_getElem (by omega)] at e2; exact Option.some.inj e2
  · rw [List.getElem?_eq_getElem h] at e3; exact Option.some.inj e3
theorem prs_twk (l : List UInt8) (i : Nat) (h : i + 1 < l.length) (h1 : l[i]'(by omega) = 62) (h2 : l[i + 1] = 60) : (twk l)[i]'(by rw [twk_len]; omega) = 60 ∧ (twk l)[i + 1]'(by rw [twk_len]; omega) = 62 := by
  have e1 := twk_at l.length l i (Nat.le_refl _)
  have e2 := twk_at l.length l (i + 1) (Nat.le_refl _)
  rw [List.getElem?_eq_getElem (by rw [twk_len]; omega), if_pos ⟨by rw [List.getElem?_eq_getElem (by omega), h1], by rw [List.getElem?_eq_getElem h, h2]⟩] at e1
  rw [List.getElem?_eq_getElem (by rw [twk_len]; omega), if_neg (by rw [List.getElem?_eq_getElem h, h2]; rintro ⟨c, _⟩; exact absurd c (by decide)), if_pos ⟨by rw [List.getElem?_eq_getElem h, h2], by omega, by rw [show i + 1 - 1 = i by omega, List.getElem?_eq_getElem (by omega), h1]⟩] at e2
  exact ⟨Option.some.inj e1, Option.some.inj e2⟩
theorem prs_lt (l : List UInt8) (o : Nat) : (prs o l).Pairwise (· < ·) := (prs_sparse l o).imp fun h => by omega
/-- The row at rest, as it is built sign by sign. -/
def gl (l : List UInt8) : List UInt8 := List.replicate (l.length - l.count 62) 60 ++ List.replicate (l.count 62) 62
theorem gl_len (l : List UInt8) : (gl l).length = l.length := by
  have := List.count_le_length (l := l) (a := (62 : UInt8))
  simp [gl]; omega
theorem gl_get (l : List UInt8) (i : Nat) (h : i < (gl l).length) : (gl l)[i] = if i < l.length - l.count 62 then 60 else 62 := by
  have h' : i < (List.replicate (l.length - l.count 62) (60 : UInt8) ++ List.replicate (l.count 62) (62 : UInt8)).length := h
  show (List.replicate (l.length - l.count 62) (60 : UInt8) ++ List.replicate (l.count 62) (62 : UInt8))[i]'h' = _
  rw [List.getElem_append]
  split
  · next c => rw [List.length_replicate] at c; rw [if_pos c, List.getElem_replicate]
  · next c => rw [List.length_replicate] at c; rw [if_neg c, List.getElem_replicate]
theorem gl_rest (f : Nat) (l : List UInt8) (hs : l.all sgn = true) (hw : wt l ≤ f) : (rst f l).1 = gl l := by
  have := rest_form (rst f l).1 (rst_sgn f l hs) (rst_rest f l hw)
  rw [rst_len, rst_count] at this
  exact this
end Go.Proofs.YtolalphffodkdaaGreatDoor.Pl
end
