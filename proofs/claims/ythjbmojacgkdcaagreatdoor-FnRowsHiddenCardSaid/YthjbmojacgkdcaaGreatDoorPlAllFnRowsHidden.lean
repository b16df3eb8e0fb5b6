/- Plain facts: Base, List, Clue, Bytes, Tick, Row, Val, Mk, Rest. No condition. -/
import Derived.RowKit
import Derived.Test.YthjbmojacgkdcaaGreatDoorWWords
import Derived.Test.YthjbmojacgkdcaaGreatDoorWMore
import Derived.Test.YthjbmojacgkdcaaGreatDoorOpn
import Derived.Laws.Strings
import Derived.Lib.ReplaceLaws
import Derived.Lib.SlTrimSet
import Derived.Lib.RabinKarpLaws
section
namespace Go.Proofs.YthjbmojacgkdcaaGreatDoor.Pl
open Go.RowKit Go.Proofs.YthjbmojacgkdcaaGreatDoorW.PrintWords Go.Proofs.YthjbmojacgkdcaaGreatDoorW.PrintMore Go.Proofs.YthjbmojacgkdcaaGreatDoor.Opn
set_option linter.unusedVariables false
set_option linter.unusedSimpArgs false
theorem wrap64_id {x : Int} (h : -9223372036854775808 ≤ x) (h' : x ≤ 9223372036854775807) : wrap64 x = x := by unfold wrap64; omega
theorem Ev.succ {α : Type} {g : Nat → Option α} {r : α} (h : Ev (fun k => g (k + 1)) r) : Ev g r := Ev.step (fun _ => rfl) h
theorem Ev.const {α : Type} {x : Option α} {r : α} (h : x = some r) : Ev (fun _ => x) r := ⟨0, fun _ _ => h⟩
theorem Ev.pos {α : Type} {c : Prop} [Decidable c] {g f : Nat → Option α} {r : α} (hc : c) (h : Ev g r) : Ev (fun k => if c then g k else f k) r := by
  simp only [if_pos hc]; exact h
theorem Ev.neg {α : Type} {c : Prop} [Decidable c] {g f : Nat → Option α} {r : α} (hc : ¬ c) (h : Ev f r) : Ev (fun k => if c then g k else f k) r := by
  simp only [if_neg hc]; exact h
theorem Ev.iff {α : Type} {c : Prop} [Decidable c] {g f : Nat → Option α} {r : α} (h : c → Ev g r) (h' : ¬ c → Ev f r) : Ev (fun k => if c then g k else f k) r := by
  by_cases hc : c
  · exact Ev.pos hc (h hc)
  · exact Ev.neg hc (h' hc)
theorem Ev.get {α : Type} {g : Nat → Option α} {r : α} (h : Ev g r) : ∃ k, g k = some r := Ev.rounds h
theorem tdiv_nn {a b : Int} (h : 0 ≤ a) : Int.tdiv a b = a / b := Int.tdiv_eq_ediv_of_nonneg h
theorem tmod_nn {a b : Int} (h : 0 ≤ a) : Int.tmod a b = a % b := Int.tmod_eq_emod_of_nonneg h
end Go.Proofs.YthjbmojacgkdcaaGreatDoor.Pl
end
section
namespace Go.Proofs.YthjbmojacgkdcaaGreatDoor.Pl
open Go.RowKit Go.Proofs.YthjbmojacgkdcaaGreatDoorW.PrintWords Go.Proofs.YthjbmojacgkdcaaGreatDoorW.PrintMore Go.Proofs.YthjbmojacgkdcaaGreatDoor.Opn
set_option linter.unusedVariables false
set_option linter.unusedSimpArgs false
theorem rd_cons_drop {l : List Int} {j : Nat} (h : j < l.length) : l.drop j = rd l (j : Int) :: l.drop (j + 1) := by
  rw [List.drop_eq_getElem_cons h]
  congr 1
  simp [rd, h]
theorem rd_mem {l : List Int} {j : Nat} (h : j < l.length) : rd l (j : Int) ∈ l := by
  simp [rd, h]
/-- What a copying loop has so far. -/
def cpy {α : Type} (z : α) (l : List α) (i : Nat) : List α := l.take i ++ List.replicate (l.length - i) z
theorem cpy_zero {α : Type} (z : α) (l : List α) : cpy z l 0 = List.replicate l.length z := by simp [cpy]
theorem cpy_all {α : Type} (z : α) (l : List α) : cpy z l l.length = l := by simp [cpy]
theorem cpy_len {α : Type} (z : α) (l : List α) (i : Nat) (h : i ≤ l.length) : (cpy z l i).length = l.length := by simp [cpy]; omega
theorem cpy_succ {α : Type} (z : α) (l : List α) (i : Nat) (h : i < l.length) : (cpy z l i).set i l[i] = cpy z l (i + 1) := by
  have e : List.replicate (l.length - i) z = z :: List.replicate (l.length - (i + 1)) z := by
    rw [show l.length - i = (l.length - (i + 1)) + 1 by omega]; rfl
  unfold cpy
  rw [e, List.set_append_right _ _ (by simp; omega), List.length_take, Nat.min_eq_left (by omega), Nat.sub_self, List.set_cons_zero, List.take_succ_eq_append_getElem h, List.append_assoc]
  rfl
end Go.Proofs.YthjbmojacgkdcaaGreatDoor.Pl
end
section
namespace Go.Proofs.YthjbmojacgkdcaaGreatDoor.Pl
open Go.RowKit Go.Proofs.YthjbmojacgkdcaaGreatDoorW.PrintWords Go.Proofs.YthjbmojacgkdcaaGreatDoorW.PrintMore Go.Proofs.YthjbmojacgkdcaaGreatDoor.Opn
set_option linter.unusedVariables false
set_option linter.unusedSimpArgs false
/-- Is there a clue of rows of n soldiers? -/
def cok (n k a b c : Int) : Bool :=
  if k = 0 then decide (0 ≤ a ∧ a ≤ n - 1) && (decide (0 ≤ b ∧ b ≤ 20) && decide (0 ≤ c ∧ c ≤ 1))
  else if k = 1 then decide (a = 0) && (decide (b = 0) && decide (0 ≤ c ∧ c ≤ n))
  else if k = 2 then decide (a = 0) && (decide (b = 0) && decide (0 ≤ c ∧ c ≤ 20))
  else if k = 3 then decide (a = 0) && (decide (b = 0) && decide (0 ≤ c ∧ c ≤ 8))
  else if k = 4 then decide (0 ≤ a ∧ a ≤ n - 1) && (decide (b = 0) && decide (0 ≤ c ∧ c ≤ 20))
  else false
theorem ite_and (p q : Bool) : (if p = true then some q else some false) = some (p && q) := by cases p <;> rfl
theorem ite_dec (p : Prop) [Decidable p] (q : Bool) : (if p then some q else some false) = some (decide p && q) := by by_cases h : p <;> simp [h]
end Go.Proofs.YthjbmojacgkdcaaGreatDoor.Pl
end
section
namespace Go.Proofs.YthjbmojacgkdcaaGreatDoor.Pl
open Go.RowKit Go.Proofs.YthjbmojacgkdcaaGreatDoorW.PrintWords Go.Proofs.YthjbmojacgkdcaaGreatDoorW.PrintMore Go.Proofs.YthjbmojacgkdcaaGreatDoor.Opn
set_option linter.unusedVariables false
set_option linter.unusedSimpArgs false
/-- A text's bytes. -/
abbrev L (s : ByteArray) : List UInt8 := s.data.toList
theorem size_L (s : ByteArray) : s.size = (L s).length := by rw [Array.length_toList]; rfl
theorem toList_L (s : ByteArray) : s.toList = L s := ByteArray.toList_eq s
theorem L_mk (l : List UInt8) : L ⟨l.toArray⟩ = l := by simp [L]
theorem mk_L (s : ByteArray) : (⟨(L s).toArray⟩ : ByteArray) = s := by cases s; simp [L]
theorem L_inj {s t : ByteArray} (h : L s = L t) : s = t := by rw [← mk_L s, ← mk_L t, h]
theorem bt_nat (s : ByteArray) (i : Nat) (h : i < (L s).length) : bt s (i : Int) = (((L s)[i]).toNat : Int) := by
  have h' : i < s.size := by rw [size_L]; exact h
  simp only [bt, Int.toNat_natCast, dif_pos h']
  rfl
theorem u8_eq (b c : UInt8) : ((b.toNat : Int) = (c.toNat : Int)) ↔ b = c := by
  constructor
  · intro h; exact UInt8.toNat_inj.1 (by omega)
  · rintro rfl; rfl
theorem bt_is (s : ByteArray) (i : Nat) (h : i < (L s).length) (c : UInt8) : (bt s (i : Int) = (c.toNat : Int)) ↔ (L s)[i] = c := by rw [bt_nat s i h, u8_eq]
end Go.Proofs.YthjbmojacgkdcaaGreatDoor.Pl
end
section
namespace Go.Proofs.YthjbmojacgkdcaaGreatDoor.Pl
open Go.RowKit Go.Proofs.YthjbmojacgkdcaaGreatDoorW.PrintWords Go.Proofs.YthjbmojacgkdcaaGreatDoorW.PrintMore Go.Proofs.YthjbmojacgkdcaaGreatDoor.Opn
set_option linter.unusedVariables false
set_option linter.unusedSimpArgs false
open Go.Lib
/-- A row's bytes: each looks to one side. -/
def sgn (b : UInt8) : Bool := b == 60 || b == 62
/-- One tick. -/
def twk : List UInt8 → List UInt8
  | [] => []
  | [a] => [a]
  | a :: b :: r => if a = 62 ∧ b = 60 then 60 :: 62 :: twk r else a :: twk (b :: r)
theorem twk_hit (r : List UInt8) : twk (62 :: 60 :: r) = 60 :: 62 :: twk r := by rw [twk, if_pos ⟨rfl, rfl⟩]
theorem twk_miss {a : UInt8} {l : List UInt8} (h : ¬ ([62, 60] : List UInt8).isPrefixOf (a :: l) = true) : twk (a :: l) = a :: twk l := by
  cases l with
  | nil => rfl
  | cons b r =>
    rw [twk, if_neg]
    rintro ⟨rfl, rfl⟩
    exact h (by simp [List.isPrefixOf])
theorem pre_of {l : List UInt8} (h : ([62, 60] : List UInt8).isPrefixOf l = true) : ∃ r, l = 62 :: 60 :: r := by
  match l, h with
  | [], h => simp [List.isPrefixOf] at h
  | [a], h => simp [List.isPrefixOf] at h
  | a :: b :: r, h =>
    simp [List.isPrefixOf] at h
    obtain ⟨rfl, rfl⟩ := h
    exact ⟨r, rfl⟩
theorem twk_index : ∀ (s : List UInt8) (i : Nat), index s [62, 60] = i → twk s = s.take i ++ [60, 62] ++ twk (s.drop (i + 2))
  | [], i, h => by simp [index] at h
  | a :: l, i, h => by
    unfold index at h
    by_cases hp : ([62, 60] : List UInt8).isPrefixOf (a :: l) = true
    · rw [if_pos hp] at h
      obtain rfl : i = 0 := by omega
      obtain ⟨r, e⟩ := pre_of hp
      rw [e, twk_hit]
      rfl
    · rw [if_neg hp] at h
      by_cases hm : (index l [62, 60] == -1) = true
      · rw [if_pos hm] at h; omega
      · rw [if_neg hm] at h
        obtain ⟨j, rfl⟩ : ∃ j, i = j + 1 := ⟨i - 1, by have := index_ge l [62, 60]; have : index l [62, 60] ≠ -1 := fun e => hm (by simp [e]); omega⟩
        rw [twk_miss hp, twk_index l j (by omega)]
        rfl
theorem twk_none : ∀ (s : List UInt8), index s [62, 60] = -1 → twk s = s
  | [], h => rfl
  | a :: l, h => by
    unfold index at h
    by_cases hp : ([62, 60] : List UInt8).isPrefixOf (a :: l) = true
    · rw [if_pos hp] at h; omega
    · rw [if_neg hp] at h
      by_cases hm : (index l [62, 60] == -1) = true
      · rw [twk_miss hp, twk_none l (by simpa using hm)]
      · rw [if_neg hm] at h
        have := index_ge l [62, 60]
        have : index l [62, 60] ≠ -1 := fun e => hm (by simp [e])
        omega
theorem replaceK_twk : ∀ (n : Nat) (s : List UInt8), s.length ≤ n → replaceK [62, 60] [60, 62] (count s [62, 60]) s = twk s
  | n, s, hn => by
    by_cases h : index s [62, 60] = -1
    · rw [count_miss h, twk_none s h]; rfl
    · have hg := index_ge s [62, 60]
      obtain ⟨i, hi⟩ : ∃ i : Nat, index s [62, 60] = i := ⟨(index s [62, 60]).toNat, by omega⟩
      have hr := index_room s [62, 60] (by omega)
      simp only [List.length_cons, List.length_nil] at hr
      have hi' := hi
      rw [count_hit (by simp) hi, Nat.add_comm, replaceK_hit _ _ _ _ _ hi, twk_index s i hi]
      simp only [List.length_cons, List.length_nil, Nat.zero_add]
      match n with
      | 0 => rw [hi] at hr; omega
      | n + 1 =>
        rw [show i + (1 + 1) = i + 2 from rfl, replaceK_twk n (s.drop (i + 2)) (by simp; omega)]
theorem replaceAll_twk (s : List UInt8) : replaceAll s [62, 60] [60, 62] = twk s := by
  unfold replaceAll replace replaceNum
  rw [if_neg (by decide), if_pos (by left; decide)]
  exact replaceK_twk s.length s (Nat.le_refl _)
/-- Do two stand face to face? -/
def fac : List UInt8 → Bool
  | [] => false
  | [_] => false
  | a :: b :: r => (decide (a = 62 ∧ b = 60)) || fac (b :: r)
theorem fac_index : ∀ (s : List UInt8), Lib.contains s [62, 60] = fac s
  | [] => rfl
  | [a] => by
    unfold Lib.contains index
    rw [if_neg (by simp [List.isPrefixOf])]
    simp [index, fac]
  | a :: b :: r => by
    have ih := fac_index (b :: r)
    unfold Lib.contains at ih ⊢
    rw [index, fac, ← ih]
    by_cases hp : ([62, 60] : List UInt8).isPrefixOf (a :: b :: r) = true
    · rw [if_pos hp]
      obtain ⟨r', e⟩ := pre_of hp
      injection e with e1 e2
      injection e2 with e2 _
      simp [e1, e2]
    · rw [if_neg hp]
      have hn : decide (a = 62 ∧ b = 60) = false := by
        rw [decide_eq_false_iff_not]
        rintro ⟨rfl, rfl⟩
        exact hp (by simp [List.isPrefixOf])
      rw [hn, Bool.false_or]
      have hg := index_ge (b :: r) [62, 60]
      by_cases hm : (index (b :: r) [62, 60] == -1) = true
      · rw [if_pos hm]
        have : index (b :: r) [62, 60] = -1 := by simpa using hm
        rw [this]
      · rw [if_neg hm]
        have : index (b :: r) [62, 60] ≠ -1 := fun e => hm (by simp [e])
        rw [decide_eq_true (by omega), decide_eq_true (by omega)]
theorem twk_rest : ∀ (s : List UInt8), fac s = false → twk s = s
  | [], _ => rfl
  | [a], _ => rfl
  | a :: b :: r, h => by
    rw [fac, Bool.or_eq_false_iff, decide_eq_false_iff_not] at h
    rw [twk, if_neg h.1, twk_rest (b :: r) h.2]
theorem twk_len : ∀ (s : List UInt8), (twk s).length = s.length
  | [] => rfl
  | [a] => rfl
  | a :: b :: r => by
    rw [twk]
    split
    · simp [twk_len r]
    · simp [twk_len (b :: r)]
theorem twk_sgn : ∀ (s : List UInt8), s.all sgn = true → (twk s).all sgn = true
  | [], _ => rfl
  | [a], h => h
  | a :: b :: r, h => by
    rw [twk]
    simp only [List.all_cons, Bool.and_eq_true] at h
    split
    · simp only [List.all_cons, Bool.and_eq_true]; exact ⟨rfl, rfl, twk_sgn r h.2.2⟩
    · simp only [List.all_cons, Bool.and_eq_true]; exact ⟨h.1, twk_sgn (b :: r) (by simp [h.2])⟩
/-- How far those who look to the right are from the end, together. -/
def wt : List UInt8 → Nat
  | [] => 0
  | a :: r => (if a = 62 then r.length else 0) + wt r
theorem wt_le : ∀ (s : List UInt8), wt (twk s) ≤ wt s ∧ (fac s = true → wt (twk s) < wt s)
  | [] => ⟨Nat.le_refl _, by simp [fac]⟩
  | [a] => ⟨Nat.le_refl _, by simp [fac]⟩
  | a :: b :: r => by
    by_cases h : a = 62 ∧ b = 60
    · obtain ⟨rfl, rfl⟩ := h
      have := (wt_le r).1
      rw [twk_hit]
      simp only [wt, List.length_cons, twk_len]
      simp
      omega
    · have ⟨h1, h2⟩ := wt_le (b :: r)
      rw [twk, if_neg h]
      have e : wt (a :: twk (b :: r)) = (if a = 62 then (b :: r).length else 0) + wt (twk (b :: r)) := by rw [wt, twk_len]
      rw [e, wt]
      refine ⟨by omega, fun hf => ?_⟩
      rw [fac, decide_eq_false h, Bool.false_or] at hf
      have := h2 hf
      omega
theorem wt_sq : ∀ (s : List UInt8), wt s ≤ s.length * s.length
  | [] => Nat.le_refl _
  | a :: r => by
    have := wt_sq r
    simp only [wt, List.length_cons]
    have : (if a = 62 then r.length else 0) ≤ r.length := by split <;> omega
    have : (r.length + 1) * (r.length + 1) = r.length * r.length + r.length + r.length + 1 := by rw [Nat.mul_add, Nat.add_mul]; omega
    omega
/-- The row at rest, and how many ticks lead to it, at most f. -/
def rst : Nat → List UInt8 → List UInt8 × Nat
  | 0, s => (s, 0)
  | f + 1, s => if fac s = true then ((rst f (twk s)).1, (rst f (twk s)).2 + 1) else (s, 0)
/-- The places of those who face the next one. -/
def prs : Nat → List UInt8 → List Int
  | _, [] => []
  | _, [_] => []
  | o, a :: b :: r => if a = 62 ∧ b = 60 then (o : Int) :: prs (o + 1) (b :: r) else prs (o + 1) (b :: r)
theorem prs_ge : ∀ (s : List UInt8) (o : Nat), ∀ x ∈ prs o s, (o : Int) ≤ x ∧ x + 1 < o + s.length
  | [], o, x, h => by simp [prs] at h
  | [a], o, x, h => by simp [prs] at h
  | a :: b :: r, o, x, h => by
    have ih := prs_ge (b :: r) (o + 1)
    rw [prs] at h
    simp only [List.length_cons] at ih ⊢
    split at h
    · rcases List.mem_cons.1 h with rfl | h
      · omega
      · have := ih x h; omega
    · have := ih x h; omega
theorem prs_nil : ∀ (s : List UInt8) (o : Nat), (prs o s = []) = (fac s = false)
  | [], o => by simp [prs, fac]
  | [a], o => by simp [prs, fac]
  | a :: b :: r, o => by
    have ih := prs_nil (b :: r) (o + 1)
    rw [prs, fac]
    by_cases h : a = 62 ∧ b = 60
    · simp [h]
    · rw [if_neg h, decide_eq_false h, Bool.false_or, ih]
theorem prs_len : ∀ (s : List UInt8) (o : Nat), (prs o s).length ≤ s.length
  | [], o => by simp [prs]
  | [a], o => by simp [prs]
  | a :: b :: r, o => by
    have ih := prs_len (b :: r) (o + 1)
    rw [prs]
    simp only [List.length_cons] at ih ⊢
    split
    · simp; omega
    · omega
/-- A row in which the pair at i turns. -/
def trn (s : List UInt8) (i : Int) : List UInt8 := s.take i.toNat ++ [60, 62] ++ s.drop (i.toNat + 2)
theorem trn_app (pre : List UInt8) (r : List UInt8) : trn (pre ++ 62 :: 60 :: r) (pre.length : Int) = pre ++ 60 :: 62 :: r := by
  unfold trn
  rw [Int.toNat_natCast, List.take_left]
  simp [List.drop_append]
theorem fold_trn : ∀ (n : Nat) (s pre : List UInt8), s.length ≤ n → (prs pre.length s).foldl trn (pre ++ s) = pre ++ twk s
  | _, [], pre, _ => rfl
  | _, [a], pre, _ => rfl
  | 0, a :: b :: r, pre, h => by simp at h
  | n + 1, a :: b :: r, pre, h => by
    rw [prs]
    by_cases hc : a = 62 ∧ b = 60
    · obtain ⟨rfl, rfl⟩ := hc
      rw [if_pos ⟨rfl, rfl⟩, List.foldl_cons, trn_app, twk_hit]
      have e : prs (pre.length + 1) (60 :: r) = prs (pre.length + 2) r := by
        cases r with
        | nil => rfl
        | cons c r => rw [prs, if_neg (by rintro ⟨h, _⟩; exact absurd h (by decide))]
      have := fold_trn n r (pre ++ [60, 62]) (by simp at h; omega)
      rw [e]
      simpa using this
    · rw [if_neg hc, twk, if_neg hc]
      have := fold_trn n (b :: r) (pre ++ [a]) (by simpa using h)
      simpa using this
theorem fold_tick (s : List UInt8) : (prs 0 s).foldl trn s = twk s := by
  have := fold_trn s.length s [] (Nat.le_refl _)
  simpa using this
theorem drop_nil {p : UInt8 → Bool} : ∀ {l : List UInt8}, l.dropWhile p = [] ↔ ∀ x ∈ l, p x = true
  | [] => by simp
  | a :: l => by
    rw [List.dropWhile_cons]
    by_cases h : p a = true
    · rw [if_pos h, drop_nil]; simp [h]
    · rw [if_neg h]; simp [h]
theorem trim_sgn' (l : List UInt8) : List.dropWhile sgn (List.dropWhile sgn l.reverse).reverse = [] ↔ l.all sgn = true := by
  rw [drop_nil]
  constructor
  · intro h
    rw [List.all_eq_true]
    by_cases hd : l.reverse.dropWhile sgn = []
    · rw [drop_nil] at hd
      intro x hx
      exact hd x (by simpa using hx)
    · exfalso
      obtain ⟨c, t, hc⟩ := List.exists_cons_of_ne_nil hd
      have h1 := h c (by rw [hc]; simp)
      have h2 : sgn c = false := by
        have := List.head?_dropWhile_not sgn l.reverse
        rw [hc] at this
        simpa using this
      rw [h1] at h2
      exact absurd h2 (by decide)
  · intro h x hx
    have hx' : x ∈ l := by
      have := (List.dropWhile_sublist sgn (l := l.reverse)).subset (List.mem_reverse.1 hx)
      simpa using this
    exact List.all_eq_true.1 h x hx'
/-- Is a row's text one of signs alone? -/
theorem trim_sgn (l : List UInt8) : (Lib.trimS l [60, 62] = []) ↔ l.all sgn = true := by
  have hs : (fun x => ([60, 62] : List UInt8).contains x) = sgn := by
    funext x
    simp [sgn, List.contains, List.elem]
    cases (x == 60) <;> cases (x == 62) <;> rfl
  unfold Lib.trimS Lib.trimLeftS Lib.trimRightS
  rw [show (([60, 62] : List UInt8).contains ·) = sgn from hs]
  exact trim_sgn' l
/-- Is a text a row? -/
def rgood (l : List UInt8) : Bool := decide (1 ≤ l.length ∧ l.length ≤ 60) && l.all sgn
theorem bt60 (s : ByteArray) (i : Nat) (h : i < (L s).length) : (bt s (i : Int) = 60) ↔ (L s)[i] = 60 := bt_is s i h 60
theorem bt62 (s : ByteArray) (i : Nat) (h : i < (L s).length) : (bt s (i : Int) = 62) ↔ (L s)[i] = 62 := bt_is s i h 62
end Go.Proofs.YthjbmojacgkdcaaGreatDoor.Pl
end
section
namespace Go.Proofs.YthjbmojacgkdcaaGreatDoor.Pl
open Go.RowKit Go.Proofs.YthjbmojacgkdcaaGreatDoorW.PrintWords Go.Proofs.YthjbmojacgkdcaaGreatDoorW.PrintMore Go.Proofs.YthjbmojacgkdcaaGreatDoor.Opn
set_option linter.unusedVariables false
set_option linter.unusedSimpArgs false
open Go.Lib
/-- The text of some bytes. -/
abbrev up (l : List UInt8) : ByteArray := ⟨l.toArray⟩
theorem up_L (s : ByteArray) : s = up (L s) := (mk_L s).symm
theorem up_size (l : List UInt8) : (up l).size = l.length := by rw [size_L, L_mk]
theorem up_isize (l : List UInt8) : ((up l).size : Int) = (l.length : Int) := by rw [up_size]
theorem up_bt (l : List UInt8) (i : Nat) (h : i < l.length) (c : UInt8) : (bt (up l) (i : Int) = (c.toNat : Int)) ↔ l[i] = c := by
  rw [bt_is (up l) i (by rw [L_mk]; exact h) c]
theorem up60 (l : List UInt8) (i : Nat) (h : i < l.length) : (bt (up l) (i : Int) = 60) ↔ l[i] = 60 := up_bt l i h 60
theorem up62 (l : List UInt8) (i : Nat) (h : i < l.length) : (bt (up l) (i : Int) = 62) ↔ l[i] = 62 := up_bt l i h 62
theorem up_app (a b : List UInt8) : up a ++ up b = up (a ++ b) := L_inj (by simp [L])
theorem up_take (l : List UInt8) (n : Nat) : (up l).extract 0 n = up (l.take n) := L_inj (by simp [L])
theorem up_drop (l : List UInt8) (n : Nat) : (up l).extract n (up l).size = up (l.drop n) := L_inj (by rw [up_size]; simp [L, List.take_of_length_le])
theorem prs_two (l : List UInt8) (i : Nat) (h : i + 1 < l.length) : prs i (l.drop i) = (if l[i] = 62 ∧ l[i + 1] = 60 then [(i : Int)] else []) ++ prs (i + 1) (l.drop (i + 1)) := by
  have e : l.drop i = l[i] :: l[i + 1] :: l.drop (i + 2) := by rw [List.drop_eq_getElem_cons (by omega), List.drop_eq_getElem_cons h]
  have e2 : l.drop (i + 1) = l[i + 1] :: l.drop (i + 2) := List.drop_eq_getElem_cons h
  rw [e, e2, prs]
  split <;> simp
theorem prs_one (l : List UInt8) (i : Nat) (h : ¬ i + 1 < l.length) : prs i (l.drop i) = [] := by
  have : (l.drop i).length ≤ 1 := by simp; omega
  match hd : l.drop i, this with
  | [], _ => rfl
  | [a], _ => rfl
theorem trn_len (s : List UInt8) (i : Int) (h0 : 0 ≤ i) (h1 : i + 1 < s.length) : (trn s i).length = s.length := by
  unfold trn; simp; omega
theorem prs_sparse : ∀ (s : List UInt8) (o : Nat), (prs o s).Pairwise (fun x y => x + 2 ≤ y)
  | [], o => by simp [prs]
  | [a], o => by simp [prs]
  | a :: b :: r, o => by
    rw [prs]
    split
    · next h =>
      refine List.pairwise_cons.2 ⟨fun y hy => ?_, prs_sparse (b :: r) (o + 1)⟩
      cases r with
      | nil => simp [prs] at hy
      | cons c r =>
        rw [prs, if_neg (by rintro ⟨h1, _⟩; rw [h.2] at h1; exact absurd h1 (by decide))] at hy
        have := prs_ge (c :: r) (o + 1 + 1) y hy
        omega
    · exact prs_sparse (b :: r) (o + 1)
/-- The row behind n ticks. -/
def twn : Nat → List UInt8 → List UInt8
  | 0, l => l
  | n + 1, l => twn n (twk l)
theorem twn_rest : ∀ (n : Nat) (l : List UInt8), fac l = false → twn n l = l
  | 0, _, _ => rfl
  | n + 1, l, h => by rw [twn, twk_rest l h, twn_rest n l h]
theorem twn_len : ∀ (n : Nat) (l : List UInt8), (twn n l).length = l.length
  | 0, _ => rfl
  | n + 1, l => by rw [twn, twn_len n, twk_len]
/-- How often soldier a turns, in f ticks. -/
def trc : Nat → Int → List UInt8 → Int
  | 0, _, _ => 0
  | f + 1, a, l => if fac l = true then (if a ∈ prs 0 l ∨ a - 1 ∈ prs 0 l then 1 else 0) + trc f a (twk l) else 0
theorem trc_bd : ∀ (f : Nat) (a : Int) (l : List UInt8), 0 ≤ trc f a l ∧ trc f a l ≤ f
  | 0, _, _ => by simp [trc]
  | f + 1, a, l => by
    have := trc_bd f a (twk l)
    rw [trc]
    split
    · split <;> omega
    · omega
def bump (o : List Int) (j : Int) : List Int := (o.set j.toNat (wrap64 (rd o j + 1))).set (j + 1).toNat (wrap64 (rd (o.set j.toNat (wrap64 (rd o j + 1))) (j + 1) + 1))
theorem bump_len (o : List Int) (j : Int) : (bump o j).length = o.length := by simp [bump]
theorem rd_set (o : List Int) (j a v : Int) (h0 : 0 ≤ j) (h1 : j < o.length) (ha : 0 ≤ a) : rd (o.set j.toNat v) a = if a = j then v else rd o a := by
  unfold rd
  rw [List.getD_eq_getElem?_getD, List.getElem?_set, List.getD_eq_getElem?_getD]
  by_cases e : a = j
  · subst e
    rw [if_pos rfl, if_pos (by omega), if_pos rfl]; rfl
  · rw [if_neg (by omega), if_neg e]
theorem rd_bump (o : List Int) (j a : Int) (h0 : 0 ≤ j) (h1 : j + 1 < o.length) (ha : 0 ≤ a) (hb : ∀ q, 0 ≤ rd o q ∧ rd o q ≤ 1000000000) : rd (bump o j) a = rd o a + if a = j ∨ a = j + 1 then 1 else 0 := by
  have b0 := hb j
  have b1 := hb (j + 1)
  have e0 : ∀ v, rd (o.set j.toNat v) (j + 1) = rd o (j + 1) := fun v => by rw [rd_set o j (j + 1) v h0 (by omega) (by omega), if_neg (by omega)]
  unfold bump
  rw [e0, rd_set _ (j + 1) a _ (by omega) (by simp; omega) ha, rd_set o j a _ h0 (by omega) ha, wrap64_id (x := rd o j + 1) (by omega) (by omega), wrap64_id (x := rd o (j + 1) + 1) (by omega) (by omega)]
  by_cases e1 : a = j
  · subst e1; rw [if_neg (by omega), if_pos rfl, if_pos (.inl rfl)]
  · by_cases e2 : a = j + 1
    · subst e2; simp
    · simp [e1, e2]
theorem rd_fold : ∀ (ps : List Int) (o : List Int) (B : Int), ps.Pairwise (fun x y => x + 2 ≤ y) → (∀ p ∈ ps, 0 ≤ p ∧ p + 1 < o.length) → 0 ≤ B → B ≤ 900000000 → (∀ p ∈ ps, (0 ≤ rd o p ∧ rd o p ≤ B) ∧ (0 ≤ rd o (p + 1) ∧ rd o (p + 1) ≤ B)) → (∀ q, 0 ≤ rd o q ∧ rd o q ≤ B + 1) →
    ∀ a, 0 ≤ a → rd (ps.foldl bump o) a = rd o a + if a ∈ ps ∨ a - 1 ∈ ps then 1 else 0
  | [], o, B, _, _, _, _, _, _, a, ha => by simp
  | p :: ps, o, B, hp, hl, hB0, hB1, hb, hq, a, ha => by
    obtain ⟨hp1, hp2⟩ := List.pairwise_cons.1 hp
    have ⟨h0, h1⟩ := hl p (by simp)
    have hq' : ∀ q, 0 ≤ rd o q ∧ rd o q ≤ 1000000000 := fun q => by have := hq q; omega
    have hn : ∀ q, q < 0 → rd (bump o p) q = rd (bump o p) 0 := fun q h => by simp [rd, Int.toNat_of_nonpos (Int.le_of_lt h)]
    rw [List.foldl_cons, rd_fold ps (bump o p) B hp2 (fun x hx => by rw [bump_len]; exact hl x (by simp [hx])) hB0 hB1 (fun x hx => ?_) (fun q => ?_) a ha, rd_bump o p a h0 h1 ha hq']
    · simp only [List.mem_cons]
      by_cases c1 : a = p ∨ a = p + 1
      · have n1 : ¬ (a ∈ ps ∨ a - 1 ∈ ps) := by
          rintro (h | h)
          · have := hp1 _ h; omega
          · have := hp1 _ h; omega
        rw [if_pos c1, if_neg n1, if_pos (by omega)]; omega
      · rw [if_neg c1]
        have : ((a = p ∨ a ∈ ps) ∨ (a - 1 = p ∨ a - 1 ∈ ps)) ↔ (a ∈ ps ∨ a - 1 ∈ ps) := by
          constructor
          · rintro ((h | h) | (h | h))
            · omega
            · exact .inl h
            · omega
            · exact .inr h
          · rintro (h | h)
            · exact .inl (.inr h)
            · exact .inr (.inr h)
        simp only [this]
        omega
    · have hx1 := hp1 x hx
      have := hb x (by simp [hx])
      rw [rd_bump o p x h0 h1 (by omega) hq', rd_bump o p (x + 1) h0 h1 (by omega) hq', if_neg (by omega), if_neg (by omega)]
      simpa using this
    · have hp0 := hb p (by simp)
      by_cases hq0 : 0 ≤ q
      · rw [rd_bump o p q h0 h1 hq0 hq']
        have := hq q
        split
        · next h => rcases h with rfl | rfl <;> omega
        · omega
      · rw [hn q (by omega), rd_bump o p 0 h0 h1 (by omega) hq']
        have := hq 0
        split
        · next h => rcases h with h | h
                    · subst h; omega
                    · omega
        · omega
theorem fold_bump_len : ∀ (ps : List Int) (o : List Int), (ps.foldl bump o).length = o.length
  | [], o => rfl
  | p :: ps, o => by rw [List.foldl_cons, fold_bump_len ps, bump_len]
end Go.Proofs.YthjbmojacgkdcaaGreatDoor.Pl
end
section
namespace Go.Proofs.YthjbmojacgkdcaaGreatDoor.Pl
open Go.RowKit Go.Proofs.YthjbmojacgkdcaaGreatDoorW.PrintWords Go.Proofs.YthjbmojacgkdcaaGreatDoorW.PrintMore Go.Proofs.YthjbmojacgkdcaaGreatDoor.Opn
set_option linter.unusedVariables false
set_option linter.unusedSimpArgs false
/-- What a clue of a kind tells of a row, with a soldier and ticks. -/
def val (k a b : Int) (l : List UInt8) : Int :=
  if k = 0 then (if (twn b.toNat l)[a.toNat]? = some 62 then 1 else 0) else if k = 1 then (l.count 62 : Int) else if k = 2 then ((rst 1000000 l).2 : Int) else if k = 3 then ((prs 0 l).length : Int) else trc 1000000 a l
/-- A clue's kind, soldier and ticks are such. -/
def kok (n k a b : Int) : Prop := (k = 0 ∧ (0 ≤ a ∧ a ≤ n - 1) ∧ 0 ≤ b ∧ b ≤ 20) ∨ k = 1 ∨ k = 2 ∨ k = 3 ∨ (k = 4 ∧ 0 ≤ a ∧ a ≤ n - 1)
theorem kok_of {n k a b c : Int} (h : cok n k a b c = true) : kok n k a b := by
  unfold cok at h
  unfold kok
  by_cases h0 : k = 0
  · rw [if_pos h0] at h; simp only [Bool.and_eq_true, decide_eq_true_eq] at h; exact .inl ⟨h0, h.1, h.2.1⟩
  rw [if_neg h0] at h
  by_cases h1 : k = 1
  · exact .inr (.inl h1)
  rw [if_neg h1] at h
  by_cases h2 : k = 2
  · exact .inr (.inr (.inl h2))
  rw [if_neg h2] at h
  by_cases h3 : k = 3
  · exact .inr (.inr (.inr (.inl h3)))
  rw [if_neg h3] at h
  by_cases h4 : k = 4
  · rw [if_pos h4] at h; simp only [Bool.and_eq_true, decide_eq_true_eq] at h; exact .inr (.inr (.inr (.inr ⟨h4, h.1⟩)))
  rw [if_neg h4] at h
  cases h
end Go.Proofs.YthjbmojacgkdcaaGreatDoor.Pl
end
section
namespace Go.Proofs.YthjbmojacgkdcaaGreatDoor.Pl
open Go.RowKit Go.Proofs.YthjbmojacgkdcaaGreatDoorW.PrintWords Go.Proofs.YthjbmojacgkdcaaGreatDoorW.PrintMore Go.Proofs.YthjbmojacgkdcaaGreatDoor.Opn
set_option linter.unusedVariables false
set_option linter.unusedSimpArgs false
def sgnOf (b : Nat) : UInt8 := if b = 1 then 62 else 60
theorem sgn_of (b : Nat) : sgn (sgnOf b) = true := by unfold sgnOf; split <;> rfl
/-- The row of n soldiers with a number. -/
def mk : Nat → Nat → List UInt8
  | 0, _ => []
  | n + 1, m => mk n (m / 2) ++ [sgnOf (m % 2)]
theorem mk_len : ∀ (n m : Nat), (mk n m).length = n
  | 0, _ => rfl
  | n + 1, m => by rw [mk, List.length_append, mk_len n]; rfl
theorem mk_all : ∀ (n m : Nat), (mk n m).all sgn = true
  | 0, _ => rfl
  | n + 1, m => by rw [mk, List.all_append, mk_all n, List.all_cons, sgn_of]; rfl
theorem mk_get : ∀ (n m i : Nat), i < n → (mk n m)[i]? = some (sgnOf (m / 2 ^ (n - 1 - i) % 2))
  | 0, _, _, h => by omega
  | n + 1, m, i, h => by
    rw [mk]
    by_cases e : i = n
    · subst e
      rw [List.getElem?_append_right (by rw [mk_len]; omega), mk_len, Nat.sub_self, show i + 1 - 1 - i = 0 by omega]
      simp
    · rw [List.getElem?_append_left (by rw [mk_len]; omega), mk_get n (m / 2) i (by omega), Nat.div_div_eq_div_mul, show n + 1 - 1 - i = (n - 1 - i) + 1 by omega, Nat.pow_succ, Nat.mul_comm 2]
theorem mk_good (n m : Nat) (h : 1 ≤ n ∧ n ≤ 60) : rgood (mk n m) = true := by
  unfold rgood
  rw [mk_len, mk_all, decide_eq_true h]; rfl
theorem shr_div (m s : Nat) (hs : s ≤ 64) : shr .i64 (m : Int) (s : Int) = ((m / 2 ^ s : Nat) : Int) := by
  unfold shr
  rw [Int.toNat_natCast, show min s IntKind.i64.bits = s from Nat.min_eq_left hs]
  push_cast
  rfl
theorem and1 (x : Nat) (h : x < 9223372036854775808) : Go.bits .and .i64 (x : Int) 1 = ((x % 2 : Nat) : Int) := Go.Proofs.and_one x h
theorem shl_one (n : Nat) (h : n ≤ 60) : shl .i64 1 (n : Int) = ((2 ^ n : Nat) : Int) := by
  unfold shl
  have h64 : IntKind.i64.bits = 64 := rfl
  rw [Int.toNat_natCast, Nat.min_eq_left (by omega), Int.one_mul, show ∀ z, IntKind.i64.wrap z = wrap64 z from fun z => by unfold wrap64; exact IntKind.wrap_i64 z]
  have : 2 ^ n ≤ 2 ^ 60 := Nat.pow_le_pow_right (by omega) h
  have e : ((2 : Int) ^ n) = ((2 ^ n : Nat) : Int) := by push_cast; rfl
  rw [e]
  have h60 : 2 ^ 60 = 1152921504606846976 := by decide
  generalize 2 ^ n = q at this
  rw [wrap64_id (by omega) (by omega)]
def inums (l : List UInt8) : List Int := l.map fun b => (b.toNat : Int)
theorem inums_str (l : List UInt8) : strOfNums (inums l) = up l := by
  apply L_inj
  simp [strOfNums, inums, L, Function.comp_def]
end Go.Proofs.YthjbmojacgkdcaaGreatDoor.Pl
end
section
namespace Go.Proofs.YthjbmojacgkdcaaGreatDoor.Pl
open Go.RowKit Go.Proofs.YthjbmojacgkdcaaGreatDoorW.PrintWords Go.Proofs.YthjbmojacgkdcaaGreatDoorW.PrintMore Go.Proofs.YthjbmojacgkdcaaGreatDoor.Opn
set_option linter.unusedVariables false
set_option linter.unusedSimpArgs false
/-- How many of the first i look to the right. -/
def hN (l : List UInt8) (i : Nat) : Nat := (l.take i).count 62
theorem hN_zero (l : List UInt8) : hN l 0 = 0 := by simp [hN]
theorem hN_cons (a : UInt8) (l : List UInt8) (i : Nat) : hN (a :: l) (i + 1) = (if a = 62 then 1 else 0) + hN l i := by
  simp only [hN, List.take_succ_cons, List.count_cons, beq_iff_eq]; omega
theorem sgn_or {a : UInt8} (h : sgn a = true) : a = 60 ∨ a = 62 := by
  unfold sgn at h; simpa using h
theorem hN_tick : ∀ (l : List UInt8), l.all sgn = true → ∀ i, 1 ≤ i → i < l.length → hN (twk l) i = max (hN l (i - 1)) (hN l (i + 1) - 1)
  | [], _, i, h1, h2 => by simp at h2
  | [a], _, i, h1, h2 => by simp at h2; omega
  | a :: b :: r, hs, i, h1, h2 => by
    simp only [List.all_cons, Bool.and_eq_true] at hs
    obtain ⟨sa, sb, sr⟩ := hs
    by_cases h : a = 62 ∧ b = 60
    · obtain ⟨rfl, rfl⟩ := h
      rw [twk_hit]
      match i, h1, h2 with
      | 1, _, _ => simp [hN_cons, hN_zero]
      | 2, _, h2 =>
        match r, h2 with
        | c :: r, _ => simp only [hN_cons, hN_zero]; simp; split <;> omega
      | k + 3, _, h2 =>
        have ih := hN_tick r sr (k + 1) (by omega) (by simp at h2; omega)
        simp only [Nat.add_sub_cancel] at ih
        rw [show k + 3 - 1 = k + 2 by omega]
        simp only [hN_cons, ih, show k + 1 + 1 = k + 2 by omega]
        generalize hN r (k + 2) = y
        generalize hN r k = x
        simp
        omega
    · rw [twk, if_neg h]
      match i, h1, h2 with
      | 1, _, _ =>
        simp only [hN_cons, hN_zero, Nat.sub_self]
        rcases sgn_or sa with rfl | rfl
        · rcases sgn_or sb with rfl | rfl <;> simp
        · rcases sgn_or sb with rfl | rfl
          · exact absurd ⟨rfl, rfl⟩ h
          · simp
      | k + 2, _, h2 =>
        have ih := hN_tick (b :: r) (by simp [sb, sr]) (k + 1) (by omega) (by simp at h2 ⊢; omega)
        simp only [Nat.add_sub_cancel] at ih
        have e1 := hN_cons a (twk (b :: r)) (k + 1)
        have e2 := hN_cons a (b :: r) k
        have e3 := hN_cons a (b :: r) (k + 2)
        rw [show k + 2 - 1 = k + 1 by omega, e1, e2, show k + 2 + 1 = k + 3 by omega, e3, ih]
        simp only [show k + 1 + 1 = k + 2 by omega]
        generalize hN (b :: r) k = x
        generalize hN (b :: r) (k + 2) = y
        split <;> omega
theorem hN_top (l : List UInt8) (i : Nat) (h : l.length ≤ i) : hN l i = l.count 62 := by rw [hN, List.take_of_length_le h]
theorem hN_low : ∀ (l : List UInt8) (i : Nat), i ≤ l.length → i + l.count 62 ≤ hN l i + l.length
  | l, 0, _ => by rw [hN_zero]; have := List.count_le_length (a := (62 : UInt8)) (l := l); omega
  | [], i + 1, h => by simp at h
  | a :: l, i + 1, h => by
    have ih := hN_low l i (by simpa using h)
    rw [hN_cons, List.count_cons, List.length_cons]
    simp only [beq_iff_eq]
    split <;> omega
theorem hN_le : ∀ (l : List UInt8) (i : Nat), hN l i ≤ i
  | l, i => by have := List.count_le_length (a := (62 : UInt8)) (l := l.take i); simp only [List.length_take] at this; unfold hN; omega
theorem hN_cnt (l : List UInt8) (i : Nat) : hN l i ≤ l.count 62 := by unfold hN; exact List.Sublist.count_le _ (List.take_sublist i l)
theorem twk_count : ∀ (l : List UInt8) (b : UInt8), (twk l).count b = l.count b
  | [], _ => rfl
  | [a], _ => rfl
  | a :: b :: r, c => by
    rw [twk]
    split
    · next h => obtain ⟨rfl, rfl⟩ := h; simp only [List.count_cons, twk_count r c]; omega
    · simp only [List.count_cons, twk_count (b :: r) c]
theorem hN_bound (n q : Nat) : ∀ (t : Nat) (l : List UInt8) (c : Int), l.all sgn = true → l.length = n → l.count 62 + q = n →
    (∀ i, i ≤ n → 2 * (hN l i : Int) ≤ max 0 (max (2 * ((i : Int) - q)) (i + c))) → ∀ i, i ≤ n → 2 * (hN (twn t l) i : Int) ≤ max 0 (max (2 * ((i : Int) - q)) (i - t + c))
  | 0, l, c, _, _, _, h, i, hi => by have := h i hi; simp only [twn]; omega
  | t + 1, l, c, hs, hl, hq, h, i, hi => by
    have := hN_bound n q t (twk l) (c - 1) (twk_sgn l hs) (by rw [twk_len, hl]) (by rw [twk_count, hq]) (fun j hj => by
      rcases Nat.eq_zero_or_pos j with rfl | h0
      · rw [hN_zero]; omega
      rcases Nat.lt_or_ge j n with h1 | h1
      · rw [hN_tick l hs j h0 (by omega)]
        have a1 := h (j - 1) (by omega)
        have a2 := h (j + 1) (by omega)
        omega
      · rw [hN_top _ _ (by rw [twk_len]; omega), twk_count]; omega) i hi
    rw [twn]
    omega
theorem twn_count : ∀ (t : Nat) (l : List UInt8) (b : UInt8), (twn t l).count b = l.count b
  | 0, _, _ => rfl
  | t + 1, l, b => by rw [twn, twn_count t, twk_count]
theorem fac_hN : ∀ (l : List UInt8), fac l = true → ∃ i, 1 ≤ i ∧ i < l.length ∧ hN l i = hN l (i - 1) + 1 ∧ hN l (i + 1) = hN l i
  | [], h => by simp [fac] at h
  | [a], h => by simp [fac] at h
  | a :: b :: r, h => by
    by_cases hc : a = 62 ∧ b = 60
    · obtain ⟨rfl, rfl⟩ := hc
      exact ⟨1, by omega, by simp, by simp [hN_cons, hN_zero], by simp [hN_cons, hN_zero]⟩
    · rw [fac, decide_eq_false hc, Bool.false_or] at h
      obtain ⟨i, h1, h2, h3, h4⟩ := fac_hN (b :: r) h
      refine ⟨i + 1, by omega, by simp at h2 ⊢; omega, ?_, ?_⟩
      · obtain ⟨j, rfl⟩ : ∃ j, i = j + 1 := ⟨i - 1, by omega⟩
        rw [show j + 1 + 1 - 1 = j + 1 by omega, hN_cons, hN_cons a (b :: r) j, h3]
        simp only [Nat.add_sub_cancel]
        omega
      · have e1 := hN_cons a (b :: r) (i + 1)
        have e2 := hN_cons a (b :: r) i
        rw [e1, e2, h4]
/-- A row of n soldiers is at rest behind n - 1 ticks. -/
theorem rest_fast (l : List UInt8) (hs : l.all sgn = true) (h1 : 1 ≤ l.length) : fac (twn (l.length - 1) l) = false := by
  have hr := List.count_le_length (a := (62 : UInt8)) (l := l)
  have tl : ∀ (t : Nat) (l : List UInt8), (twn t l).length = l.length := fun t => by
    induction t with
    | zero => intro l; rfl
    | succ t ih => intro l; rw [twn, ih, twk_len]
  cases hf : fac (twn (l.length - 1) l) with
  | false => rfl
  | true =>
    obtain ⟨i, i1, i2, i3, i4⟩ := fac_hN _ hf
    rw [tl] at i2
    have hb := hN_bound l.length (l.length - l.count 62) (l.length - 1) l (l.count 62) hs rfl (by omega) (fun j hj => by
      have a1 := hN_le l j
      have a2 := hN_cnt l j
      omega) i (by omega)
    have lo := hN_low (twn (l.length - 1) l) (i + 1) (by rw [tl]; omega)
    rw [tl, twn_count] at lo
    omega
theorem rst_twn : ∀ (t f : Nat) (l : List UInt8), fac (twn t l) = false → (rst f l).2 ≤ t
  | t, 0, l, _ => by simp [rst]
  | 0, f + 1, l, h => by rw [twn] at h; rw [rst, if_neg (by simp [h])]; exact Nat.le_refl _
  | t + 1, f + 1, l, h => by
    rw [rst]
    split
    · have := rst_twn t f (twk l) h; simp only; omega
    · simp
theorem trc_rst : ∀ (f : Nat) (a : Int) (l : List UInt8), trc f a l ≤ ((rst f l).2 : Int)
  | 0, _, _ => by simp [trc]
  | f + 1, a, l => by
    have := trc_rst f a (twk l)
    rw [trc, rst]
    split
    · simp only; split <;> omega
    · simp
theorem rst_n (f : Nat) (l : List UInt8) (hs : l.all sgn = true) (h1 : 1 ≤ l.length) : (rst f l).2 + 1 ≤ l.length := by
  have := rst_twn _ f l (rest_fast l hs h1); omega

end Go.Proofs.YthjbmojacgkdcaaGreatDoor.Pl
end
