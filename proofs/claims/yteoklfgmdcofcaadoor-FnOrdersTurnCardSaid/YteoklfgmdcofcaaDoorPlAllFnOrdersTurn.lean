/- Plain facts: Base, List, Bytes, Tick, Ord, Turn. No condition. -/
import Derived.RowKit
import Derived.Test.YteoklfgmdcofcaaDoorWWords
import Derived.Test.YteoklfgmdcofcaaDoorWMore
import Derived.Test.YteoklfgmdcofcaaDoorOpn
import Derived.Laws.Strings
import Derived.Lib.ReplaceLaws
import Derived.Lib.SlTrimSet
import Derived.Lib.MapLaws
import Derived.Lib.TrimAscii
section
namespace Go.Proofs.YteoklfgmdcofcaaDoor.Pl
open Go.RowKit Go.Proofs.YteoklfgmdcofcaaDoorW.PrintWords Go.Proofs.YteoklfgmdcofcaaDoorW.PrintMore Go.Proofs.YteoklfgmdcofcaaDoor.Opn
set_option linter.unusedVariables false
set_option linter.unusedSimpArgs false
theorem wrap64_id {x : Int} (h : -9223372036854775808 ≤ x) (h' : x ≤ 9223372036854775807) : wrap64 x = x := by unfold wrap64; omega
theorem Ev.succ {α : Type} {g : Nat → Option α} {r : α} (h : Ev (fun k => g (k + 1)) r) : Ev g r := Ev.step (fun _ => rfl) h
theorem Ev.const {α : Type} {x : Option α} {r : α} (h : x = some r) : Ev (fun _ => x) r := ⟨0, fun _ _ => h⟩
theorem Ev.pos {α : Type} {c : Prop} [Decidable c] {g f : Nat → Option α} {r : α} (hc : c) (h : Ev g r) : Ev (fun k => if c then g k else f k) r := by
  simp only [if_pos hc]; exact h
theorem Ev.neg {α : Type} {c : Prop} [Decidable c] {g f : Nat → Option α} {r : α} (hc : ¬ c) (h : Ev f r) : Ev (fun k => if c then g k else f k) r := by
  simp only [if_neg hc]; exact h
theorem Ev.iff {α : Type} {c : Prop} [Decidable c] {g f : Nat → Option α} {r : α} (h : c → Ev g r) (h' : ¬ c → Ev f r) : Ev (fun k => if c then g k else f k) r := by
  by_cases hc : c
  · exact Ev.pos hc (h hc)
  · exact Ev.neg hc (h' hc)
theorem Ev.get {α : Type} {g : Nat → Option α} {r : α} (h : Ev g r) : ∃ k, g k = some r := Ev.rounds h
theorem tdiv_nn {a b : Int} (h : 0 ≤ a) : Int.tdiv a b = a / b := Int.tdiv_eq_ediv_of_nonneg h
theorem tmod_nn {a b : Int} (h : 0 ≤ a) : Int.tmod a b = a % b := Int.tmod_eq_emod_of_nonneg h
end Go.Proofs.YteoklfgmdcofcaaDoor.Pl
end
section
namespace Go.Proofs.YteoklfgmdcofcaaDoor.Pl
open Go.RowKit Go.Proofs.YteoklfgmdcofcaaDoorW.PrintWords Go.Proofs.YteoklfgmdcofcaaDoorW.PrintMore Go.Proofs.YteoklfgmdcofcaaDoor.Opn
set_option linter.unusedVariables false
set_option linter.unusedSimpArgs false
theorem rd_cons_drop {l : List Int} {j : Nat} (h : j < l.length) : l.drop j = rd l (j : Int) :: l.drop (j + 1) := by
  rw [List.drop_eq_getElem_cons h]
  congr 1
  simp [rd, h]
theorem rd_mem {l : List Int} {j : Nat} (h : j < l.length) : rd l (j : Int) ∈ l := by
  simp [rd, h]
end Go.Proofs.YteoklfgmdcofcaaDoor.Pl
end
section
namespace Go.Proofs.YteoklfgmdcofcaaDoor.Pl
open Go.RowKit Go.Proofs.YteoklfgmdcofcaaDoorW.PrintWords Go.Proofs.YteoklfgmdcofcaaDoorW.PrintMore Go.Proofs.YteoklfgmdcofcaaDoor.Opn
set_option linter.unusedVariables false
set_option linter.unusedSimpArgs false
/-- A text's bytes. -/
abbrev L (s : ByteArray) : List UInt8 := s.data.toList
theorem size_L (s : ByteArray) : s.size = (L s).length := by rw [Array.length_toList]; rfl
theorem isize_L (s : ByteArray) : (s.size : Int) = ((L s).length : Int) := by rw [size_L]
theorem toList_L (s : ByteArray) : s.toList = L s := ByteArray.toList_eq s
theorem L_mk (l : List UInt8) : L ⟨l.toArray⟩ = l := by simp [L]
theorem mk_L (s : ByteArray) : (⟨(L s).toArray⟩ : ByteArray) = s := by cases s; simp [L]
theorem L_inj {s t : ByteArray} (h : L s = L t) : s = t := by rw [← mk_L s, ← mk_L t, h]
theorem bt_nat (s : ByteArray) (i : Nat) (h : i < (L s).length) : bt s (i : Int) = (((L s)[i]).toNat : Int) := by
  have h' : i < s.size := by rw [size_L]; exact h
  simp only [bt, Int.toNat_natCast, dif_pos h']
  rfl
theorem u8_eq (b c : UInt8) : ((b.toNat : Int) = (c.toNat : Int)) ↔ b = c := by
  constructor
  · intro h; exact UInt8.toNat_inj.1 (by omega)
  · rintro rfl; rfl
theorem bt_is (s : ByteArray) (i : Nat) (h : i < (L s).length) (c : UInt8) : (bt s (i : Int) = (c.toNat : Int)) ↔ (L s)[i] = c := by rw [bt_nat s i h, u8_eq]
end Go.Proofs.YteoklfgmdcofcaaDoor.Pl
end
section
namespace Go.Proofs.YteoklfgmdcofcaaDoor.Pl
open Go.RowKit Go.Proofs.YteoklfgmdcofcaaDoorW.PrintWords Go.Proofs.YteoklfgmdcofcaaDoorW.PrintMore Go.Proofs.YteoklfgmdcofcaaDoor.Opn
set_option linter.unusedVariables false
set_option linter.unusedSimpArgs false
open Go.Lib
/-- A row's bytes: each looks to one side. -/
def sgn (b : UInt8) : Bool := b == 60 || b == 62
theorem drop_nil {p : UInt8 → Bool} : ∀ {l : List UInt8}, l.dropWhile p = [] ↔ ∀ x ∈ l, p x = true
  | [] => by simp
  | a :: l => by
    rw [List.dropWhile_cons]
    by_cases h : p a = true
    · rw [if_pos h, drop_nil]; simp [h]
    · rw [if_neg h]; simp [h]
theorem trim_sgn' (l : List UInt8) : List.dropWhile sgn (List.dropWhile sgn l.reverse).reverse = [] ↔ l.all sgn = true := by
  rw [drop_nil]
  constructor
  · intro h
    rw [List.all_eq_true]
    by_cases hd : l.reverse.dropWhile sgn = []
    · rw [drop_nil] at hd
      intro x hx
      exact hd x (by simpa using hx)
    · exfalso
      obtain ⟨c, t, hc⟩ := List.exists_cons_of_ne_nil hd
      have h1 := h c (by rw [hc]; simp)
      have h2 : sgn c = false := by
        have := List.head?_dropWhile_not sgn l.reverse
        rw [hc] at this
        simpa using this
      rw [h1] at h2
      exact absurd h2 (by decide)
  · intro h x hx
    have hx' : x ∈ l := by
      have := (List.dropWhile_sublist sgn (l := l.reverse)).subset (List.mem_reverse.1 hx)
      simpa using this
    exact List.all_eq_true.1 h x hx'
/-- Is a row's text one of signs alone? -/
theorem trim_sgn (l : List UInt8) : (Lib.trimS l [60, 62] = []) ↔ l.all sgn = true := by
  have hs : (fun x => ([60, 62] : List UInt8).contains x) = sgn := by
    funext x
    simp [sgn, List.contains, List.elem]
    cases (x == 60) <;> cases (x == 62) <;> rfl
  unfold Lib.trimS Lib.trimLeftS Lib.trimRightS
  rw [show (([60, 62] : List UInt8).contains ·) = sgn from hs]
  exact trim_sgn' l
/-- Is a text a row? -/
def rgood (l : List UInt8) : Bool := decide (1 ≤ l.length ∧ l.length ≤ 60) && l.all sgn
theorem bt60 (s : ByteArray) (i : Nat) (h : i < (L s).length) : (bt s (i : Int) = 60) ↔ (L s)[i] = 60 := bt_is s i h 60
theorem bt62 (s : ByteArray) (i : Nat) (h : i < (L s).length) : (bt s (i : Int) = 62) ↔ (L s)[i] = 62 := bt_is s i h 62
end Go.Proofs.YteoklfgmdcofcaaDoor.Pl
end
section
namespace Go.Proofs.YteoklfgmdcofcaaDoor.Pl
open Go.RowKit Go.Proofs.YteoklfgmdcofcaaDoorW.PrintWords Go.Proofs.YteoklfgmdcofcaaDoorW.PrintMore Go.Proofs.YteoklfgmdcofcaaDoor.Opn
set_option linter.unusedVariables false
set_option linter.unusedSimpArgs false
open Go.Lib
/-- A soldier turns. -/
def flp (b : UInt8) : UInt8 := if b = 60 then 62 else 60
theorem sgn_is {b : UInt8} (h : sgn b = true) : b = 60 ∨ b = 62 := by simpa [sgn] using h
theorem flp_flp {b : UInt8} (h : sgn b = true) : flp (flp b) = b := by
  rcases sgn_is h with rfl | rfl <;> decide
theorem flp_ne {b : UInt8} (h : sgn b = true) : flp b ≠ b := by
  rcases sgn_is h with rfl | rfl <;> decide
theorem flp_sgn (b : UInt8) : sgn (flp b) = true := by unfold flp; split <;> decide
theorem flp_of {b c : UInt8} (h : sgn b = true) (h' : sgn c = true) (hn : b ≠ c) : flp c = b := by
  rcases sgn_is h with rfl | rfl <;> rcases sgn_is h' with rfl | rfl <;> first | (exact absurd rfl hn) | decide
/-- Some soldiers turn. -/
def msk (l : List UInt8) (p : Nat → Bool) : List UInt8 := l.mapIdx fun i b => if p i = true then flp b else b
theorem msk_len (l : List UInt8) (p : Nat → Bool) : (msk l p).length = l.length := by simp [msk]
theorem msk_get (l : List UInt8) (p : Nat → Bool) (i : Nat) (h : i < l.length) : (msk l p)[i]'(by rw [msk_len]; exact h) = if p i = true then flp l[i] else l[i] := by simp [msk]
theorem all_get {l : List UInt8} (hg : l.all sgn = true) {i : Nat} (h : i < l.length) : sgn l[i] = true := List.all_eq_true.1 hg _ (List.getElem_mem h)
theorem msk_good {l : List UInt8} (hg : l.all sgn = true) (p : Nat → Bool) : (msk l p).all sgn = true := by
  rw [List.all_eq_true]
  intro x hx
  obtain ⟨i, hi, rfl⟩ := List.getElem_of_mem hx
  have hi' : i < l.length := by rw [msk_len] at hi; exact hi
  rw [msk_get l p i hi']
  split
  · exact flp_sgn _
  · exact all_get hg hi'
theorem msk_congr {l : List UInt8} {p q : Nat → Bool} (h : ∀ i, i < l.length → p i = q i) : msk l p = msk l q := by
  apply List.ext_getElem (by rw [msk_len, msk_len])
  intro i h1 h2
  have hi : i < l.length := by rw [msk_len] at h1; exact h1
  rw [msk_get l p i hi, msk_get l q i hi, h i hi]
theorem msk_zero {l : List UInt8} {p : Nat → Bool} (h : ∀ i, i < l.length → p i = false) : msk l p = l := by
  apply List.ext_getElem (by rw [msk_len])
  intro i h1 h2
  rw [msk_get l p i h2, h i h2]; rfl
theorem msk_msk {l : List UInt8} (hg : l.all sgn = true) (p q : Nat → Bool) : msk (msk l p) q = msk l (fun i => p i ^^ q i) := by
  apply List.ext_getElem (by rw [msk_len, msk_len, msk_len])
  intro i h1 h2
  have hi : i < l.length := by rw [msk_len] at h2; exact h2
  have hi' : i < (msk l p).length := by rw [msk_len]; exact hi
  rw [msk_get (msk l p) q i hi', msk_get l p i hi, msk_get l _ i hi]
  have := flp_flp (all_get hg hi)
  cases p i <;> cases q i <;> simp [this]
/-- Whether a soldier looks differently in two rows. -/
def dif (a b : List UInt8) (i : Nat) : Bool := a[i]? != b[i]?
theorem dif_comm (a b : List UInt8) : dif a b = dif b a := by
  funext i; unfold dif
  by_cases h : a[i]? = b[i]?
  · rw [h]
  · rw [bne_iff_ne.2 h, bne_iff_ne.2 (Ne.symm h)]
theorem dif_get {a b : List UInt8} {i : Nat} (h : i < a.length) (h' : i < b.length) : dif a b i = (a[i] != b[i]) := by
  unfold dif
  rw [List.getElem?_eq_getElem h, List.getElem?_eq_getElem h']
  by_cases e : a[i] = b[i]
  · simp [e]
  · rw [bne_iff_ne.2 e, bne_iff_ne.2 (by simpa using e)]
theorem msk_dif {a b : List UInt8} (ha : a.all sgn = true) (hb : b.all sgn = true) (hl : a.length = b.length) : msk b (dif a b) = a := by
  apply List.ext_getElem (by rw [msk_len, hl])
  intro i h1 h2
  have hi : i < b.length := by omega
  rw [msk_get b _ i hi, dif_get h2 hi]
  by_cases e : a[i] = b[i]
  · rw [e]; simp
  · rw [if_pos (bne_iff_ne.2 e)]; exact flp_of (all_get ha h2) (all_get hb hi) e
/-- Bytes as a text. -/
abbrev bs (l : List UInt8) : ByteArray := ⟨l.toArray⟩
theorem bs_L (s : ByteArray) : bs (L s) = s := mk_L s
theorem bs_size (l : List UInt8) : (bs l).size = l.length := by rw [size_L, L_mk]
theorem bs_append (l m : List UInt8) : bs l ++ bs m = bs (l ++ m) := by apply L_inj; simp [L]
theorem bs_extract (l : List UInt8) (i j : Nat) : (bs l).extract i j = bs ((l.drop i).take (j - i)) := by
  apply L_inj; rw [L_mk]; show ((bs l).extract i j).data.toList = _; simp [List.extract_eq_take_drop]
theorem bs_bt (l : List UInt8) (i : Nat) (h : i < l.length) : bt (bs l) (i : Int) = ((l[i]).toNat : Int) := by
  have h' : i < (L (bs l)).length := by rw [L_mk]; exact h
  rw [bt_nat (bs l) i h']
/-- From one soldier to another one. -/
def seg (f e : Nat) (j : Nat) : Bool := decide (f ≤ j ∧ j ≤ e)
theorem seg_cut {l : List UInt8} {f e : Nat} (hf : f ≤ e + 1) (he : e < l.length) : msk l (seg f e) = l.take f ++ ((l.drop f).take (e + 1 - f)).map flp ++ l.drop (e + 1) := by
  apply List.ext_getElem (by simp [msk_len]; omega)
  intro i h1 h2
  have hi : i < l.length := by rw [msk_len] at h1; exact h1
  rw [msk_get l _ i hi]
  unfold seg
  by_cases c : i < f
  · rw [if_neg (by simp; omega), List.getElem_append_left (by simp; omega), List.getElem_append_left (by simp; omega), List.getElem_take]
  · by_cases c2 : i ≤ e
    · rw [if_pos (by simp; omega), List.getElem_append_left (by simp; omega), List.getElem_append_right (by simp; omega)]
      simp only [List.getElem_map, List.getElem_drop, List.getElem_take, List.length_take]
      congr 2; omega
    · rw [if_neg (by simp; omega), List.getElem_append_right (by simp; omega)]
      simp only [List.getElem_drop, List.length_append, List.length_map, List.length_drop, List.length_take]
      congr 1; omega
theorem seg_one {l : List UInt8} {i : Nat} (hi : i < l.length) : l.take i ++ [flp l[i]] ++ l.drop (i + 1) = msk l (seg i i) := by
  rw [seg_cut (by omega) hi]
  congr 2
  rw [List.drop_eq_getElem_cons hi, show i + 1 - i = 1 by omega]
  rfl
theorem map_flp : ∀ (l : List UInt8), l.all sgn = true → mapD (fun x => 122 - x) l = l.map flp
  | [], _ => rfl
  | b :: l, h => by
    simp only [List.all_cons, Bool.and_eq_true] at h
    have hb : b.toNat < 128 := by rcases sgn_is h.1 with rfl | rfl <;> decide
    rw [mapD_step _ _ (by simp), decodeL_ascii b l hb]
    simp only [List.drop_succ_cons, List.drop_zero, List.map_cons]
    rw [map_flp l h.2]
    rcases sgn_is h.1 with rfl | rfl <;> rfl
def near (i j : Nat) : Bool := decide (i ≤ j + 1 ∧ j ≤ i + 1)
/-- Those of d soldiers from i on who are turned. -/
def lst (x : Nat → Bool) : Nat → Nat → List Int
  | _, 0 => []
  | i, d + 1 => (if x i = true then [((i : Nat) : Int)] else []) ++ lst x (i + 1) d
theorem lst_mem (x : Nat → Bool) : ∀ (d i : Nat) (y : Int), y ∈ lst x i d ↔ ∃ k : Nat, y = (k : Int) ∧ i ≤ k ∧ k < i + d ∧ x k = true
  | 0, i, y => by simp [lst]; intro k _ h1 h2; omega
  | d + 1, i, y => by
    simp only [lst, List.mem_append, lst_mem x d (i + 1) y]
    constructor
    · rintro (h | ⟨k, h1, h2, h3, h4⟩)
      · split at h
        · rename_i c
          simp only [List.mem_cons, List.not_mem_nil, or_false] at h
          exact ⟨i, h, by omega, by omega, c⟩
        · simp at h
      · exact ⟨k, h1, by omega, by omega, h4⟩
    · rintro ⟨k, h1, h2, h3, h4⟩
      by_cases e : k = i
      · subst e; left; rw [if_pos h4]; simp [h1]
      · right; exact ⟨k, h1, by omega, by omega, h4⟩
theorem lst_len (x : Nat → Bool) : ∀ (d i : Nat), (lst x i d).length ≤ d
  | 0, _ => by simp [lst]
  | d + 1, i => by
    have := lst_len x d (i + 1)
    simp only [lst, List.length_append]
    split <;> simp <;> omega
theorem lst_rise (x : Nat → Bool) : ∀ (d i : Nat), (lst x i d).Pairwise (· < ·)
  | 0, _ => by simp [lst]
  | d + 1, i => by
    simp only [lst]
    split
    · rw [List.singleton_append, List.pairwise_cons]
      exact ⟨fun y hy => by obtain ⟨k, h1, h2, _, _⟩ := (lst_mem x d (i + 1) y).1 hy; omega, lst_rise x d (i + 1)⟩
    · exact lst_rise x d (i + 1)
end Go.Proofs.YteoklfgmdcofcaaDoor.Pl
end
section
namespace Go.Proofs.YteoklfgmdcofcaaDoor.Pl
open Go.RowKit Go.Proofs.YteoklfgmdcofcaaDoorW.PrintWords Go.Proofs.YteoklfgmdcofcaaDoorW.PrintMore Go.Proofs.YteoklfgmdcofcaaDoor.Opn
set_option linter.unusedVariables false
set_option linter.unusedSimpArgs false
/-- Whether soldier k - 1 of n looks differently. -/
def qd (n : Nat) (D : Nat → Bool) (k : Nat) : Bool := decide (1 ≤ k ∧ k ≤ n) && D (k - 1)
/-- Whether it changes ahead of soldier k. -/
def chg (n : Nat) (D : Nat → Bool) (k : Nat) : Bool := qd n D k ^^ qd n D (k + 1)
/-- The first orders. -/
def ffs (n : Nat) (D : Nat → Bool) : List Int := lst (chg n D) 1 n
theorem qd_zero (n : Nat) (D : Nat → Bool) : qd n D 0 = false := by simp [qd]
theorem qd_end (n : Nat) (D : Nat → Bool) : qd n D (n + 1) = false := by unfold qd; rw [decide_eq_false (by omega)]; rfl
theorem qd_in {n : Nat} (D : Nat → Bool) {k : Nat} (h : k < n) : qd n D (k + 1) = D k := by unfold qd; rw [decide_eq_true (by omega)]; simp
/-- How many of the first d numbers are hit. -/
def ct (x : Nat → Bool) : Nat → Nat
  | 0 => 0
  | d + 1 => ct x d + (if x d = true then 1 else 0)
theorem lst_ct (x : Nat → Bool) : ∀ (d i : Nat), (lst x i d).length + ct x i = ct x (i + d)
  | 0, i => by simp [lst]
  | d + 1, i => by
    have := lst_ct x d (i + 1)
    simp only [ct] at this
    rw [show i + (d + 1) = i + 1 + d by omega, ← this]
    simp only [lst, List.length_append]
    split <;> simp <;> omega
theorem ct_le (x y z : Nat → Bool) (h : ∀ k, x k = true → y k = true ∨ z k = true) : ∀ d, ct x d ≤ ct y d + ct z d
  | 0 => by simp [ct]
  | d + 1 => by
    have := ct_le x y z h d
    simp only [ct]
    by_cases c : x d = true
    · rcases h d c with e | e
      · rw [if_pos c, if_pos e]; omega
      · rw [if_pos c, if_pos e]; omega
    · rw [if_neg c]; omega
theorem ct_one (a : Nat) : ∀ d, ct (fun k => decide (k = a)) d ≤ 1 ∧ (d ≤ a → ct (fun k => decide (k = a)) d = 0)
  | 0 => by simp [ct]
  | d + 1 => by
    obtain ⟨h1, h2⟩ := ct_one a d
    simp only [ct]
    by_cases c : d = a
    · rw [if_pos (decide_eq_true c)]
      have := h2 (by omega)
      exact ⟨by omega, fun h => by omega⟩
    · rw [if_neg (by simpa using c)]
      exact ⟨by omega, fun h => by rw [h2 (by omega)]⟩
/-- How many runs begin among the first d soldiers. -/
def sta (D : Nat → Bool) : Nat → Nat
  | 0 => 0
  | d + 1 => sta D d + (if D d = true ∧ ¬ (1 ≤ d ∧ D (d - 1) = true) then 1 else 0)
theorem sta_two (n : Nat) (D : Nat → Bool) : ∀ d, d ≤ n → ct (chg n D) d + (if qd n D d = true then 1 else 0) = 2 * sta D d
  | 0, _ => by simp [ct, sta, qd_zero]
  | d + 1, h => by
    have ih := sta_two n D d (by omega)
    have e1 : qd n D (d + 1) = D d := qd_in D (by omega)
    have e2 : (qd n D d = true) ↔ (1 ≤ d ∧ D (d - 1) = true) := by
      unfold qd
      rw [Bool.and_eq_true, decide_eq_true_eq]
      exact ⟨fun x => ⟨x.1.1, x.2⟩, fun x => ⟨⟨x.1, by omega⟩, x.2⟩⟩
    have e0 : chg n D d = (qd n D d ^^ D d) := by unfold chg; rw [e1]
    have e3 : (if D d = true ∧ ¬ (1 ≤ d ∧ D (d - 1) = true) then 1 else 0) = (if D d = true ∧ ¬ qd n D d = true then 1 else 0 : Nat) := by
      by_cases c : D d = true ∧ ¬ qd n D d = true
      · rw [if_pos c, if_pos ⟨c.1, fun x => c.2 (e2.2 x)⟩]
      · rw [if_neg c, if_neg (fun x => c ⟨x.1, fun y => x.2 (e2.1 y)⟩)]
    simp only [ct, sta]
    rw [e0, e1, e3]
    generalize qd n D d = x at ih ⊢
    generalize D d = y
    cases x <;> cases y <;> simp at ih ⊢ <;> omega
theorem sta_all (n : Nat) (D : Nat → Bool) : ct (chg n D) (n + 1) = 2 * sta D n := by
  have := sta_two n D n (Nat.le_refl n)
  have e0 : chg n D n = qd n D n := by unfold chg; rw [qd_end, Bool.xor_false]
  simp only [ct]
  rw [e0]
  exact this
theorem sta_half (D : Nat → Bool) : ∀ d, 2 * sta D d ≤ d + (if 1 ≤ d ∧ D (d - 1) = true then 1 else 0)
  | 0 => by simp [sta]
  | d + 1 => by
    have ih := sta_half D d
    simp only [sta, Nat.add_sub_cancel]
    by_cases c : D d = true
    · rw [if_pos (show 1 ≤ d + 1 ∧ D d = true from ⟨by omega, c⟩)]
      by_cases c2 : 1 ≤ d ∧ D (d - 1) = true
      · rw [if_neg (fun x => x.2 c2)]
        rw [if_pos c2] at ih; omega
      · rw [if_pos ⟨c, c2⟩]
        rw [if_neg c2] at ih; omega
    · rw [if_neg (fun x => c x.1), if_neg (fun x => c x.2)]
      split at ih <;> omega
theorem sta_most (D : Nat → Bool) (n : Nat) : sta D n ≤ (n + 1) / 2 := by
  have := sta_half D n
  split at this <;> omega
theorem sta_mono (D : Nat → Bool) : ∀ d, sta D d ≤ sta D (d + 1) := fun d => by simp only [sta]; omega
theorem sta_first (D : Nat → Bool) (h : D 0 = true) : ∀ d, 1 ≤ sta D (d + 1)
  | 0 => by simp [sta, h]
  | d + 1 => Nat.le_trans (sta_first D h d) (sta_mono D (d + 1))
theorem sta_le (D : Nat → Bool) : ∀ d, sta D d ≤ d
  | 0 => by simp [sta]
  | d + 1 => by have := sta_le D d; simp only [sta]; split <;> omega
theorem ffs_len (n : Nat) (D : Nat → Bool) (h : 1 ≤ n) : (ffs n D).length + (if D 0 = true then 1 else 0) = 2 * sta D n := by
  have h1 := lst_ct (chg n D) n 1
  rw [Nat.add_comm 1 n, sta_all] at h1
  have h2 : ct (chg n D) 1 = if D 0 = true then 1 else 0 := by
    have e0 : chg n D 0 = D 0 := by unfold chg; rw [qd_zero, qd_in D (by omega), Bool.false_xor]
    simp only [ct]
    rw [e0, Nat.zero_add]
  rw [h2] at h1
  exact h1
theorem ffs_two (n : Nat) (D : Nat → Bool) (h : 1 ≤ n) : sta D n ≤ (ffs n D).length ∧ (ffs n D).length ≤ 2 * sta D n := by
  have h1 := ffs_len n D h
  obtain ⟨m, rfl⟩ : ∃ m, n = m + 1 := ⟨n - 1, by omega⟩
  by_cases c : D 0 = true
  · have := sta_first D c m
    rw [if_pos c] at h1; omega
  · rw [if_neg c] at h1; omega
/-- What first orders turn. -/
def px : List Int → Nat → Bool
  | [], _ => false
  | k :: l, j => decide ((j : Int) < k) ^^ px l j
theorem px_hi (n : Nat) (D : Nat → Bool) (j : Nat) : ∀ (d i : Nat), j + 1 ≤ i → px (lst (chg n D) i d) j = (qd n D i ^^ qd n D (i + d))
  | 0, i, _ => by simp [lst, px]
  | d + 1, i, h => by
    have ih := px_hi n D j d (i + 1) (by omega)
    rw [show i + (d + 1) = i + 1 + d by omega]
    simp only [lst]
    by_cases c : chg n D i = true
    · rw [if_pos c, List.singleton_append]
      simp only [px]
      rw [ih, decide_eq_true (by omega)]
      have c' : (qd n D i ^^ qd n D (i + 1)) = true := c
      generalize qd n D i = x at c' ⊢; generalize qd n D (i + 1) = y at c' ⊢; generalize qd n D (i + 1 + d) = z
      cases x <;> cases y <;> cases z <;> first | rfl | (exact absurd c' (by decide))
    · rw [if_neg c, List.nil_append, ih]
      have c' : ¬ (qd n D i ^^ qd n D (i + 1)) = true := c
      generalize qd n D i = x at c' ⊢; generalize qd n D (i + 1) = y at c' ⊢; generalize qd n D (i + 1 + d) = z
      cases x <;> cases y <;> cases z <;> first | rfl | (exact absurd (by decide) c')
theorem px_lo (n : Nat) (D : Nat → Bool) (j : Nat) : ∀ (m i d : Nat), i + m = j + 1 → j + 1 ≤ i + d → px (lst (chg n D) i d) j = (qd n D (j + 1) ^^ qd n D (i + d))
  | 0, i, d, h, h2 => by
    obtain rfl : i = j + 1 := by omega
    exact px_hi n D j d (j + 1) (Nat.le_refl _)
  | m + 1, i, d, h, h2 => by
    obtain ⟨e, rfl⟩ : ∃ e, d = e + 1 := ⟨d - 1, by omega⟩
    have ih := px_lo n D j m (i + 1) e (by omega) (by omega)
    rw [show i + (e + 1) = i + 1 + e by omega, ← ih]
    simp only [lst]
    split
    · rw [List.singleton_append]
      simp only [px]
      rw [decide_eq_false (by omega), Bool.false_xor]
    · rw [List.nil_append]
theorem px_all (n : Nat) (D : Nat → Bool) (j : Nat) (h : j < n) : px (ffs n D) j = D j := by
  have := px_lo n D j j 1 n (by omega) (by omega)
  rw [Nat.add_comm 1 n, qd_end, Bool.xor_false, qd_in D h] at this
  exact this
theorem ffs_mem (n : Nat) (D : Nat → Bool) (x : Int) (h : x ∈ ffs n D) : 1 ≤ x ∧ x ≤ n := by
  obtain ⟨k, e, h1, h2, _⟩ := (lst_mem _ _ _ _).1 h
  omega
/-- One run turned changes the number of runs by one at most. -/
theorem sta_near (D : Nat → Bool) (n e : Nat) (he : e < n) : sta (fun j => D j ^^ seg 0 e j) n ≤ sta D n + 1 := by
  have h1 := sta_all n (fun j => D j ^^ seg 0 e j)
  have h2 := sta_all n D
  have h3 := ct_le (chg n (fun j => D j ^^ seg 0 e j)) (chg n D) (fun k => decide (k = 0) || decide (k = e + 1)) (fun k hk => by
    by_cases c : chg n D k = true
    · exact .inl c
    · refine .inr ?_
      rw [Bool.or_eq_true, decide_eq_true_eq, decide_eq_true_eq]
      refine Decidable.byContradiction fun hn => ?_
      have q : ∀ m, m ≠ 0 → qd n (fun j => D j ^^ seg 0 e j) m = (qd n D m ^^ decide (m ≤ e + 1)) := by
        intro m hm
        unfold qd seg
        by_cases hmn : m ≤ n
        · rw [decide_eq_true (show 1 ≤ m ∧ m ≤ n by omega), Bool.true_and, Bool.true_and]
          have z : decide (0 ≤ m - 1 ∧ m - 1 ≤ e) = decide (m ≤ e + 1) := decide_eq_decide.2 (by omega)
          show (D (m - 1) ^^ decide (0 ≤ m - 1 ∧ m - 1 ≤ e)) = _
          rw [z]
        · rw [decide_eq_false (show ¬ (1 ≤ m ∧ m ≤ n) by omega), Bool.false_and, Bool.false_and, decide_eq_false (by omega)]; rfl
      unfold chg at hk c
      rw [q k (by omega), q (k + 1) (by omega)] at hk
      have e1 : decide (k + 1 ≤ e + 1) = decide (k ≤ e + 1) := decide_eq_decide.2 (by omega)
      rw [e1] at hk
      generalize qd n D k = x at hk c; generalize qd n D (k + 1) = y at hk c; generalize decide (k ≤ e + 1) = z at hk
      cases x <;> cases y <;> cases z <;> simp_all) (n + 1)
  have h4 := ct_le (fun k => decide (k = 0) || decide (k = e + 1)) (fun k => decide (k = 0)) (fun k => decide (k = e + 1)) (fun k hk => by rwa [Bool.or_eq_true] at hk) (n + 1)
  have h5 := (ct_one 0 (n + 1)).1
  have h6 := (ct_one (e + 1) (n + 1)).1
  omega
theorem sta_congr {D E : Nat → Bool} : ∀ n, (∀ j, j < n → D j = E j) → sta D n = sta E n
  | 0, _ => rfl
  | n + 1, h => by
    have ih := sta_congr n (fun j hj => h j (by omega))
    simp only [sta]
    rw [ih, h n (by omega)]
    by_cases c : 1 ≤ n
    · rw [h (n - 1) (by omega)]
    · have : n = 0 := by omega
      subst this
      simp
theorem sta_near2 (D : Nat → Bool) (n e : Nat) (he : e < n) : sta D n ≤ sta (fun j => D j ^^ seg 0 e j) n + 1 := by
  have := sta_near (fun j => D j ^^ seg 0 e j) n e he
  rw [sta_congr (E := D) n (fun j _ => by cases D j <;> cases seg 0 e j <;> rfl)] at this
  exact this
/-- The runs among the first i soldiers. -/
def rns (D : Nat → Bool) : Nat → List (Nat × Nat)
  | 0 => []
  | i + 1 => if D i = true then (if 1 ≤ i ∧ D (i - 1) = true then (rns D i).dropLast ++ [(((rns D i).getLast?.getD (0, 0)).1, i)] else rns D i ++ [(i, i)]) else rns D i
def rro (l : List (Nat × Nat)) : List (List Int) := l.map fun p => [(p.1 : Int), (p.2 : Int)]
/-- What runs turn. -/
def sgs : List (Nat × Nat) → Nat → Bool
  | [], _ => false
  | p :: l, j => seg p.1 p.2 j ^^ sgs l j
theorem sgs_app : ∀ (l m : List (Nat × Nat)) (j : Nat), sgs (l ++ m) j = (sgs l j ^^ sgs m j)
  | [], m, j => by simp [sgs]
  | p :: l, m, j => by simp only [List.cons_append, sgs]; rw [sgs_app l m j, Bool.xor_assoc]
theorem rns_inv (D : Nat → Bool) : ∀ i, (∀ p ∈ rns D i, p.1 ≤ p.2 ∧ p.2 < i ∧ D p.2 = true) ∧ ((1 ≤ i ∧ D (i - 1) = true) → ∃ l f, rns D i = l ++ [(f, i - 1)]) ∧ (rns D i).length = sta D i ∧ ∀ j, sgs (rns D i) j = (decide (j < i) && D j)
  | 0 => ⟨by simp [rns], by simp, by simp [rns, sta], by simp [rns, sgs]⟩
  | i + 1 => by
    obtain ⟨h1, h2, h3, h4⟩ := rns_inv D i
    have hj : ∀ j, j ≠ i → decide (j < i + 1) = decide (j < i) := fun j hj => decide_eq_decide.2 (by omega)
    by_cases c : D i = true
    · by_cases c2 : 1 ≤ i ∧ D (i - 1) = true
      · obtain ⟨l, f, e⟩ := h2 c2
        have er : rns D (i + 1) = l ++ [(f, i)] := by
          simp only [rns]; rw [if_pos c, if_pos c2, e]; simp
        rw [er]
        rw [e] at h1 h3 h4
        have hf := h1 (f, i - 1) (by simp)
        refine ⟨fun p hp => ?_, fun _ => ⟨l, f, by simp⟩, ?_, fun j => ?_⟩
        · rw [List.mem_append, List.mem_singleton] at hp
          rcases hp with hp | rfl
          · have := h1 p (by simp [hp]); exact ⟨this.1, by omega, this.2.2⟩
          · exact ⟨by simp only at hf ⊢; omega, by simp, c⟩
        · simp only [List.length_append, List.length_cons, List.length_nil] at h3 ⊢
          simp only [sta]; rw [if_neg (fun x => x.2 c2)]; omega
        · have := h4 j
          rw [sgs_app] at this ⊢
          simp only [sgs, Bool.xor_false] at this ⊢
          simp only at hf
          by_cases cj : j = i
          · subst cj
            rw [decide_eq_false (by omega), Bool.false_and] at this
            rw [decide_eq_true (by omega), Bool.true_and, c]
            have z : seg f (j - 1) j = false := by unfold seg; exact decide_eq_false (by omega)
            have z2 : seg f j j = true := by unfold seg; exact decide_eq_true (by omega)
            rw [z, Bool.xor_false] at this
            rw [z2, this]; rfl
          · have z : seg f i j = seg f (i - 1) j := by unfold seg; exact decide_eq_decide.2 (by omega)
            rw [z, this, hj j cj]
      · have er : rns D (i + 1) = rns D i ++ [(i, i)] := by
          simp only [rns]; rw [if_pos c, if_neg c2]
        rw [er]
        refine ⟨fun p hp => ?_, fun _ => ⟨rns D i, i, by simp⟩, ?_, fun j => ?_⟩
        · rw [List.mem_append, List.mem_singleton] at hp
          rcases hp with hp | rfl
          · have := h1 p hp; exact ⟨this.1, by omega, this.2.2⟩
          · exact ⟨Nat.le_refl _, by simp, c⟩
        · simp only [List.length_append, List.length_cons, List.length_nil]
          simp only [sta]; rw [if_pos ⟨c, c2⟩]; omega
        · rw [sgs_app, h4 j]
          simp only [sgs, Bool.xor_false]
          by_cases cj : j = i
          · subst cj
            have z2 : seg j j j = true := by unfold seg; exact decide_eq_true (by omega)
            rw [z2, decide_eq_false (by omega), decide_eq_true (by omega), c]; rfl
          · have z : seg i i j = false := by unfold seg; exact decide_eq_false (by omega)
            rw [z, hj j cj, Bool.xor_false]
    · have er : rns D (i + 1) = rns D i := by simp only [rns]; rw [if_neg c]
      rw [er]
      refine ⟨fun p hp => ?_, fun x => absurd x.2 (by simpa using c), ?_, fun j => ?_⟩
      · have := h1 p hp; exact ⟨this.1, by omega, this.2.2⟩
      · simp only [sta]; rw [if_neg (fun x => c x.1)]; omega
      · rw [h4 j]
        by_cases cj : j = i
        · subst cj
          rw [Bool.not_eq_true] at c
          rw [c, Bool.and_false, Bool.and_false]
        · rw [hj j cj]
theorem rns_next (D : Nat → Bool) (i : Nat) (c : D i = true) (c2 : 1 ≤ i ∧ D (i - 1) = true) : ∃ l f, rns D i = l ++ [(f, i - 1)] ∧ rns D (i + 1) = l ++ [(f, i)] := by
  obtain ⟨l, f, e⟩ := (rns_inv D i).2.1 c2
  refine ⟨l, f, e, ?_⟩
  simp only [rns]; rw [if_pos c, if_pos c2, e]; simp
theorem rns_new (D : Nat → Bool) (i : Nat) (c : D i = true) (c2 : ¬ (1 ≤ i ∧ D (i - 1) = true)) : rns D (i + 1) = rns D i ++ [(i, i)] := by
  simp only [rns]; rw [if_pos c, if_neg c2]
theorem rns_off (D : Nat → Bool) (i : Nat) (c : ¬ D i = true) : rns D (i + 1) = rns D i := by
  simp only [rns]; rw [if_neg c]
theorem rro_app (l m : List (Nat × Nat)) : rro (l ++ m) = rro l ++ rro m := by simp [rro]
theorem rro_len (l : List (Nat × Nat)) : (rro l).length = l.length := by simp [rro]
theorem rro_set (l : List (Nat × Nat)) (f e i : Nat) : (rro (l ++ [(f, e)])).set l.length [(f : Int), (i : Int)] = rro (l ++ [(f, i)]) := by
  rw [rro_app, rro_app]
  have : (rro l).length = l.length := rro_len l
  rw [List.set_append_right _ _ (by omega), this, Nat.sub_self]
  simp [rro]
theorem dif_msk {a b : List UInt8} (ha : a.all sgn = true) (hb : b.all sgn = true) (hl : a.length = b.length) (p : Nat → Bool) (j : Nat) (hj : j < a.length) : dif (msk a p) b j = (dif a b j ^^ p j) := by
  rw [dif_get (by rw [msk_len]; exact hj) (by omega), dif_get hj (by omega), msk_get a p j hj]
  have sa := all_get ha hj
  have sb := all_get hb (show j < b.length by omega)
  cases p j
  · simp
  · rw [if_pos rfl, Bool.xor_true]
    by_cases e : a[j] = b[j]
    · rw [e]
      have := flp_ne sb
      rw [bne_iff_ne.2 this]; simp
    · rw [flp_of sb sa (fun x => e x.symm), bne_iff_ne.2 e]; simp
/-- What rows of runs turn. -/
def srw : List (List Int) → Nat → Bool
  | [], _ => false
  | r :: l, j => seg (rd r 0).toNat (rd r 1).toNat j ^^ srw l j
def rok (n : Nat) (r : List Int) : Bool := decide (r.length = 2 ∧ (0 ≤ rd r 0 ∧ rd r 0 ≤ (n : Int) - 1) ∧ rd r 0 ≤ rd r 1 ∧ rd r 1 ≤ (n : Int) - 1)
theorem srw_rro : ∀ (l : List (Nat × Nat)) (j : Nat), srw (rro l) j = sgs l j
  | [], _ => rfl
  | p :: l, j => by
    have e1 : rd [(p.1 : Int), (p.2 : Int)] 0 = p.1 := by simp [rd]
    have e2 : rd [(p.1 : Int), (p.2 : Int)] 1 = p.2 := by simp [rd]
    have : rro (p :: l) = [(p.1 : Int), (p.2 : Int)] :: rro l := rfl
    rw [this]
    simp only [srw, sgs]
    rw [srw_rro l j, e1, e2, Int.toNat_natCast, Int.toNat_natCast]
theorem rok_rns (D : Nat → Bool) (n : Nat) : (rro (rns D n)).all (rok n) = true := by
  rw [List.all_eq_true]
  intro r hr
  unfold rro at hr
  rw [List.mem_map] at hr
  obtain ⟨p, hp, rfl⟩ := hr
  have := (rns_inv D n).1 p hp
  have e1 : rd [(p.1 : Int), (p.2 : Int)] 0 = p.1 := by simp [rd]
  have e2 : rd [(p.1 : Int), (p.2 : Int)] 1 = p.2 := by simp [rd]
  unfold rok
  rw [e1, e2, decide_eq_true_eq]
  exact ⟨rfl, by omega, by omega, by omega⟩
end Go.Proofs.YteoklfgmdcofcaaDoor.Pl
end
