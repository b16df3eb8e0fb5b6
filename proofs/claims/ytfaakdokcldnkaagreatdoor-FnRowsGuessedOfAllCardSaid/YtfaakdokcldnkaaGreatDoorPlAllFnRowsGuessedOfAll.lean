/- Plain facts: Base, List, Clue, Bytes, Tick, Row, Val, Mk, Sure, Num, Tail, Cut, Less. No condition. -/
import Derived.RowKit
import Derived.Test.YtfaakdokcldnkaaGreatDoorWWords
import Derived.Test.YtfaakdokcldnkaaGreatDoorWSmall
import Derived.Test.YtfaakdokcldnkaaGreatDoorOpn
import Derived.Laws.Strings
import Derived.Lib.ReplaceLaws
import Derived.Lib.SlTrimSet
import Derived.Lib.RabinKarpLaws
import Derived.Lib.ItoaNum
import Derived.Lib.Join
import Derived.Lib.SplitLaws
import Derived.Lib.CountLaws
import Derived.Lib.IndexMore
import Derived.Lib.AtoiAllCases
section
namespace Go.Proofs.YtfaakdokcldnkaaGreatDoor.Pl
open Go.RowKit Go.Proofs.YtfaakdokcldnkaaGreatDoorW.PrintWords Go.Proofs.YtfaakdokcldnkaaGreatDoorW.PrintMore Go.Proofs.YtfaakdokcldnkaaGreatDoor.Opn
set_option linter.unusedVariables false
set_option linter.unusedSimpArgs false
theorem za {x : Int} (h : -9223372036854775808 ≤ x) (h' : x ≤ 9223372036854775807) : wrap64 x = x := by unfold wrap64; omega
theorem Ev.succ {α : Type} {g : Nat → Option α} {r : α} (h : Ev (fun k => g (k + 1)) r) : Ev g r := Ev.step (fun _ => rfl) h
theorem Ev.const {α : Type} {x : Option α} {r : α} (h : x = some r) : Ev (fun _ => x) r := ⟨0, fun _ _ => h⟩
theorem Ev.pos {α : Type} {c : Prop} [Decidable c] {g f : Nat → Option α} {r : α} (hc : c) (h : Ev g r) : Ev (fun k => if c then g k else f k) r := by
  simp only [if_pos hc]; exact h
theorem Ev.neg {α : Type} {c : Prop} [Decidable c] {g f : Nat → Option α} {r : α} (hc : ¬ c) (h : Ev f r) : Ev (fun k => if c then g k else f k) r := by
  simp only [if_neg hc]; exact h
theorem Ev.iff {α : Type} {c : Prop} [Decidable c] {g f : Nat → Option α} {r : α} (h : c → Ev g r) (h' : ¬ c → Ev f r) : Ev (fun k => if c then g k else f k) r := by
  by_cases hc : c
  · exact Ev.pos hc (h hc)
  · exact Ev.neg hc (h' hc)
theorem Ev.get {α : Type} {g : Nat → Option α} {r : α} (h : Ev g r) : ∃ k, g k = some r := Ev.rounds h
theorem zdg {a b : Int} (h : 0 ≤ a) : Int.tdiv a b = a / b := Int.tdiv_eq_ediv_of_nonneg h
theorem zcf {a b : Int} (h : 0 ≤ a) : Int.tmod a b = a % b := Int.tmod_eq_emod_of_nonneg h
end Go.Proofs.YtfaakdokcldnkaaGreatDoor.Pl
end
section
namespace Go.Proofs.YtfaakdokcldnkaaGreatDoor.Pl
open Go.RowKit Go.Proofs.YtfaakdokcldnkaaGreatDoorW.PrintWords Go.Proofs.YtfaakdokcldnkaaGreatDoorW.PrintMore Go.Proofs.YtfaakdokcldnkaaGreatDoor.Opn
set_option linter.unusedVariables false
set_option linter.unusedSimpArgs false
theorem zn {l : List Int} {j : Nat} (h : j < l.length) : l.drop j = rd l (j : Int) :: l.drop (j + 1) := by
  rw [List.drop_eq_getElem_cons h]
  congr 1
  simp [rd, h]
theorem zoh {l : List Int} {j : Nat} (h : j < l.length) : rd l (j : Int) ∈ l := by
  simp [rd, h]
def cpy {α : Type} (z : α) (l : List α) (i : Nat) : List α := l.take i ++ List.replicate (l.length - i) z
theorem zkg {α : Type} (z : α) (l : List α) : cpy z l 0 = List.replicate l.length z := by simp [cpy]
theorem zvh {α : Type} (z : α) (l : List α) : cpy z l l.length = l := by simp [cpy]
theorem zhi {α : Type} (z : α) (l : List α) (i : Nat) (h : i ≤ l.length) : (cpy z l i).length = l.length := by simp [cpy]; omega
theorem zyg {α : Type} (z : α) (l : List α) (i : Nat) (h : i < l.length) : (cpy z l i).set i l[i] = cpy z l (i + 1) := by
  have e : List.replicate (l.length - i) z = z :: List.replicate (l.length - (i + 1)) z := by
    rw [show l.length - i = (l.length - (i + 1)) + 1 by omega]; rfl
  unfold cpy
  rw [e, List.set_append_right _ _ (by simp; omega), List.length_take, Nat.min_eq_left (by omega), Nat.sub_self, List.set_cons_zero, List.take_succ_eq_append_getElem h, List.append_assoc]
  rfl
end Go.Proofs.YtfaakdokcldnkaaGreatDoor.Pl
end
section
namespace Go.Proofs.YtfaakdokcldnkaaGreatDoor.Pl
open Go.RowKit Go.Proofs.YtfaakdokcldnkaaGreatDoorW.PrintWords Go.Proofs.YtfaakdokcldnkaaGreatDoorW.PrintMore Go.Proofs.YtfaakdokcldnkaaGreatDoor.Opn
set_option linter.unusedVariables false
set_option linter.unusedSimpArgs false
def cok (n k a b c : Int) : Bool :=
  if k = 0 then decide (0 ≤ a ∧ a ≤ n - 1) && (decide (0 ≤ b ∧ b ≤ 20) && decide (0 ≤ c ∧ c ≤ 1))
  else if k = 1 then decide (a = 0) && (decide (b = 0) && decide (0 ≤ c ∧ c ≤ n))
  else if k = 2 then decide (a = 0) && (decide (b = 0) && decide (0 ≤ c ∧ c ≤ 20))
  else if k = 3 then decide (a = 0) && (decide (b = 0) && decide (0 ≤ c ∧ c ≤ 8))
  else if k = 4 then decide (0 ≤ a ∧ a ≤ n - 1) && (decide (b = 0) && decide (0 ≤ c ∧ c ≤ 20))
  else false
theorem zxf (p q : Bool) : (if p = true then some q else some false) = some (p && q) := by cases p <;> rfl
theorem zve (p : Prop) [Decidable p] (q : Bool) : (if p then some q else some false) = some (decide p && q) := by by_cases h : p <;> simp [h]
end Go.Proofs.YtfaakdokcldnkaaGreatDoor.Pl
end
section
namespace Go.Proofs.YtfaakdokcldnkaaGreatDoor.Pl
open Go.RowKit Go.Proofs.YtfaakdokcldnkaaGreatDoorW.PrintWords Go.Proofs.YtfaakdokcldnkaaGreatDoorW.PrintMore Go.Proofs.YtfaakdokcldnkaaGreatDoor.Opn
set_option linter.unusedVariables false
set_option linter.unusedSimpArgs false
abbrev L (s : ByteArray) : List UInt8 := s.data.toList
theorem zpa (s : ByteArray) : s.size = (L s).length := by rw [Array.length_toList]; rfl
theorem zoe (s : ByteArray) : (s.size : Int) = ((L s).length : Int) := by rw [zpa]
theorem zi (s : ByteArray) : s.toList = L s := ByteArray.toList_eq s
theorem L_mk (l : List UInt8) : L ⟨l.toArray⟩ = l := by simp [L]
theorem mk_L (s : ByteArray) : (⟨(L s).toArray⟩ : ByteArray) = s := by cases s; simp [L]
theorem L_inj {s t : ByteArray} (h : L s = L t) : s = t := by rw [← mk_L s, ← mk_L t, h]
theorem zab (s : ByteArray) (i : Nat) (h : i < (L s).length) : bt s (i : Int) = (((L s)[i]).toNat : Int) := by
  have h' : i < s.size := by rw [zpa]; exact h
  simp only [bt, Int.toNat_natCast, dif_pos h']
  rfl
theorem u8_eq (b c : UInt8) : ((b.toNat : Int) = (c.toNat : Int)) ↔ b = c := by
  constructor
  · intro h; exact UInt8.toNat_inj.1 (by omega)
  · rintro rfl; rfl
theorem bt_is (s : ByteArray) (i : Nat) (h : i < (L s).length) (c : UInt8) : (bt s (i : Int) = (c.toNat : Int)) ↔ (L s)[i] = c := by rw [zab s i h, u8_eq]
end Go.Proofs.YtfaakdokcldnkaaGreatDoor.Pl
end
section
namespace Go.Proofs.YtfaakdokcldnkaaGreatDoor.Pl
open Go.RowKit Go.Proofs.YtfaakdokcldnkaaGreatDoorW.PrintWords Go.Proofs.YtfaakdokcldnkaaGreatDoorW.PrintMore Go.Proofs.YtfaakdokcldnkaaGreatDoor.Opn
set_option linter.unusedVariables false
set_option linter.unusedSimpArgs false
open Go.Lib
def sgn (b : UInt8) : Bool := b == 60 || b == 62
def twk : List UInt8 → List UInt8
  | [] => []
  | [a] => [a]
  | a :: b :: r => if a = 62 ∧ b = 60 then 60 :: 62 :: twk r else a :: twk (b :: r)
theorem ztc (r : List UInt8) : twk (62 :: 60 :: r) = 60 :: 62 :: twk r := by rw [twk, if_pos ⟨rfl, rfl⟩]
theorem zud {a : UInt8} {l : List UInt8} (h : ¬ ([62, 60] : List UInt8).isPrefixOf (a :: l) = true) : twk (a :: l) = a :: twk l := by
  cases l with
  | nil => rfl
  | cons b r =>
    rw [twk, if_neg]
    rintro ⟨rfl, rfl⟩
    exact h (by simp [List.isPrefixOf])
theorem zch {l : List UInt8} (h : ([62, 60] : List UInt8).isPrefixOf l = true) : ∃ r, l = 62 :: 60 :: r := by
  match l, h with
  | [], h => simp [List.isPrefixOf] at h
  | [a], h => simp [List.isPrefixOf] at h
  | a :: b :: r, h =>
    simp [List.isPrefixOf] at h
    obtain ⟨rfl, rfl⟩ := h
    exact ⟨r, rfl⟩
theorem zhc : ∀ (s : List UInt8) (i : Nat), index s [62, 60] = i → twk s = s.take i ++ [60, 62] ++ twk (s.drop (i + 2))
  | [], i, h => by simp [index] at h
  | a :: l, i, h => by
    unfold index at h
    by_cases hp : ([62, 60] : List UInt8).isPrefixOf (a :: l) = true
    · rw [if_pos hp] at h
      obtain rfl : i = 0 := by omega
      obtain ⟨r, e⟩ := zch hp
      rw [e, ztc]
      rfl
    · rw [if_neg hp] at h
      by_cases hm : (index l [62, 60] == -1) = true
      · rw [if_pos hm] at h; omega
      · rw [if_neg hm] at h
        obtain ⟨j, rfl⟩ : ∃ j, i = j + 1 := ⟨i - 1, by have := index_ge l [62, 60]; have : index l [62, 60] ≠ -1 := fun e => hm (by simp [e]); omega⟩
        rw [zud hp, zhc l j (by omega)]
        rfl
theorem zsd : ∀ (s : List UInt8), index s [62, 60] = -1 → twk s = s
  | [], h => rfl
  | a :: l, h => by
    unfold index at h
    by_cases hp : ([62, 60] : List UInt8).isPrefixOf (a :: l) = true
    · rw [if_pos hp] at h; omega
    · rw [if_neg hp] at h
      by_cases hm : (index l [62, 60] == -1) = true
      · rw [zud hp, zsd l (by simpa using hm)]
      · rw [if_neg hm] at h
        have := index_ge l [62, 60]
        have : index l [62, 60] ≠ -1 := fun e => hm (by simp [e])
        omega
theorem zha : ∀ (n : Nat) (s : List UInt8), s.length ≤ n → replaceK [62, 60] [60, 62] (count s [62, 60]) s = twk s
  | n, s, hn => by
    by_cases h : index s [62, 60] = -1
    · rw [count_miss h, zsd s h]; rfl
    · have hg := index_ge s [62, 60]
      obtain ⟨i, hi⟩ : ∃ i : Nat, index s [62, 60] = i := ⟨(index s [62, 60]).toNat, by omega⟩
      have hr := index_room s [62, 60] (by omega)
      simp only [List.length_cons, List.length_nil] at hr
      have hi' := hi
      rw [count_hit (by simp) hi, Nat.add_comm, replaceK_hit _ _ _ _ _ hi, zhc s i hi]
      simp only [List.length_cons, List.length_nil, Nat.zero_add]
      match n with
      | 0 => rw [hi] at hr; omega
      | n + 1 =>
        rw [show i + (1 + 1) = i + 2 from rfl, zha n (s.drop (i + 2)) (by simp; omega)]
theorem zxa (s : List UInt8) : replaceAll s [62, 60] [60, 62] = twk s := by
  unfold replaceAll replace replaceNum
  rw [if_neg (by decide), if_pos (by left; decide)]
  exact zha s.length s (Nat.le_refl _)
def fac : List UInt8 → Bool
  | [] => false
  | [_] => false
  | a :: b :: r => (decide (a = 62 ∧ b = 60)) || fac (b :: r)
theorem zkc : ∀ (s : List UInt8), Lib.contains s [62, 60] = fac s
  | [] => rfl
  | [a] => by
    unfold Lib.contains index
    rw [if_neg (by simp [List.isPrefixOf])]
    simp [index, fac]
  | a :: b :: r => by
    have ih := zkc (b :: r)
    unfold Lib.contains at ih ⊢
    rw [index, fac, ← ih]
    by_cases hp : ([62, 60] : List UInt8).isPrefixOf (a :: b :: r) = true
    · rw [if_pos hp]
      obtain ⟨r', e⟩ := zch hp
      injection e with e1 e2
      injection e2 with e2 _
      simp [e1, e2]
    · rw [if_neg hp]
      have hn : decide (a = 62 ∧ b = 60) = false := by
        rw [decide_eq_false_iff_not]
        rintro ⟨rfl, rfl⟩
        exact hp (by simp [List.isPrefixOf])
      rw [hn, Bool.false_or]
      have hg := index_ge (b :: r) [62, 60]
      by_cases hm : (index (b :: r) [62, 60] == -1) = true
      · rw [if_pos hm]
        have : index (b :: r) [62, 60] = -1 := by simpa using hm
        rw [this]
      · rw [if_neg hm]
        have : index (b :: r) [62, 60] ≠ -1 := fun e => hm (by simp [e])
        rw [decide_eq_true (by omega), decide_eq_true (by omega)]
theorem zld : ∀ (s : List UInt8), fac s = false → twk s = s
  | [], _ => rfl
  | [a], _ => rfl
  | a :: b :: r, h => by
    rw [fac, Bool.or_eq_false_iff, decide_eq_false_iff_not] at h
    rw [twk, if_neg h.1, zld (b :: r) h.2]
theorem zh : ∀ (s : List UInt8), (twk s).length = s.length
  | [] => rfl
  | [a] => rfl
  | a :: b :: r => by
    rw [twk]
    split
    · simp [zh r]
    · simp [zh (b :: r)]
def wt : List UInt8 → Nat
  | [] => 0
  | a :: r => (if a = 62 then r.length else 0) + wt r
theorem wt_le : ∀ (s : List UInt8), wt (twk s) ≤ wt s ∧ (fac s = true → wt (twk s) < wt s)
  | [] => ⟨Nat.le_refl _, by simp [fac]⟩
  | [a] => ⟨Nat.le_refl _, by simp [fac]⟩
  | a :: b :: r => by
    by_cases h : a = 62 ∧ b = 60
    · obtain ⟨rfl, rfl⟩ := h
      have := (wt_le r).1
      rw [ztc]
      simp only [wt, List.length_cons, zh]
      simp
      omega
    · have ⟨h1, h2⟩ := wt_le (b :: r)
      rw [twk, if_neg h]
      have e : wt (a :: twk (b :: r)) = (if a = 62 then (b :: r).length else 0) + wt (twk (b :: r)) := by rw [wt, zh]
      rw [e, wt]
      refine ⟨by omega, fun hf => ?_⟩
      rw [fac, decide_eq_false h, Bool.false_or] at hf
      have := h2 hf
      omega
theorem wt_sq : ∀ (s : List UInt8), wt s ≤ s.length * s.length
  | [] => Nat.le_refl _
  | a :: r => by
    have := wt_sq r
    simp only [wt, List.length_cons]
    have : (if a = 62 then r.length else 0) ≤ r.length := by split <;> omega
    have : (r.length + 1) * (r.length + 1) = r.length * r.length + r.length + r.length + 1 := by rw [Nat.mul_add, Nat.add_mul]; omega
    omega
def rst : Nat → List UInt8 → List UInt8 × Nat
  | 0, s => (s, 0)
  | f + 1, s => if fac s = true then ((rst f (twk s)).1, (rst f (twk s)).2 + 1) else (s, 0)
def prs : Nat → List UInt8 → List Int
  | _, [] => []
  | _, [_] => []
  | o, a :: b :: r => if a = 62 ∧ b = 60 then (o : Int) :: prs (o + 1) (b :: r) else prs (o + 1) (b :: r)
theorem zfc : ∀ (s : List UInt8) (o : Nat), ∀ x ∈ prs o s, (o : Int) ≤ x ∧ x + 1 < o + s.length
  | [], o, x, h => by simp [prs] at h
  | [a], o, x, h => by simp [prs] at h
  | a :: b :: r, o, x, h => by
    have ih := zfc (b :: r) (o + 1)
    rw [prs] at h
    simp only [List.length_cons] at ih ⊢
    split at h
    · rcases List.mem_cons.1 h with rfl | h
      · omega
      · have := ih x h; omega
    · have := ih x h; omega
theorem zaf : ∀ (s : List UInt8) (o : Nat), (prs o s = []) = (fac s = false)
  | [], o => by simp [prs, fac]
  | [a], o => by simp [prs, fac]
  | a :: b :: r, o => by
    have ih := zaf (b :: r) (o + 1)
    rw [prs, fac]
    by_cases h : a = 62 ∧ b = 60
    · simp [h]
    · rw [if_neg h, decide_eq_false h, Bool.false_or, ih]
theorem zsb : ∀ (s : List UInt8) (o : Nat), (prs o s).length ≤ s.length
  | [], o => by simp [prs]
  | [a], o => by simp [prs]
  | a :: b :: r, o => by
    have ih := zsb (b :: r) (o + 1)
    rw [prs]
    simp only [List.length_cons] at ih ⊢
    split
    · simp; omega
    · omega
def trn (s : List UInt8) (i : Int) : List UInt8 := s.take i.toNat ++ [60, 62] ++ s.drop (i.toNat + 2)
theorem zwh (pre : List UInt8) (r : List UInt8) : trn (pre ++ 62 :: 60 :: r) (pre.length : Int) = pre ++ 60 :: 62 :: r := by
  unfold trn
  rw [Int.toNat_natCast, List.take_left]
  simp [List.drop_append]
theorem zob : ∀ (n : Nat) (s pre : List UInt8), s.length ≤ n → (prs pre.length s).foldl trn (pre ++ s) = pre ++ twk s
  | _, [], pre, _ => rfl
  | _, [a], pre, _ => rfl
  | 0, a :: b :: r, pre, h => by simp at h
  | n + 1, a :: b :: r, pre, h => by
    rw [prs]
    by_cases hc : a = 62 ∧ b = 60
    · obtain ⟨rfl, rfl⟩ := hc
      rw [if_pos ⟨rfl, rfl⟩, List.foldl_cons, zwh, ztc]
      have e : prs (pre.length + 1) (60 :: r) = prs (pre.length + 2) r := by
        cases r with
        | nil => rfl
        | cons c r => rw [prs, if_neg (by rintro ⟨h, _⟩; exact absurd h (by decide))]
      have := zob n r (pre ++ [60, 62]) (by simp at h; omega)
      rw [e]
      simpa using this
    · rw [if_neg hc, twk, if_neg hc]
      have := zob n (b :: r) (pre ++ [a]) (by simpa using h)
      simpa using this
theorem zlf (s : List UInt8) : (prs 0 s).foldl trn s = twk s := by
  have := zob s.length s [] (Nat.le_refl _)
  simpa using this
theorem zmb {p : UInt8 → Bool} : ∀ {l : List UInt8}, l.dropWhile p = [] ↔ ∀ x ∈ l, p x = true
  | [] => by simp
  | a :: l => by
    rw [List.dropWhile_cons]
    by_cases h : p a = true
    · rw [if_pos h, zmb]; simp [h]
    · rw [if_neg h]; simp [h]
theorem zpe (l : List UInt8) : List.dropWhile sgn (List.dropWhile sgn l.reverse).reverse = [] ↔ l.all sgn = true := by
  rw [zmb]
  constructor
  · intro h
    rw [List.all_eq_true]
    by_cases hd : l.reverse.dropWhile sgn = []
    · rw [zmb] at hd
      intro x hx
      exact hd x (by simpa using hx)
    · exfalso
      obtain ⟨c, t, hc⟩ := List.exists_cons_of_ne_nil hd
      have h1 := h c (by rw [hc]; simp)
      have h2 : sgn c = false := by
        have := List.head?_dropWhile_not sgn l.reverse
        rw [hc] at this
        simpa using this
      rw [h1] at h2
      exact absurd h2 (by decide)
  · intro h x hx
    have hx' : x ∈ l := by
      have := (List.dropWhile_sublist sgn (l := l.reverse)).subset (List.mem_reverse.1 hx)
      simpa using this
    exact List.all_eq_true.1 h x hx'
theorem zrd (l : List UInt8) : (Lib.trimS l [60, 62] = []) ↔ l.all sgn = true := by
  have hs : (fun x => ([60, 62] : List UInt8).contains x) = sgn := by
    funext x
    simp [sgn, List.contains, List.elem]
    cases (x == 60) <;> cases (x == 62) <;> rfl
  unfold Lib.trimS Lib.trimLeftS Lib.trimRightS
  rw [show (([60, 62] : List UInt8).contains ·) = sgn from hs]
  exact zpe l
def rgood (l : List UInt8) : Bool := decide (1 ≤ l.length ∧ l.length ≤ 60) && l.all sgn
end Go.Proofs.YtfaakdokcldnkaaGreatDoor.Pl
end
section
namespace Go.Proofs.YtfaakdokcldnkaaGreatDoor.Pl
open Go.RowKit Go.Proofs.YtfaakdokcldnkaaGreatDoorW.PrintWords Go.Proofs.YtfaakdokcldnkaaGreatDoorW.PrintMore Go.Proofs.YtfaakdokcldnkaaGreatDoor.Opn
set_option linter.unusedVariables false
set_option linter.unusedSimpArgs false
open Go.Lib
abbrev up (l : List UInt8) : ByteArray := ⟨l.toArray⟩
theorem up_L (s : ByteArray) : s = up (L s) := (mk_L s).symm
theorem zb (l : List UInt8) : (up l).size = l.length := by rw [zpa, L_mk]
theorem zd (l : List UInt8) : ((up l).size : Int) = (l.length : Int) := by rw [zb]
theorem up_bt (l : List UInt8) (i : Nat) (h : i < l.length) (c : UInt8) : (bt (up l) (i : Int) = (c.toNat : Int)) ↔ l[i] = c := by
  rw [bt_is (up l) i (by rw [L_mk]; exact h) c]
theorem up60 (l : List UInt8) (i : Nat) (h : i < l.length) : (bt (up l) (i : Int) = 60) ↔ l[i] = 60 := up_bt l i h 60
theorem up62 (l : List UInt8) (i : Nat) (h : i < l.length) : (bt (up l) (i : Int) = 62) ↔ l[i] = 62 := up_bt l i h 62
theorem zo (a b : List UInt8) : up a ++ up b = up (a ++ b) := L_inj (by simp [L])
theorem zki (l : List UInt8) (n : Nat) : (up l).extract 0 n = up (l.take n) := L_inj (by simp [L])
theorem zre (l : List UInt8) (n : Nat) : (up l).extract n (up l).size = up (l.drop n) := L_inj (by rw [zb]; simp [L, List.take_of_length_le])
theorem zeg (l : List UInt8) (i : Nat) (h : i + 1 < l.length) : prs i (l.drop i) = (if l[i] = 62 ∧ l[i + 1] = 60 then [(i : Int)] else []) ++ prs (i + 1) (l.drop (i + 1)) := by
  have e : l.drop i = l[i] :: l[i + 1] :: l.drop (i + 2) := by rw [List.drop_eq_getElem_cons (by omega), List.drop_eq_getElem_cons h]
  have e2 : l.drop (i + 1) = l[i + 1] :: l.drop (i + 2) := List.drop_eq_getElem_cons h
  rw [e, e2, prs]
  split <;> simp
theorem zpc (l : List UInt8) (i : Nat) (h : ¬ i + 1 < l.length) : prs i (l.drop i) = [] := by
  have : (l.drop i).length ≤ 1 := by simp; omega
  match hd : l.drop i, this with
  | [], _ => rfl
  | [a], _ => rfl
theorem zei (s : List UInt8) (i : Int) (h0 : 0 ≤ i) (h1 : i + 1 < s.length) : (trn s i).length = s.length := by
  unfold trn; simp; omega
theorem zga : ∀ (s : List UInt8) (o : Nat), (prs o s).Pairwise (fun x y => x + 2 ≤ y)
  | [], o => by simp [prs]
  | [a], o => by simp [prs]
  | a :: b :: r, o => by
    rw [prs]
    split
    · next h =>
      refine List.pairwise_cons.2 ⟨fun y hy => ?_, zga (b :: r) (o + 1)⟩
      cases r with
      | nil => simp [prs] at hy
      | cons c r =>
        rw [prs, if_neg (by rintro ⟨h1, _⟩; rw [h.2] at h1; exact absurd h1 (by decide))] at hy
        have := zfc (c :: r) (o + 1 + 1) y hy
        omega
    · exact zga (b :: r) (o + 1)
def twn : Nat → List UInt8 → List UInt8
  | 0, l => l
  | n + 1, l => twn n (twk l)
theorem ztd : ∀ (n : Nat) (l : List UInt8), fac l = false → twn n l = l
  | 0, _, _ => rfl
  | n + 1, l, h => by rw [twn, zld l h, ztd n l h]
theorem znb : ∀ (n : Nat) (l : List UInt8), (twn n l).length = l.length
  | 0, _ => rfl
  | n + 1, l => by rw [twn, znb n, zh]
def trc : Nat → Int → List UInt8 → Int
  | 0, _, _ => 0
  | f + 1, a, l => if fac l = true then (if a ∈ prs 0 l ∨ a - 1 ∈ prs 0 l then 1 else 0) + trc f a (twk l) else 0
def bump (o : List Int) (j : Int) : List Int := (o.set j.toNat (wrap64 (rd o j + 1))).set (j + 1).toNat (wrap64 (rd (o.set j.toNat (wrap64 (rd o j + 1))) (j + 1) + 1))
theorem zwb (o : List Int) (j : Int) : (bump o j).length = o.length := by simp [bump]
theorem zof (o : List Int) (j a v : Int) (h0 : 0 ≤ j) (h1 : j < o.length) (ha : 0 ≤ a) : rd (o.set j.toNat v) a = if a = j then v else rd o a := by
  unfold rd
  rw [List.getD_eq_getElem?_getD, List.getElem?_set, List.getD_eq_getElem?_getD]
  by_cases e : a = j
  · subst e
    rw [if_pos rfl, if_pos (by omega), if_pos rfl]; rfl
  · rw [if_neg (by omega), if_neg e]
theorem zra (o : List Int) (j a : Int) (h0 : 0 ≤ j) (h1 : j + 1 < o.length) (ha : 0 ≤ a) (hb : ∀ q, 0 ≤ rd o q ∧ rd o q ≤ 1000000000) : rd (bump o j) a = rd o a + if a = j ∨ a = j + 1 then 1 else 0 := by
  have b0 := hb j
  have b1 := hb (j + 1)
  have e0 : ∀ v, rd (o.set j.toNat v) (j + 1) = rd o (j + 1) := fun v => by rw [zof o j (j + 1) v h0 (by omega) (by omega), if_neg (by omega)]
  unfold bump
  rw [e0, zof _ (j + 1) a _ (by omega) (by simp; omega) ha, zof o j a _ h0 (by omega) ha, za (x := rd o j + 1) (by omega) (by omega), za (x := rd o (j + 1) + 1) (by omega) (by omega)]
  by_cases e1 : a = j
  · subst e1; rw [if_neg (by omega), if_pos rfl, if_pos (.inl rfl)]
  · by_cases e2 : a = j + 1
    · subst e2; simp
    · simp [e1, e2]
theorem zef : ∀ (ps : List Int) (o : List Int) (B : Int), ps.Pairwise (fun x y => x + 2 ≤ y) → (∀ p ∈ ps, 0 ≤ p ∧ p + 1 < o.length) → 0 ≤ B → B ≤ 900000000 → (∀ p ∈ ps, (0 ≤ rd o p ∧ rd o p ≤ B) ∧ (0 ≤ rd o (p + 1) ∧ rd o (p + 1) ≤ B)) → (∀ q, 0 ≤ rd o q ∧ rd o q ≤ B + 1) →
    ∀ a, 0 ≤ a → rd (ps.foldl bump o) a = rd o a + if a ∈ ps ∨ a - 1 ∈ ps then 1 else 0
  | [], o, B, _, _, _, _, _, _, a, ha => by simp
  | p :: ps, o, B, hp, hl, hB0, hB1, hb, hq, a, ha => by
    obtain ⟨hp1, hp2⟩ := List.pairwise_cons.1 hp
    have ⟨h0, h1⟩ := hl p (by simp)
    have hq' : ∀ q, 0 ≤ rd o q ∧ rd o q ≤ 1000000000 := fun q => by have := hq q; omega
    have hn : ∀ q, q < 0 → rd (bump o p) q = rd (bump o p) 0 := fun q h => by simp [rd, Int.toNat_of_nonpos (Int.le_of_lt h)]
    rw [List.foldl_cons, zef ps (bump o p) B hp2 (fun x hx => by rw [zwb]; exact hl x (by simp [hx])) hB0 hB1 (fun x hx => ?_) (fun q => ?_) a ha, zra o p a h0 h1 ha hq']
    · simp only [List.mem_cons]
      by_cases c1 : a = p ∨ a = p + 1
      · have n1 : ¬ (a ∈ ps ∨ a - 1 ∈ ps) := by
          rintro (h | h)
          · have := hp1 _ h; omega
          · have := hp1 _ h; omega
        rw [if_pos c1, if_neg n1, if_pos (by omega)]; omega
      · rw [if_neg c1]
        have : ((a = p ∨ a ∈ ps) ∨ (a - 1 = p ∨ a - 1 ∈ ps)) ↔ (a ∈ ps ∨ a - 1 ∈ ps) := by
          constructor
          · rintro ((h | h) | (h | h))
            · omega
            · exact .inl h
            · omega
            · exact .inr h
          · rintro (h | h)
            · exact .inl (.inr h)
            · exact .inr (.inr h)
        simp only [this]
        omega
    · have hx1 := hp1 x hx
      have := hb x (by simp [hx])
      rw [zra o p x h0 h1 (by omega) hq', zra o p (x + 1) h0 h1 (by omega) hq', if_neg (by omega), if_neg (by omega)]
      simpa using this
    · have hp0 := hb p (by simp)
      by_cases hq0 : 0 ≤ q
      · rw [zra o p q h0 h1 hq0 hq']
        have := hq q
        split
        · next h => rcases h with rfl | rfl <;> omega
        · omega
      · rw [hn q (by omega), zra o p 0 h0 h1 (by omega) hq']
        have := hq 0
        split
        · next h => rcases h with h | h
                    · subst h; omega
                    · omega
        · omega
theorem zba : ∀ (ps : List Int) (o : List Int), (ps.foldl bump o).length = o.length
  | [], o => rfl
  | p :: ps, o => by rw [List.foldl_cons, zba ps, zwb]
end Go.Proofs.YtfaakdokcldnkaaGreatDoor.Pl
end
section
namespace Go.Proofs.YtfaakdokcldnkaaGreatDoor.Pl
open Go.RowKit Go.Proofs.YtfaakdokcldnkaaGreatDoorW.PrintWords Go.Proofs.YtfaakdokcldnkaaGreatDoorW.PrintMore Go.Proofs.YtfaakdokcldnkaaGreatDoor.Opn
set_option linter.unusedVariables false
set_option linter.unusedSimpArgs false
def val (k a b : Int) (l : List UInt8) : Int :=
  if k = 0 then (if (twn b.toNat l)[a.toNat]? = some 62 then 1 else 0) else if k = 1 then (l.count 62 : Int) else if k = 2 then ((rst 1000000 l).2 : Int) else if k = 3 then ((prs 0 l).length : Int) else trc 1000000 a l
def kok (n k a b : Int) : Prop := (k = 0 ∧ (0 ≤ a ∧ a ≤ n - 1) ∧ 0 ≤ b ∧ b ≤ 20) ∨ k = 1 ∨ k = 2 ∨ k = 3 ∨ (k = 4 ∧ 0 ≤ a ∧ a ≤ n - 1)
theorem zph {n k a b c : Int} (h : cok n k a b c = true) : kok n k a b := by
  unfold cok at h
  unfold kok
  by_cases h0 : k = 0
  · rw [if_pos h0] at h; simp only [Bool.and_eq_true, decide_eq_true_eq] at h; exact .inl ⟨h0, h.1, h.2.1⟩
  rw [if_neg h0] at h
  by_cases h1 : k = 1
  · exact .inr (.inl h1)
  rw [if_neg h1] at h
  by_cases h2 : k = 2
  · exact .inr (.inr (.inl h2))
  rw [if_neg h2] at h
  by_cases h3 : k = 3
  · exact .inr (.inr (.inr (.inl h3)))
  rw [if_neg h3] at h
  by_cases h4 : k = 4
  · rw [if_pos h4] at h; simp only [Bool.and_eq_true, decide_eq_true_eq] at h; exact .inr (.inr (.inr (.inr ⟨h4, h.1⟩)))
  rw [if_neg h4] at h
  cases h
end Go.Proofs.YtfaakdokcldnkaaGreatDoor.Pl
end
section
namespace Go.Proofs.YtfaakdokcldnkaaGreatDoor.Pl
open Go.RowKit Go.Proofs.YtfaakdokcldnkaaGreatDoorW.PrintWords Go.Proofs.YtfaakdokcldnkaaGreatDoorW.PrintMore Go.Proofs.YtfaakdokcldnkaaGreatDoor.Opn
set_option linter.unusedVariables false
set_option linter.unusedSimpArgs false
def sgnOf (b : Nat) : UInt8 := if b = 1 then 62 else 60
theorem zri (b : Nat) : sgn (sgnOf b) = true := by unfold sgnOf; split <;> rfl
def mk : Nat → Nat → List UInt8
  | 0, _ => []
  | n + 1, m => mk n (m / 2) ++ [sgnOf (m % 2)]
theorem zq : ∀ (n m : Nat), (mk n m).length = n
  | 0, _ => rfl
  | n + 1, m => by rw [mk, List.length_append, zq n]; rfl
theorem zwe : ∀ (n m : Nat), (mk n m).all sgn = true
  | 0, _ => rfl
  | n + 1, m => by rw [mk, List.all_append, zwe n, List.all_cons, zri]; rfl
theorem zgh : ∀ (n m i : Nat), i < n → (mk n m)[i]? = some (sgnOf (m / 2 ^ (n - 1 - i) % 2))
  | 0, _, _, h => by omega
  | n + 1, m, i, h => by
    rw [mk]
    by_cases e : i = n
    · subst e
      rw [List.getElem?_append_right (by rw [zq]; omega), zq, Nat.sub_self, show i + 1 - 1 - i = 0 by omega]
      simp
    · rw [List.getElem?_append_left (by rw [zq]; omega), zgh n (m / 2) i (by omega), Nat.div_div_eq_div_mul, show n + 1 - 1 - i = (n - 1 - i) + 1 by omega, Nat.pow_succ, Nat.mul_comm 2]
theorem zjf (n m : Nat) (h : 1 ≤ n ∧ n ≤ 60) : rgood (mk n m) = true := by
  unfold rgood
  rw [zq, zwe, decide_eq_true h]; rfl
theorem zci (m s : Nat) (hs : s ≤ 64) : shr .i64 (m : Int) (s : Int) = ((m / 2 ^ s : Nat) : Int) := by
  unfold shr
  rw [Int.toNat_natCast, show min s IntKind.i64.bits = s from Nat.min_eq_left hs]
  push_cast
  rfl
theorem and1 (x : Nat) (h : x < 9223372036854775808) : Go.bits .and .i64 (x : Int) 1 = ((x % 2 : Nat) : Int) := Go.Proofs.and_one x h
theorem zka (n : Nat) (h : n ≤ 60) : shl .i64 1 (n : Int) = ((2 ^ n : Nat) : Int) := by
  unfold shl
  have h64 : IntKind.i64.bits = 64 := rfl
  rw [Int.toNat_natCast, Nat.min_eq_left (by omega), Int.one_mul, show ∀ z, IntKind.i64.wrap z = wrap64 z from fun z => by unfold wrap64; exact IntKind.wrap_i64 z]
  have : 2 ^ n ≤ 2 ^ 60 := Nat.pow_le_pow_right (by omega) h
  have e : ((2 : Int) ^ n) = ((2 ^ n : Nat) : Int) := by push_cast; rfl
  rw [e]
  have h60 : 2 ^ 60 = 1152921504606846976 := by decide
  generalize 2 ^ n = q at this
  rw [za (by omega) (by omega)]
def inums (l : List UInt8) : List Int := l.map fun b => (b.toNat : Int)
theorem zbc (l : List UInt8) : strOfNums (inums l) = up l := by
  apply L_inj
  simp [strOfNums, inums, L, Function.comp_def]
end Go.Proofs.YtfaakdokcldnkaaGreatDoor.Pl
end
section
namespace Go.Proofs.YtfaakdokcldnkaaGreatDoor.Pl
open Go.RowKit Go.Proofs.YtfaakdokcldnkaaGreatDoorW.PrintWords Go.Proofs.YtfaakdokcldnkaaGreatDoorW.PrintMore Go.Proofs.YtfaakdokcldnkaaGreatDoor.Opn
set_option linter.unusedVariables false
set_option linter.unusedSimpArgs false
def g8 (b a : UInt8) : UInt8 := if b = a then a else 63
def sureF (o : List UInt8) (rs : List ByteArray) : List UInt8 := rs.foldl (fun o r => List.zipWith g8 (L r) o) o
theorem zs (o : List UInt8) (r : ByteArray) (rs : List ByteArray) : sureF o (r :: rs) = sureF (List.zipWith g8 (L r) o) rs := rfl
theorem zx (n : Nat) : ∀ (rs : List ByteArray) (o : List UInt8), o.length = n → (∀ r ∈ rs, (L r).length = n) → (sureF o rs).length = n
  | [], o, h, _ => h
  | r :: rs, o, h, hr => by
    rw [zs]
    exact zx n rs _ (by rw [List.length_zipWith, hr r (by simp), h, Nat.min_self]) (fun x hx => hr x (by simp [hx]))
def same8 (i : Nat) (a : UInt8) (r : ByteArray) : Bool := (L r)[i]? == some a
theorem zqa (n i : Nat) (hi : i < n) : ∀ (rs : List ByteArray) (o : List UInt8) (a : UInt8), o.length = n → (∀ r ∈ rs, (L r).length = n) → o[i]? = some a → (sureF o rs)[i]? = some (if rs.all (same8 i a) = true then a else 63)
  | [], o, a, _, _, ha => by simp [sureF, ha]
  | r :: rs, o, a, h, hr, ha => by
    have hl : (L r).length = n := hr r (by simp)
    have hb : (L r)[i]? = some (L r)[i] := List.getElem?_eq_getElem (by omega)
    have hz : (List.zipWith g8 (L r) o)[i]? = some (g8 (L r)[i] a) := by rw [List.getElem?_zipWith, hb, ha]
    rw [zs, zqa n i hi rs _ _ (by rw [List.length_zipWith, hl, h, Nat.min_self]) (fun x hx => hr x (by simp [hx])) hz, List.all_cons]
    by_cases e : (L r)[i] = a
    · have e1 : same8 i a r = true := by unfold same8; rw [hb, e]; simp
      have e2 : g8 (L r)[i] a = a := by unfold g8; rw [if_pos e]
      rw [e1, e2]; rfl
    · have e1 : same8 i a r = false := by unfold same8; rw [hb]; simpa using e
      have e2 : g8 (L r)[i] a = 63 := by unfold g8; rw [if_neg e]
      rw [e1, e2]; simp
theorem cut1 (s : ByteArray) (i : Nat) (b : UInt8) (h : (L s)[i]? = some b) : s.extract i (i + 1) = up [b] := by
  apply L_inj
  have h1 := List.getElem?_eq_some_iff.1 h
  obtain ⟨h2, h3⟩ := h1
  have h4 : L (s.extract i (i + 1)) = ((L s).drop i).take 1 := by simp [L, List.extract]
  rw [h4, List.drop_eq_getElem_cons h2, h3, L_mk]
  rfl
theorem zhh (a b : UInt8) : ((up [b]).toList = (up [a]).toList) ↔ b = a := by
  rw [zi, zi, L_mk, L_mk]; simp
theorem zwg (p s : List UInt8) (a : UInt8) : rd (inums (p ++ a :: s)) (p.length : Int) = (a.toNat : Int) := by simp [rd, inums]
theorem zpf (p s : List UInt8) (a : UInt8) : (inums (p ++ a :: s)).set p.length 63 = inums (p ++ [63] ++ s) := by
  simp [inums, List.set_append]
theorem zcd (s : ByteArray) : bytesOf s = inums (L s) := rfl
end Go.Proofs.YtfaakdokcldnkaaGreatDoor.Pl
end
section
namespace Go.Proofs.YtfaakdokcldnkaaGreatDoor.Pl
open Go.RowKit Go.Proofs.YtfaakdokcldnkaaGreatDoorW.PrintWords Go.Proofs.YtfaakdokcldnkaaGreatDoorW.PrintMore Go.Proofs.YtfaakdokcldnkaaGreatDoor.Opn
set_option linter.unusedVariables false
set_option linter.unusedSimpArgs false
theorem zgc (n : Nat) (h : n < 10) : Go.Lib.decDigits n = [UInt8.ofNat (48 + n)] := by rw [Go.Lib.decDigits, dif_pos h]
theorem zcg (n : Nat) (h : ¬ n < 10) : Go.Lib.decDigits n = Go.Lib.decDigits (n / 10) ++ [UInt8.ofNat (48 + n % 10)] := by rw [Go.Lib.decDigits, dif_neg h]
theorem zxe (n : Nat) (h : n < 100) : (Go.Lib.decDigits n).length ≤ 2 := by
  by_cases h1 : n < 10
  · rw [zgc n h1]; simp
  · rw [zcg n h1, zgc (n / 10) (by omega)]; simp
theorem dig (d : Nat) (h : d < 10) : strOfNums [(wrap64 (48 + (d : Int))) % 256] = up [UInt8.ofNat (48 + d)] := by
  rw [za (x := 48 + (d : Int)) (by omega) (by omega), show (48 + (d : Int)) % 256 = ((48 + d : Nat) : Int) by omega]
  rfl
end Go.Proofs.YtfaakdokcldnkaaGreatDoor.Pl
end
section
namespace Go.Proofs.YtfaakdokcldnkaaGreatDoor.Pl
open Go.RowKit Go.Proofs.YtfaakdokcldnkaaGreatDoorW.PrintWords Go.Proofs.YtfaakdokcldnkaaGreatDoorW.PrintMore Go.Proofs.YtfaakdokcldnkaaGreatDoor.Opn
set_option linter.unusedVariables false
set_option linter.unusedSimpArgs false
theorem zlc (x : List UInt8) (r : List (List UInt8)) : Go.Lib.joinTail [44] (x :: r) = [44] ++ x ++ Go.Lib.joinTail [44] r := by simp [Go.Lib.joinTail]
theorem zjd : ∀ (ls : List (List UInt8)), (∀ x ∈ ls, x.length ≤ 11) → (Go.Lib.joinTail [44] ls).length ≤ 12 * ls.length
  | [], _ => by simp [Go.Lib.joinTail]
  | x :: r, h => by
    have h1 := h x (by simp)
    have h2 := zjd r (fun y hy => h y (by simp [hy]))
    rw [zlc]
    simp only [List.length_append, List.length_cons, List.length_nil]
    omega
theorem zfb (ls : List (List UInt8)) (h : ∀ x ∈ ls, x.length ≤ 11) : (Go.Lib.join ls [44]).length ≤ 12 * ls.length := by
  cases ls with
  | nil => simp [Go.Lib.join_nil]
  | cons x r =>
    have h1 := h x (by simp)
    have h2 := zjd r (fun y hy => h y (by simp [hy]))
    rw [Go.Lib.join_cons]
    simp only [List.length_append, List.length_cons]
    omega
def dd (a : Int) : List UInt8 := Go.Lib.decDigits a.toNat
theorem zm (a : Int) (h : 0 ≤ a ∧ a < 100) : (dd a).length ≤ 2 := zxe a.toNat (by omega)
end Go.Proofs.YtfaakdokcldnkaaGreatDoor.Pl
end
section
namespace Go.Proofs.YtfaakdokcldnkaaGreatDoor.Pl
open Go.RowKit Go.Proofs.YtfaakdokcldnkaaGreatDoorW.PrintWords Go.Proofs.YtfaakdokcldnkaaGreatDoorW.PrintMore Go.Proofs.YtfaakdokcldnkaaGreatDoor.Opn
set_option linter.unusedVariables false
set_option linter.unusedSimpArgs false
theorem Ev.uniq {α : Type} {g : Nat → Option α} {r r' : α} (h : Ev g r) (h' : Ev g r') : r = r' := by
  obtain ⟨K, hK⟩ := h
  obtain ⟨K', hK'⟩ := h'
  have h1 := hK (max K K') (Nat.le_max_left _ _)
  have h2 := hK' (max K K') (Nat.le_max_right _ _)
  rw [h1] at h2
  exact Option.some.inj h2
def spA (c : UInt8) (cur : List UInt8) : List UInt8 → List (List UInt8)
  | [] => [cur]
  | x :: r => if x = c then cur :: spA c [] r else spA c (cur ++ [x]) r
theorem zmc (c : UInt8) : ∀ (p cur : List UInt8), c ∉ p → spA c cur p = [cur ++ p]
  | [], cur, _ => by simp [spA]
  | x :: r, cur, h => by
    have h1 : ¬ x = c := fun e => h (by simp [e])
    rw [spA, if_neg h1, zmc c r _ (fun hm => h (by simp [hm]))]
    simp
theorem zu (c : UInt8) (rest : List UInt8) : ∀ (p cur : List UInt8), c ∉ p → spA c cur (p ++ c :: rest) = (cur ++ p) :: spA c [] rest
  | [], cur, _ => by simp [spA]
  | x :: r, cur, h => by
    have h1 : ¬ x = c := fun e => h (by simp [e])
    rw [List.cons_append, spA, if_neg h1, zu c rest r _ (fun hm => h (by simp [hm]))]
    simp
theorem zoa (c : UInt8) : ∀ (l cur : List UInt8), 1 ≤ (spA c cur l).length ∧ (spA c cur l).length ≤ l.length + 1
  | [], cur => by simp [spA]
  | x :: r, cur => by
    rw [spA]
    split
    · have := zoa c r []
      simp only [List.length_cons]; omega
    · have := zoa c r (cur ++ [x])
      simp only [List.length_cons]; omega
theorem zfa (c : UInt8) : ∀ (l cur : List UInt8) (w : List UInt8), w ∈ spA c cur l → w.length ≤ cur.length + l.length
  | [], cur, w, h => by simp [spA] at h; subst h; simp
  | x :: r, cur, w, h => by
    rw [spA] at h
    split at h
    · rcases List.mem_cons.1 h with rfl | h
      · simp
      · have := zfa c r [] w h
        simp only [List.length_cons, List.length_nil] at *; omega
    · have := zfa c r (cur ++ [x]) w h
      simp only [List.length_cons, List.length_append, List.length_nil] at *; omega
def jn (c : UInt8) : List UInt8 → List (List UInt8) → List UInt8
  | p, [] => p
  | p, q :: r => p ++ c :: jn c q r
theorem zmh (c : UInt8) : ∀ (ps : List (List UInt8)) (p : List UInt8), (∀ q ∈ p :: ps, c ∉ q) → spA c [] (jn c p ps) = p :: ps
  | [], p, h => by rw [jn, zmc c p [] (h p (by simp))]; rfl
  | q :: r, p, h => by
    rw [jn, zu c _ p [] (h p (by simp)), zmh c r q (fun z hz => h z (by simp at hz ⊢; exact .inr hz))]; rfl
theorem zdd (c : UInt8) : ∀ (ps : List (List UInt8)) (p : List UInt8), Go.Lib.join (p :: ps) [c] = jn c p ps
  | [], p => by rw [Go.Lib.join_cons]; simp [Go.Lib.joinTail, jn]
  | q :: r, p => by
    have h := zdd c r q
    rw [Go.Lib.join_cons] at h ⊢
    rw [jn, ← h]
    simp [Go.Lib.joinTail]
theorem zjb (c : UInt8) (b : List UInt8) : ∀ (a : List UInt8), c ∉ a → Go.Lib.index (a ++ c :: b) [c] = (a.length : Int)
  | [], _ => by simp [Go.Lib.index, List.isPrefixOf]
  | x :: r, h => by
    have h1 : ¬ x = c := fun e => h (by simp [e])
    have h2 : (c == x) = false := by simp; exact fun e => h1 e.symm
    rw [List.cons_append, Go.Lib.index, zjb c b r (fun hm => h (by simp [hm]))]
    have h3 : ¬ (((r.length : Nat) : Int) == -1) = true := by simp
    simp [List.isPrefixOf, h2, h3]
theorem zhb (c : UInt8) : ∀ (a : List UInt8), c ∉ a → Go.Lib.index a [c] = -1
  | [], _ => by simp [Go.Lib.index]
  | x :: r, h => by
    have h1 : ¬ x = c := fun e => h (by simp [e])
    have h2 : (c == x) = false := by simp; exact fun e => h1 e.symm
    rw [Go.Lib.index, zhb c r (fun hm => h (by simp [hm]))]
    simp [List.isPrefixOf, h2]
theorem zti (c : UInt8) (a b : List UInt8) (h : c ∉ a) : Go.Lib.cut (a ++ c :: b) [c] = (a, b, true) := by
  unfold Go.Lib.cut
  rw [zjb c b a h, if_pos (by omega)]
  simp
theorem zkd (c : UInt8) : ∀ (l : List UInt8), c ∈ l → ∃ a b, l = a ++ c :: b ∧ c ∉ a
  | [], h => by simp at h
  | x :: r, h => by
    by_cases h1 : x = c
    · subst h1; exact ⟨[], r, rfl, by simp⟩
    · obtain ⟨a, b, e, hn⟩ := zkd c r (by rcases List.mem_cons.1 h with h | h; exact absurd h.symm h1; exact h)
      exact ⟨x :: a, b, by rw [e]; rfl, by simp; exact ⟨fun e => h1 e.symm, hn⟩⟩
theorem zge (c : UInt8) : ∀ (n : Nat) (l : List UInt8), l.length ≤ n → Go.Lib.splitK [c] 0 (Go.Lib.count l [c]) l = spA c [] l := by
  intro n
  induction n with
  | zero =>
    intro l hl
    have : l = [] := List.length_eq_zero_iff.1 (by omega)
    subst this
    rw [Go.Lib.count_miss (zhb c [] (by simp))]; rfl
  | succ n ih =>
    intro l hl
    by_cases hm : c ∈ l
    · obtain ⟨a, b, rfl, hn⟩ := zkd c l hm
      have hi := zjb c b a hn
      rw [Go.Lib.count_hit (by simp) hi, zu c b a [] hn, Nat.add_comm 1, Go.Lib.splitK, hi, if_neg (by simp)]
      simp only [List.length_append, List.length_cons] at hl
      have e1 : (a ++ c :: b).drop (a.length + [c].length) = b := by simp [List.drop_append]
      rw [Int.toNat_natCast, e1, ih b (by omega)]
      simp
    · rw [Go.Lib.count_miss (zhb c l hm), zmc c l [] hm]; rfl
theorem zzd (c : UInt8) (l : List UInt8) : Go.Lib.splitB (⟨#[c]⟩ : ByteArray) 0 (Go.Lib.countB (up l) (⟨#[c]⟩ : ByteArray)) (up l) = (spA c [] l).map up := by
  have h := Go.Lib.splitB_data (⟨#[c]⟩ : ByteArray) 0 (Go.Lib.countB (up l) (⟨#[c]⟩ : ByteArray)) (up l)
  have e1 : (up l).data.toList = l := L_mk l
  have e2 : ((⟨#[c]⟩ : ByteArray)).data.toList = [c] := rfl
  unfold Go.Lib.countB at h ⊢
  rw [e1, e2, zge c l.length l (Nat.le_refl _)] at h
  rw [e1, e2]
  rw [← h, List.map_map]
  generalize Go.Lib.splitB _ _ _ _ = ws
  induction ws with
  | nil => rfl
  | cons w r ih => rw [List.map_cons, ← ih]; exact congrArg (· :: r) (up_L w)
theorem zca (d : Nat) (h : d < 10) : (UInt8.ofNat (48 + d)).toNat = 48 + d := by simp; omega
theorem zqb (a : Int) (h : 0 ≤ a ∧ a < 100) : (∃ d : Nat, d < 10 ∧ a = (d : Int) ∧ dd a = [UInt8.ofNat (48 + d)]) ∨ (∃ e d : Nat, 1 ≤ e ∧ e < 10 ∧ d < 10 ∧ a = 10 * (e : Int) + (d : Int) ∧ dd a = [UInt8.ofNat (48 + e), UInt8.ofNat (48 + d)]) := by
  unfold dd
  by_cases h1 : a.toNat < 10
  · exact .inl ⟨a.toNat, h1, by omega, zgc _ h1⟩
  · exact .inr ⟨a.toNat / 10, a.toNat % 10, by omega, by omega, by omega, by omega, by rw [zcg _ h1, zgc _ (by omega)]; rfl⟩
theorem zt (a : Int) (h : 0 ≤ a ∧ a < 100) (c : UInt8) (hc : c.toNat < 48 ∨ 57 < c.toNat) : c ∉ dd a := by
  intro hm
  rcases zqb a h with ⟨d, hd, _, e⟩ | ⟨x, d, _, hx, hd, _, e⟩
  · rw [e] at hm
    have := zca d hd
    simp only [List.mem_cons, List.not_mem_nil, or_false] at hm
    subst hm; omega
  · rw [e] at hm
    have h1 := zca d hd
    have h2 := zca x hx
    simp only [List.mem_cons, List.not_mem_nil, or_false] at hm
    rcases hm with rfl | rfl <;> omega
theorem zuc (acc d : Nat) (ha : acc < 1000) (hd : d < 10) (r : List UInt8) : Go.Lib.parseUint10 acc (UInt8.ofNat (48 + d) :: r) = Go.Lib.parseUint10 (acc * 10 + d) r := by
  have h := zca d hd
  rw [Go.Lib.parseUint10, h, if_pos (by omega), if_neg (by omega), if_neg (by omega), show 48 + d - 48 = d by omega]
theorem zua (a : Int) (h : 0 ≤ a ∧ a < 100) : Go.Lib.atoiAll (dd a) = .ok a := by
  rcases zqb a h with ⟨d, hd, e0, e⟩ | ⟨x, d, hx0, hx, hd, e0, e⟩
  · have h1 := zca d hd
    rw [e, Go.Lib.atoiAll_plain _ _ (by omega) (by omega), Go.Lib.parseMag, if_neg (by simp), zuc 0 d (by omega) hd, Go.Lib.parseUint10]
    simp only [Go.Lib.signless]
    rw [if_neg (by omega), e0]; simp
  · have h1 := zca d hd
    have h2 := zca x hx
    rw [e, Go.Lib.atoiAll_plain _ _ (by omega) (by omega), Go.Lib.parseMag, if_neg (by simp), zuc 0 x (by omega) hx, zuc _ d (by omega) hd, Go.Lib.parseUint10]
    simp only [Go.Lib.signless]
    rw [if_neg (by omega), e0]
    congr 1
    omega
end Go.Proofs.YtfaakdokcldnkaaGreatDoor.Pl
end
section
namespace Go.Proofs.YtfaakdokcldnkaaGreatDoor.Pl
open Go.RowKit Go.Proofs.YtfaakdokcldnkaaGreatDoorW.PrintWords Go.Proofs.YtfaakdokcldnkaaGreatDoorW.PrintMore Go.Proofs.YtfaakdokcldnkaaGreatDoor.Opn
set_option linter.unusedVariables false
set_option linter.unusedSimpArgs false
theorem znh : ∀ (a b : List UInt8), a.length = b.length → Op.bytesLess a b = true → ∀ x y, Op.bytesLess (a ++ x) (b ++ y) = true
  | [], [], _, h, _, _ => by simp [Op.bytesLess] at h
  | [], b :: t, h, _, _, _ => by simp at h
  | a :: s, [], h, _, _, _ => by simp at h
  | a :: s, b :: t, hl, h, x, y => by
    simp only [Op.bytesLess, Bool.or_eq_true, Bool.and_eq_true] at h
    simp only [List.cons_append, Op.bytesLess, Bool.or_eq_true, Bool.and_eq_true]
    rcases h with h | ⟨h1, h2⟩
    · exact .inl h
    · exact .inr ⟨h1, znh s t (by simpa using hl) h2 x y⟩
theorem zqe : ∀ (a : List UInt8), Op.bytesLess (a ++ [60]) (a ++ [62]) = true
  | [] => by decide
  | a :: s => by simp only [List.cons_append, Op.bytesLess, zqe s]; simp
theorem zwf : ∀ (n q q' : Nat), q < q' → q' < 2 ^ n → Op.bytesLess (mk n q) (mk n q') = true
  | 0, q, q', h, h' => by simp at h'; omega
  | n + 1, q, q', h, h' => by
    rw [Nat.pow_succ] at h'
    rw [mk, mk]
    by_cases e : q / 2 = q' / 2
    · rw [e, show q % 2 = 0 by omega, show q' % 2 = 1 by omega]
      exact zqe _
    · exact znh _ _ (by rw [zq, zq]) (zwf n _ _ (by omega) (by omega)) _ _
end Go.Proofs.YtfaakdokcldnkaaGreatDoor.Pl
end
