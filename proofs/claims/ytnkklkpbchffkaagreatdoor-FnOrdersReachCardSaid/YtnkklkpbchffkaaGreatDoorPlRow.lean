/- Plain facts: Row. No condition. -/
import Derived.Test.YtnkklkpbchffkaaGreatDoorPlTick
import Derived.Test.YtnkklkpbchffkaaGreatDoorPlList
import Derived.RowKit
import Derived.Test.YtnkklkpbchffkaaGreatDoorWWords
import Derived.Test.YtnkklkpbchffkaaGreatDoorWMore
import Derived.Test.YtnkklkpbchffkaaGreatDoorOpn
namespace Go.Proofs.YtnkklkpbchffkaaGreatDoor.Pl
open Go.RowKit Go.Proofs.YtnkklkpbchffkaaGreatDoorW.PrintWords Go.Proofs.YtnkklkpbchffkaaGreatDoorW.PrintMore Go.Proofs.YtnkklkpbchffkaaGreatDoor.Opn
set_option linter.unusedVariables false
set_option linter.unusedSimpArgs false
open Go.Lib
/-- The text of some bytes. -/
abbrev up (l : List UInt8) : ByteArray := ⟨l.toArray⟩
theorem up_L (s : ByteArray) : s = up (L s) := (mk_L s).symm
theorem up_size (l : List UInt8) : (up l).size = l.length := by rw [size_L, L_mk]
theorem up_isize (l : List UInt8) : ((up l).size : Int) = (l.length : Int) := by rw [up_size]
theorem up_bt (l : List UInt8) (i : Nat) (h : i < l.length) (c : UInt8) : (bt (up l) (i : Int) = (c.toNat : Int)) ↔ l[i] = c := by
  rw [bt_is (up l) i (by rw [L_mk]; exact h) c]
theorem up60 (l : List UInt8) (i : Nat) (h : i < l.length) : (bt (up l) (i : Int) = 60) ↔ l[i] = 60 := up_bt l i h 60
theorem up62 (l : List UInt8) (i : Nat) (h : i < l.length) : (bt (up l) (i : Int) = 62) ↔ l[i] = 62 := up_bt l i h 62
theorem up_app (a b : List UInt8) : up a ++ up b = up (a ++ b) := L_inj (by simp [L])
theorem up_take (l : List UInt8) (n : Nat) : (up l).extract 0 n = up (l.take n) := L_inj (by simp [L])
theorem up_drop (l : List UInt8) (n : Nat) : (up l).extract n (up l).size = up (l.drop n) := L_inj (by rw [up_size]; simp [L, List.take_of_length_le])
theorem prs_two (l : List UInt8) (i : Nat) (h : i + 1 < l.length) : prs i (l.drop i) = (if l[i] = 62 ∧ l[i + 1] = 60 then [(i : Int)] else []) ++ prs (i + 1) (l.drop (i + 1)) := by
  have e : l.drop i = l[i] :: l[i + 1] :: l.drop (i + 2) := by rw [List.drop_eq_getElem_cons (by omega), List.drop_eq_getElem_cons h]
  have e2 : l.drop (i + 1) = l[i + 1] :: l.drop (i + 2) := List.drop_eq_getElem_cons h
  rw [e, e2, prs]
  split <;> simp
theorem prs_one (l : List UInt8) (i : Nat) (h : ¬ i + 1 < l.length) : prs i (l.drop i) = [] := by
  have : (l.drop i).length ≤ 1 := by simp; omega
  match hd : l.drop i, this with
  | [], _ => rfl
  | [a], _ => rfl
theorem trn_len (s : List UInt8) (i : Int) (h0 : 0 ≤ i) (h1 : i + 1 < s.length) : (trn s i).length = s.length := by
  unfold trn; simp; omega
theorem prs_sparse : ∀ (s : List UInt8) (o : Nat), (prs o s).Pairwise (fun x y => x + 2 ≤ y)
  | [], o => by simp [prs]
  | [a], o => by simp [prs]
  | a :: b :: r, o => by
    rw [prs]
    split
    · next h =>
      refine List.pairwise_cons.2 ⟨fun y hy => ?_, prs_sparse (b :: r) (o + 1)⟩
      cases r with
      | nil => simp [prs] at hy
      | cons c r =>
        rw [prs, if_neg (by rintro ⟨h1, _⟩; rw [h.2] at h1; exact absurd h1 (by decide))] at hy
        have := prs_ge (c :: r) (o + 1 + 1) y hy
        omega
    · exact prs_sparse (b :: r) (o + 1)
/-- The row behind n ticks. -/
def twn : Nat → List UInt8 → List UInt8
  | 0, l => l
  | n + 1, l => twn n (twk l)
theorem twn_rest : ∀ (n : Nat) (l : List UInt8), fac l = false → twn n l = l
  | 0, _, _ => rfl
  | n + 1, l, h => by rw [twn, twk_rest l h, twn_rest n l h]
theorem twn_len : ∀ (n : Nat) (l : List UInt8), (twn n l).length = l.length
  | 0, _ => rfl
  | n + 1, l => by rw [twn, twn_len n, twk_len]
/-- How often soldier a turns, in f ticks. -/
def trc : Nat → Int → List UInt8 → Int
  | 0, _, _ => 0
  | f + 1, a, l => if fac l = true then (if a ∈ prs 0 l ∨ a - 1 ∈ prs 0 l then 1 else 0) + trc f a (twk l) else 0
theorem trc_bd : ∀ (f : Nat) (a : Int) (l : List UInt8), 0 ≤ trc f a l ∧ trc f a l ≤ f
  | 0, _, _ => by simp [trc]
  | f + 1, a, l => by
    have := trc_bd f a (twk l)
    rw [trc]
    split
    · split <;> omega
    · omega
def bump (o : List Int) (j : Int) : List Int := (o.set j.toNat (wrap64 (rd o j + 1))).set (j + 1).toNat (wrap64 (rd (o.set j.toNat (wrap64 (rd o j + 1))) (j + 1) + 1))
theorem bump_len (o : List Int) (j : Int) : (bump o j).length = o.length := by simp [bump]
theorem rd_set (o : List Int) (j a v : Int) (h0 : 0 ≤ j) (h1 : j < o.length) (ha : 0 ≤ a) : rd (o.set j.toNat v) a = if a = j then v else rd o a := by
  unfold rd
  rw [List.getD_eq_getElem?_getD, List.getElem?_set, List.getD_eq_getElem?_getD]
  by_cases e : a = j
  · subst e
    rw [if_pos rfl, if_pos (by omega), if_pos rfl]; rfl
  · rw [if_neg (by omega), if_neg e]
theorem rd_bump (o : List Int) (j a : Int) (h0 : 0 ≤ j) (h1 : j + 1 < o.length) (ha : 0 ≤ a) (hb : ∀ q, 0 ≤ rd o q ∧ rd o q ≤ 1000000000) : rd (bump o j) a = rd o a + if a = j ∨ a = j + 1 then 1 else 0 := by
  have b0 := hb j
  have b1 := hb (j + 1)
  have e0 : ∀ v, rd (o.set j.toNat v) (j + 1) = rd o (j + 1) := fun v => by rw [rd_set o j (j + 1) v h0 (by omega) (by omega), if_neg (by omega)]
  unfold bump
  rw [e0, rd_set _ (j + 1) a _ (by omega) (by simp; omega) ha, rd_set o j a _ h0 (by omega) ha, wrap64_id (x := rd o j + 1) (by omega) (by omega), wrap64_id (x := rd o (j + 1) + 1) (by omega) (by omega)]
  by_cases e1 : a = j
  · subst e1; rw [if_neg (by omega), if_pos rfl, if_pos (.inl rfl)]
  · by_cases e2 : a = j + 1
    · subst e2; simp
    · simp [e1, e2]
theorem rd_fold : ∀ (ps : List Int) (o : List Int) (B : Int), ps.Pairwise (fun x y => x + 2 ≤ y) → (∀ p ∈ ps, 0 ≤ p ∧ p + 1 < o.length) → 0 ≤ B → B ≤ 900000000 → (∀ p ∈ ps, (0 ≤ rd o p ∧ rd o p ≤ B) ∧ (0 ≤ rd o (p + 1) ∧ rd o (p + 1) ≤ B)) → (∀ q, 0 ≤ rd o q ∧ rd o q ≤ B + 1) →
    ∀ a, 0 ≤ a → rd (ps.foldl bump o) a = rd o a + if a ∈ ps ∨ a - 1 ∈ ps then 1 else 0
  | [], o, B, _, _, _, _, _, _, a, ha => by simp
  | p :: ps, o, B, hp, hl, hB0, hB1, hb, hq, a, ha => by
    obtain ⟨hp1, hp2⟩ := List.pairwise_cons.1 hp
    have ⟨h0, h1⟩ := hl p (by simp)
    have hq' : ∀ q, 0 ≤ rd o q ∧ rd o q ≤ 1000000000 := fun q => by have := hq q; omega
    have hn : ∀ q, q < 0 → rd (bump o p) q = rd (bump o p) 0 := fun q h => by simp [rd, Int.toNat_of_nonpos (Int.le_of_lt h)]
    rw [List.foldl_cons, rd_fold ps (bump o p) B hp2 (fun x hx => by rw [bump_len]; exact hl x (by simp [hx])) hB0 hB1 (fun x hx => ?_) (fun q => ?_) a ha, rd_bump o p a h0 h1 ha hq']
    · simp only [List.mem_cons]
      by_cases c1 : a = p ∨ a = p + 1
      · have n1 : ¬ (a ∈ ps ∨ a - 1 ∈ ps) := by
          rintro (h | h)
          · have := hp1 _ h; omega
          · have := hp1 _ h; omega
        rw [if_pos c1, if_neg n1, if_pos (by omega)]; omega
      · rw [if_neg c1]
        have : ((a = p ∨ a ∈ ps) ∨ (a - 1 = p ∨ a - 1 ∈ ps)) ↔ (a ∈ ps ∨ a - 1 ∈ ps) := by
          constructor
          · rintro ((h | h) | (h | h))
            · omega
            · exact .inl h
            · omega
            · exact .inr h
          · rintro (h | h)
            · exact .inl (.inr h)
            · exact .inr (.inr h)
        simp only [this]
        omega
    · have hx1 := hp1 x hx
      have := hb x (by simp [hx])
      rw [rd_bump o p x h0 h1 (by omega) hq', rd_bump o p (x + 1) h0 h1 (by omega) hq', if_neg (by omega), if_neg (by omega)]
      simpa using this
    · have hp0 := hb p (by simp)
      by_cases hq0 : 0 ≤ q
      · rw [rd_bump o p q h0 h1 hq0 hq']
        have := hq q
        split
        · next h => rcases h with rfl | rfl <;> omega
        · omega
      · rw [hn q (by omega), rd_bump o p 0 h0 h1 (by omega) hq']
        have := hq 0
        split
        · next h => rcases h with h | h
                    · subst h; omega
                    · omega
        · omega
theorem fold_bump_len : ∀ (ps : List Int) (o : List Int), (ps.foldl bump o).length = o.length
  | [], o => rfl
  | p :: ps, o => by rw [List.foldl_cons, fold_bump_len ps, bump_len]
end Go.Proofs.YtnkklkpbchffkaaGreatDoor.Pl
