/- The law FnExactMakePuzzle, pure: what the printed functions answer, and that it is what the law asks. No condition. -/
import Derived.Test.YtmindeeacfdonaaDoorStatFnExactMakePuzzle
import Derived.Test.YtmindeeacfdonaaDoorPlBase
import Derived.Test.YtmindeeacfdonaaDoorPlList
import Derived.Test.YtmindeeacfdonaaDoorPlClue
import Derived.Test.YtmindeeacfdonaaDoorPlBytes
import Derived.Test.YtmindeeacfdonaaDoorPlTick
import Derived.Test.YtmindeeacfdonaaDoorPlRow
import Derived.Test.YtmindeeacfdonaaDoorPlVal
namespace Go.Proofs.YtmindeeacfdonaaDoor.Pure
open Go.RowKit Go.Proofs.YtmindeeacfdonaaDoor.PFnExactMakePuzzle Go.Proofs.YtmindeeacfdonaaDoorW.PrintWords Go.Proofs.YtmindeeacfdonaaDoorW.PrintMore Go.Proofs.YtmindeeacfdonaaDoor.Opn Go.Proofs.YtmindeeacfdonaaDoor.Pl
set_option linter.unusedVariables false
set_option linter.unusedSimpArgs false
theorem in_eq (a b c : Int) : impl_in.f a b c = some (decide (b ≤ a ∧ a ≤ c)) := by
  unfold impl_in.f; by_cases h : b ≤ a <;> simp [h]
theorem l1In_eq (a b c : Int) : spec_l1In.f a b c = some (decide (b ≤ a ∧ a ≤ c)) := by
  unfold spec_l1In.f; by_cases h : b ≤ a <;> simp [h]
def cokS (n : Int) (x : S33) : Bool := cok n x.f0 x.f1 x.f2 x.f3
def pgood (n : Int) (l : List S33) : Bool := decide (1 ≤ n ∧ n ≤ 8) && (decide (l.length ≤ 6) && l.all (cokS n))
theorem rdClueI {l : List S33} {i : Nat} (h : i < l.length) : rd_T33 l (i : Int) = l[i] := by simp [rd_T33, h]
theorem all_drop (n : Int) (l : List S33) (i : Nat) (h : i < l.length) : (l.drop i).all (cokS n) = (cok n (rd_T33 l (i : Int)).f0 (rd_T33 l (i : Int)).f1 (rd_T33 l (i : Int)).f2 (rd_T33 l (i : Int)).f3 && (l.drop (i + 1)).all (cokS n)) := by
  rw [List.drop_eq_getElem_cons h, rdClueI h]; rfl
theorem eqClueS_loop (l : List S33) (hl : l.length ≤ 1000000000) : ∀ (d i : Nat), i + d = l.length → Ev (fun k => laws_eqClueS.l0 k l l (i : Int)) true := by
  intro d
  induction d with
  | zero =>
    intro i h
    refine Ev.succ ?_
    simp only [laws_eqClueS.l0]
    exact Ev.neg (by omega) (Ev.now _)
  | succ d ih =>
    intro i h
    refine Ev.succ ?_
    have e : ∀ (x y z u : Int), laws_eqClue.f x y z u x y z u = some true := by intro x y z u; unfold laws_eqClue.f; simp
    simp only [laws_eqClueS.l0, e, Option.bind_some]
    refine Ev.pos (by omega) (Ev.pos (by omega) (Ev.pos (by omega) (Ev.pos (by first | rfl | trivial) ?_)))
    rw [wrap64_id (x := (i : Int) + 1) (by omega) (by omega)]
    exact ih (i + 1) (by omega)
theorem eqPuzzle_ev (n : Int) (l : List S33) (hl : l.length ≤ 1000000000) : Ev (fun k => laws_eqPuzzle.f k n l n l) true := by
  unfold laws_eqPuzzle.f
  refine Ev.pos rfl (Ev.bind (a := true) ?_ (Ev.const (by simp)))
  unfold laws_eqClueS.f
  exact Ev.pos rfl (eqClueS_loop l hl l.length 0 (by omega))
def mkd (c : Int) : S33 := ⟨c, c + 1, c + 2, c + 3⟩
def mks : Nat → List S33
  | 0 => []
  | n + 1 => mks n ++ [mkd (4 * (n : Int) + 1)]
theorem mks_len : ∀ n, (mks n).length = n
  | 0 => rfl
  | n + 1 => by simp [mks, mks_len n]
theorem rd_mid (a : List S33) (y : S33) (b : List S33) (i : Nat) (h : a.length = i) : rd_T33 (a ++ y :: b) (i : Int) = y := by simp [rd_T33, ← h]
theorem set_mid (a : List S33) (y z : S33) (b : List S33) (i : Nat) (h : a.length = i) : (a ++ y :: b).set i z = a ++ z :: b := by
  rw [List.set_append_right _ _ (by omega), ← h, Nat.sub_self]; rfl
theorem mark_loop (l : List S33) (hl : l.length ≤ 100000000) : ∀ (d i : Nat), i + d = l.length → Ev (fun k => laws_markClueS.l0 k (mks i ++ l.drop i) (4 * (i : Int) + 1) (i : Int)) (4 * (l.length : Int) + 1, mks l.length) := by
  intro d
  induction d with
  | zero =>
    intro i h
    refine Ev.succ ?_
    simp only [laws_markClueS.l0]
    refine Ev.neg (by simp [mks_len]; omega) (Ev.const ?_)
    rw [List.drop_of_length_le (by omega), List.append_nil, show i = l.length by omega]
  | succ d ih =>
    intro i h
    have hd : l.drop i = l[i]'(by omega) :: l.drop (i + 1) := List.drop_eq_getElem_cons (by omega)
    refine Ev.succ ?_
    simp only [laws_markClueS.l0, Option.bind_some]
    refine Ev.pos (by simp [mks_len]; omega) (Ev.pos (by omega) ?_)
    rw [hd]
    simp only [Int.toNat_natCast, rd_mid _ _ _ i (mks_len i), set_mid _ _ _ _ i (mks_len i)]
    rw [wrap64_id (x := 4 * (i : Int) + 1 + 1) (by omega) (by omega), wrap64_id (x := 4 * (i : Int) + 1 + 1 + 1) (by omega) (by omega), wrap64_id (x := 4 * (i : Int) + 1 + 1 + 1 + 1) (by omega) (by omega), wrap64_id (x := 4 * (i : Int) + 1 + 1 + 1 + 1 + 1) (by omega) (by omega), wrap64_id (x := (i : Int) + 1) (by omega) (by omega)]
    have := ih (i + 1) (by omega)
    have e : mks (i + 1) ++ l.drop (i + 1) = mks i ++ (⟨4 * (i : Int) + 1, 4 * (i : Int) + 1 + 1, 4 * (i : Int) + 1 + 1 + 1, 4 * (i : Int) + 1 + 1 + 1 + 1⟩ : S33) :: l.drop (i + 1) := by
      simp only [mks, mkd, List.append_assoc, List.singleton_append]
      congr 2
    rw [e, show 4 * ((i + 1 : Nat) : Int) + 1 = 4 * (i : Int) + 1 + 1 + 1 + 1 + 1 by omega] at this
    exact this
theorem markPuzzle_ev (n : Int) (l : List S33) (hl : l.length ≤ 100000000) : Ev (fun k => laws_markPuzzle.f k n l 1) (4 * (l.length : Int) + 1, mks l.length) := by
  unfold laws_markPuzzle.f laws_markClueS.f
  have := mark_loop l hl l.length 0 (by omega)
  exact Ev.bind (by simpa [mks] using this) (Ev.now _)
theorem mks_get : ∀ (n i : Nat) (h : i < n), (mks n)[i]'(by rw [mks_len]; exact h) = mkd (4 * (i : Int) + 1)
  | 0, i, h => by omega
  | n + 1, i, h => by
    by_cases hi : i < n
    · have := mks_get n i hi
      simp only [mks]
      rw [List.getElem_append_left (by rw [mks_len]; exact hi)]
      exact this
    · obtain rfl : i = n := by omega
      simp only [mks]
      rw [List.getElem_append_right (by rw [mks_len]; omega)]
      simp [mks_len]
theorem held_loop (m : Nat) (hl : m ≤ 100000000) : ∀ (d i : Nat), i + d = m → Ev (fun k => laws_heldClueS.l0 k (mks m) (4 * (i : Int) + 1) (i : Int)) (4 * (m : Int) + 1) := by
  intro d
  induction d with
  | zero =>
    intro i h
    refine Ev.succ ?_
    simp only [laws_heldClueS.l0]
    refine Ev.neg (by rw [mks_len]; omega) (Ev.const ?_)
    rw [show i = m by omega]
  | succ d ih =>
    intro i h
    have e : rd_T33 (mks m) (i : Int) = mkd (4 * (i : Int) + 1) := by
      rw [rdClueI (by rw [mks_len]; omega), mks_get m i (by omega)]
    refine Ev.succ ?_
    simp only [laws_heldClueS.l0, e, mkd]
    rw [wrap64_id (x := 4 * (i : Int) + 1 + 1) (by omega) (by omega), wrap64_id (x := 4 * (i : Int) + 1 + 1 + 1) (by omega) (by omega), wrap64_id (x := 4 * (i : Int) + 1 + 1 + 1 + 1) (by omega) (by omega), wrap64_id (x := 4 * (i : Int) + 1 + 1 + 1 + 1 + 1) (by omega) (by omega), wrap64_id (x := (i : Int) + 1) (by omega) (by omega)]
    refine Ev.pos (by rw [mks_len]; omega) (Ev.pos (by omega) (Ev.pos (by first | rfl | trivial) (Ev.pos (by first | rfl | trivial) (Ev.pos (by omega) (Ev.pos (by omega) ?_)))))
    have := ih (i + 1) (by omega)
    rw [show 4 * ((i + 1 : Nat) : Int) + 1 = 4 * (i : Int) + 1 + 1 + 1 + 1 + 1 by omega] at this
    exact this
theorem heldPuzzle_ev (n : Int) (m : Nat) (hl : m ≤ 100000000) : Ev (fun k => laws_heldPuzzle.f k n (mks m) 1) (4 * (m : Int) + 1) := by
  unfold laws_heldPuzzle.f laws_heldClueS.f
  have := held_loop m hl m 0 (by omega)
  exact Ev.bind (by simpa using this) (Ev.const (by rw [if_neg (by omega)]))
theorem rwGood_loop (s : ByteArray) (hs : s.size ≤ 140737488351232) : ∀ (d i : Nat), i + d = (L s).length → Ev (fun k => spec_rwGood.l0 k s (i : Int)) (((L s).drop i).all sgn) := by
  have hl := size_L s
  intro d
  induction d with
  | zero =>
    intro i hi
    refine Ev.succ ?_
    simp only [spec_rwGood.l0]
    refine Ev.neg (by omega) (Ev.const ?_)
    rw [List.drop_of_length_le (by omega)]; rfl
  | succ d ih =>
    intro i hi
    have hlt : i < (L s).length := by omega
    refine Ev.succ ?_
    simp only [spec_rwGood.l0]
    rw [List.drop_eq_getElem_cons hlt, List.all_cons, wrap64_id (x := (i : Int) + 1) (by omega) (by omega)]
    refine Ev.pos (by omega) (Ev.pos (by omega) ?_)
    refine Ev.iff (fun hc => ?_) (fun hc => Ev.iff (fun hd => ?_) (fun hd => ?_))
    · rw [bt60 s i hlt] at hc
      rw [hc]; exact ih (i + 1) (by omega)
    · rw [bt62 s i hlt] at hd
      rw [hd]; exact ih (i + 1) (by omega)
    · rw [bt60 s i hlt] at hc
      rw [bt62 s i hlt] at hd
      have e : sgn (L s)[i] = false := by unfold sgn; rw [beq_eq_false_iff_ne.2 hc, beq_eq_false_iff_ne.2 hd]; rfl
      rw [e]; exact Ev.now _
theorem rwGood_ev (s : ByteArray) (hs : s.size ≤ 140737488351232) : Ev (fun k => spec_rwGood.f k s) (rgood (L s)) := by
  have hl := size_L s
  unfold spec_rwGood.f rgood
  simp only [l1In_eq, Option.bind_some]
  refine Ev.iff (fun hc => ?_) (fun hc => ?_)
  · rw [decide_eq_true_eq] at hc
    rw [decide_eq_true (by omega), Bool.true_and]
    have := rwGood_loop s hs (L s).length 0 (by omega)
    rw [List.drop_zero] at this
    exact this
  · rw [decide_eq_true_eq] at hc
    rw [decide_eq_false (by omega), Bool.false_and]
    exact Ev.now _
theorem isRow_eq (s : ByteArray) (hs : s.size ≤ 140737488351232) : impl_isRow.f s = some (rgood (L s)) := by
  have hl := size_L s
  unfold impl_isRow.f rgood strings_Trim.f
  simp only [in_eq, Option.bind_some]
  by_cases h : 1 ≤ (L s).length ∧ (L s).length ≤ 60
  · rw [if_pos (by rw [decide_eq_true_eq]; omega), if_pos ⟨by omega, by decide, by decide⟩, decide_eq_true h, Bool.true_and, Option.bind_some, toList_L, L_mk]
    congr 1
    by_cases ha : (L s).all sgn = true
    · rw [ha]
      exact beq_iff_eq.2 ((trim_sgn (L s)).2 ha)
    · rw [Bool.not_eq_true] at ha
      rw [ha, beq_eq_false_iff_ne]
      intro e
      have := (trim_sgn (L s)).1 e
      rw [ha] at this
      exact absurd this (by decide)
  · rw [if_neg (by rw [decide_eq_true_eq]; omega), decide_eq_false h, Bool.false_and]
theorem isAtRest_eq (l : List UInt8) (h : l.length ≤ 1000) : impl_isAtRest.f (up l) = some (!fac l) := by
  have hs := up_size l
  unfold impl_isAtRest.f strings_Contains.f
  rw [if_pos (by omega), Option.bind_some]
  show some (!(Lib.contains (L (up l)) [62, 60])) = _
  rw [L_mk, fac_index]
theorem tick_eq (l : List UInt8) (h : l.length ≤ 1000) : impl_tick.f (up l) = some (up (twk l)) := by
  have hs := up_size l
  unfold impl_tick.f strings_ReplaceAll.f
  have hc : Lib.countB (up l) ⟨#[62, 60]⟩ ≤ l.length + 1 := by
    have := Lib.count_le (L (up l)) [62, 60]
    rw [L_mk] at this
    exact Nat.le_trans (by rw [Lib.countB]; show Lib.count (L (up l)) [62, 60] ≤ _; rw [L_mk]; exact Nat.le_refl _) this
  have e2 : (⟨#[60, 62]⟩ : ByteArray).size = 2 := rfl
  rw [if_pos ⟨by omega, by decide, by rw [e2]; omega⟩, Option.bind_some]
  show some (up (Lib.replaceAll (L (up l)) [62, 60] [60, 62])) = _
  rw [L_mk, replaceAll_twk]
theorem rwPairs_loop (l : List UInt8) (h : l.length ≤ 1000) : ∀ (d i : Nat) (acc : List Int), i + d = l.length → acc.length ≤ i → Ev (fun k => spec_rwPairs.l0 k (up l) acc (i : Int)) (acc ++ prs i (l.drop i)) := by
  intro d
  induction d with
  | zero =>
    intro i acc hi ha
    refine Ev.succ ?_
    simp only [spec_rwPairs.l0, up_isize]
    rw [wrap64_id (x := (i : Int) + 1) (by omega) (by omega), prs_one l i (by omega), List.append_nil]
    exact Ev.neg (by omega) (Ev.now _)
  | succ d ih =>
    intro i acc hi ha
    refine Ev.succ ?_
    simp only [spec_rwPairs.l0, up_isize]
    rw [wrap64_id (x := (i : Int) + 1) (by omega) (by omega)]
    refine Ev.iff (fun h1 => ?_) (fun h1 => ?_)
    · rw [prs_two l i (by omega)]
      refine Ev.pos (by omega) (Ev.pos (by omega) ?_)
      have h2 : i + 1 < l.length := by omega
      have e1 := ih (i + 1) acc (by omega) (by omega)
      refine Ev.iff (fun c1 => ?_) (fun c1 => ?_)
      · rw [up62 l i (by omega)] at c1
        refine Ev.pos (by omega) (Ev.iff (fun c2 => ?_) (fun c2 => ?_))
        · rw [show ((i : Int) + 1) = ((i + 1 : Nat) : Int) by omega, up60 l (i + 1) h2] at c2
          refine Ev.pos (by omega) ?_
          rw [if_pos ⟨c1, c2⟩]
          have := ih (i + 1) (acc ++ [(i : Int)]) (by omega) (by simp; omega)
          rw [← List.append_assoc]; exact this
        · rw [show ((i : Int) + 1) = ((i + 1 : Nat) : Int) by omega, up60 l (i + 1) h2] at c2
          rw [if_neg (fun c => c2 c.2), List.nil_append]; exact e1
      · rw [up62 l i (by omega)] at c1
        rw [if_neg (fun c => c1 c.1), List.nil_append]; exact e1
    · rw [prs_one l i (by omega), List.append_nil]; exact Ev.now _
theorem rwPairs_ev (l : List UInt8) (h : l.length ≤ 1000) : Ev (fun k => spec_rwPairs.f k (up l)) (prs 0 l) := by
  unfold spec_rwPairs.f
  have := rwPairs_loop l h l.length 0 [] (by omega) (by simp)
  simpa using this
theorem facing_loop (l : List UInt8) (h : l.length ≤ 1000) : ∀ (d i : Nat) (acc : List Int), i + d + 1 = l.length → acc.length ≤ i → Ev (fun k => impl_facing.l0 k (up l) acc ((l.length : Int) - 1) (i : Int)) (acc ++ prs i (l.drop i)) := by
  intro d
  induction d with
  | zero =>
    intro i acc hi ha
    refine Ev.succ ?_
    simp only [impl_facing.l0, up_isize]
    rw [prs_one l i (by omega), List.append_nil]
    exact Ev.neg (by omega) (Ev.now _)
  | succ d ih =>
    intro i acc hi ha
    refine Ev.succ ?_
    simp only [impl_facing.l0, up_isize]
    rw [wrap64_id (x := (i : Int) + 1) (by omega) (by omega)]
    refine Ev.pos (by omega) ?_
    rw [prs_two l i (by omega)]
    refine Ev.pos (by omega) (Ev.pos (by omega) ?_)
    have h2 : i + 1 < l.length := by omega
    have e1 := ih (i + 1) acc (by omega) (by omega)
    refine Ev.iff (fun c1 => ?_) (fun c1 => ?_)
    · rw [up62 l i (by omega)] at c1
      refine Ev.pos (by omega) (Ev.pos (by omega) (Ev.iff (fun c2 => ?_) (fun c2 => ?_)))
      · rw [show ((i : Int) + 1) = ((i + 1 : Nat) : Int) by omega, up60 l (i + 1) h2] at c2
        refine Ev.pos (by omega) ?_
        rw [if_pos ⟨c1, c2⟩]
        have := ih (i + 1) (acc ++ [(i : Int)]) (by omega) (by simp; omega)
        rw [← List.append_assoc]; exact this
      · rw [show ((i : Int) + 1) = ((i + 1 : Nat) : Int) by omega, up60 l (i + 1) h2] at c2
        rw [if_neg (fun c => c2 c.2), List.nil_append]; exact e1
    · rw [up62 l i (by omega)] at c1
      rw [if_neg (fun c => c1 c.1), List.nil_append]; exact e1
theorem facing_ev (l : List UInt8) (h1 : 1 ≤ l.length) (h : l.length ≤ 1000) : Ev (fun k => impl_facing.f k (up l)) (prs 0 l) := by
  unfold impl_facing.f
  rw [up_isize, wrap64_id (x := (l.length : Int) - 1) (by omega) (by omega)]
  have := facing_loop l h (l.length - 1) 0 [] (by omega) (by simp)
  simpa using this
theorem rwTick_loop (ps : List Int) (hps : ps.length ≤ 1000) (n : Nat) (hn : n ≤ 1000) (hp : ∀ p ∈ ps, 0 ≤ p ∧ p + 1 < n) : ∀ (d i : Nat) (c : List UInt8), i + d = ps.length → c.length = n → Ev (fun k => spec_rwTick.l0 k (up c) ps (ps.length : Int) (i : Int)) (up ((ps.drop i).foldl trn c)) := by
  intro d
  induction d with
  | zero =>
    intro i c hi hc
    refine Ev.succ ?_
    simp only [spec_rwTick.l0]
    rw [List.drop_of_length_le (by omega)]
    exact Ev.neg (by omega) (Ev.now _)
  | succ d ih =>
    intro i c hi hc
    have hlt : i < ps.length := by omega
    have hm := hp (rd ps (i : Int)) (rd_mem hlt)
    obtain ⟨q, hq⟩ : ∃ q : Nat, rd ps (i : Int) = q := ⟨(rd ps (i : Int)).toNat, by omega⟩
    refine Ev.succ ?_
    simp only [spec_rwTick.l0, hq]
    rw [rd_cons_drop hlt, List.foldl_cons, wrap64_id (x := (i : Int) + 1) (by omega) (by omega), wrap64_id (x := (q : Int) + 2) (by omega) (by omega), Int.toNat_natCast, show ((q : Int) + 2).toNat = q + 2 by omega, up_take, up_drop]
    have e1 : up (c.take q) ++ (⟨#[60, 62]⟩ : ByteArray) = up (c.take q ++ [60, 62]) := up_app _ [60, 62]
    simp only [e1, up_app, up_isize]
    have e2 : (up (List.take q c)).size ≤ 1000 := by rw [up_size]; simp; omega
    have e3 : (up (List.take q c ++ [60, 62])).size ≤ 1002 := by rw [up_size]; simp; omega
    have e4 : (up (List.drop (q + 2) c)).size ≤ 1000 := by rw [up_size]; simp; omega
    refine Ev.pos (by omega) (Ev.pos (by omega) (Ev.pos (by omega) (Ev.pos (by omega) (Ev.pos (by omega) (Ev.pos (by omega) (Ev.pos (by omega) (Ev.pos (by omega) (Ev.pos (by omega) ?_))))))))
    have e5 : List.take q c ++ [60, 62] ++ List.drop (q + 2) c = trn c (rd ps (i : Int)) := by rw [hq]; rfl
    rw [e5]
    exact ih (i + 1) _ (by omega) (by rw [trn_len _ _ (by omega) (by omega)]; exact hc)
theorem rwTick_ev (l : List UInt8) (h : l.length ≤ 1000) : Ev (fun k => spec_rwTick.f k (up l)) (up (twk l)) := by
  unfold spec_rwTick.f
  refine Ev.bind (rwPairs_ev l h) ?_
  have hl := prs_len l 0
  have := rwTick_loop (prs 0 l) (by omega) l.length h (fun p hp => by have := prs_ge l 0 p hp; omega) (prs 0 l).length 0 l (by omega) rfl
  rw [List.drop_zero, fold_tick] at this
  exact this
theorem wt_1000 (l : List UInt8) (h : l.length ≤ 1000) : wt l ≤ 1000000 := Nat.le_trans (wt_sq l) (Nat.mul_le_mul h h)
theorem fac_prs (l : List UInt8) : (((prs 0 l).length : Int) > 0) ↔ fac l = true := by
  have := prs_nil l 0
  constructor
  · intro h
    rw [← Bool.not_eq_false, ← this]
    intro e; rw [e] at h; simp at h
  · intro h
    have : prs 0 l ≠ [] := by rw [Ne, this]; simp [h]
    have := List.length_pos_iff.2 this
    omega
theorem rwRest_loop : ∀ (f : Nat) (l : List UInt8) (n : Int), l.length ≤ 1000 → wt l ≤ f → 0 ≤ n → n + f ≤ 1000000000 → Ev (fun k => spec_rwRest.l0 k (up l) n) (up (rst f l).1, n + ((rst f l).2 : Int)) := by
  intro f
  induction f with
  | zero =>
    intro l n hl hw h0 h1
    have hf : fac l = false := by
      rw [← Bool.not_eq_true]; intro hf; have := (wt_le l).2 hf; omega
    refine Ev.succ ?_
    simp only [spec_rwRest.l0]
    refine Ev.bind (rwPairs_ev l hl) (Ev.neg (by rw [fac_prs, hf]; decide) ?_)
    simp only [rst]
    refine Ev.const ?_
    simp
  | succ f ih =>
    intro l n hl hw h0 h1
    refine Ev.succ ?_
    simp only [spec_rwRest.l0]
    refine Ev.bind (rwPairs_ev l hl) ?_
    rw [rst]
    by_cases hf : fac l = true
    · rw [if_pos hf]
      refine Ev.pos ((fac_prs l).2 hf) (Ev.bind (rwTick_ev l hl) ?_)
      have := (wt_le l).2 hf
      rw [wrap64_id (x := n + 1) (by omega) (by omega)]
      have := ih (twk l) (n + 1) (by rw [twk_len]; exact hl) (by omega) (by omega) (by omega)
      have e : (n + 1) + ((rst f (twk l)).2 : Int) = n + (((rst f (twk l)).2 + 1 : Nat) : Int) := by omega
      rw [e] at this
      exact this
    · rw [if_neg hf]
      refine Ev.neg (by rw [fac_prs]; exact hf) (Ev.const ?_)
      simp
theorem rwRest_ev (l : List UInt8) (hl : l.length ≤ 1000) : Ev (fun k => spec_rwRest.f k (up l)) (up (rst 1000000 l).1, ((rst 1000000 l).2 : Int)) := by
  have := rwRest_loop 1000000 l 0 hl (wt_1000 l hl) (by omega) (by omega)
  unfold spec_rwRest.f
  simpa using this
theorem ticks_loop : ∀ (f : Nat) (l : List UInt8) (n : Int), l.length ≤ 1000 → wt l ≤ f → 0 ≤ n → n + f ≤ 1000000000 → Ev (fun k => impl_ticksToRest.l0 k (up l) n) (n + ((rst f l).2 : Int)) := by
  intro f
  induction f with
  | zero =>
    intro l n hl hw h0 h1
    have hf : fac l = false := by
      rw [← Bool.not_eq_true]; intro hf; have := (wt_le l).2 hf; omega
    refine Ev.succ ?_
    simp only [impl_ticksToRest.l0, isAtRest_eq l hl, Option.bind_some, hf, rst]
    exact Ev.const (by simp)
  | succ f ih =>
    intro l n hl hw h0 h1
    refine Ev.succ ?_
    simp only [impl_ticksToRest.l0, isAtRest_eq l hl, tick_eq l hl, Option.bind_some]
    rw [rst]
    by_cases hf : fac l = true
    · rw [if_pos hf]
      refine Ev.neg (by simp [hf]) ?_
      have := (wt_le l).2 hf
      rw [wrap64_id (x := n + 1) (by omega) (by omega)]
      have := ih (twk l) (n + 1) (by rw [twk_len]; exact hl) (by omega) (by omega) (by omega)
      have e : (n + 1) + ((rst f (twk l)).2 : Int) = n + (((rst f (twk l)).2 + 1 : Nat) : Int) := by omega
      rw [e] at this
      exact this
    · rw [if_neg hf]
      exact Ev.pos (by simp [hf]) (Ev.const (by simp))
theorem ticks_ev (l : List UInt8) (hl : l.length ≤ 1000) : Ev (fun k => impl_ticksToRest.f k (up l)) ((rst 1000000 l).2 : Int) := by
  have := ticks_loop 1000000 l 0 hl (wt_1000 l hl) (by omega) (by omega)
  unfold impl_ticksToRest.f
  simpa using this
theorem after_loop : ∀ (t : Nat) (l : List UInt8), l.length ≤ 1000 → t ≤ 1000000000 → Ev (fun k => impl_RowAfter.l0 k (up l) (t : Int)) (up (twn t l), true) := by
  intro t
  induction t with
  | zero =>
    intro l hl ht
    refine Ev.succ ?_
    simp only [impl_RowAfter.l0]
    exact Ev.neg (by omega) (Ev.now _)
  | succ t ih =>
    intro l hl ht
    refine Ev.succ ?_
    simp only [impl_RowAfter.l0, isAtRest_eq l hl, tick_eq l hl, Option.bind_some]
    refine Ev.pos (by omega) ?_
    by_cases hf : fac l = true
    · refine Ev.neg (by simp [hf]) ?_
      rw [show ((t + 1 : Nat) : Int) - 1 = (t : Int) by omega, wrap64_id (x := (t : Int)) (by omega) (by omega), twn]
      exact ih (twk l) (by rw [twk_len]; exact hl) (by omega)
    · rw [Bool.not_eq_true] at hf
      rw [twn_rest _ _ hf]
      exact Ev.pos (by simp [hf]) (Ev.now _)
theorem after_ev (l : List UInt8) (t : Int) (hg : rgood l = true) (h0 : 0 ≤ t) (h1 : t ≤ 1000000) : Ev (fun k => impl_RowAfter.f k (up l) t) (up (twn t.toNat l), true) := by
  have hlen : 1 ≤ l.length ∧ l.length ≤ 60 := by
    unfold rgood at hg
    rw [Bool.and_eq_true, decide_eq_true_eq] at hg
    exact hg.1
  unfold impl_RowAfter.f
  rw [isRow_eq (up l) (by rw [up_size]; omega), L_mk, hg]
  simp only [Option.bind_some, if_true, in_eq]
  refine Ev.succ ?_
  simp only [impl_RowAfter.j0]
  refine Ev.neg (by simp; omega) ?_
  have := after_loop t.toNat l (by omega) (by omega)
  rw [Int.toNat_of_nonneg h0] at this
  exact this
theorem clo_loop (ps : List Int) (hps : ps.length ≤ 1000000) : ∀ (d i : Nat) (o : List Int), i + d = ps.length → (∀ p ∈ ps, 0 ≤ p ∧ p + 1 < (o.length : Int)) → Ev (fun k => impl_TurnsOfEach_clo.l0 k ps (i : Int) o) ((ps.drop i).foldl bump o) := by
  intro d
  induction d with
  | zero =>
    intro i o hi hp
    refine Ev.succ ?_
    simp only [impl_TurnsOfEach_clo.l0]
    rw [List.drop_of_length_le (by omega)]
    exact Ev.neg (by omega) (Ev.now _)
  | succ d ih =>
    intro i o hi hp
    have hlt : i < ps.length := by omega
    have hm := hp (rd ps (i : Int)) (rd_mem hlt)
    refine Ev.succ ?_
    simp only [impl_TurnsOfEach_clo.l0]
    rw [rd_cons_drop hlt, List.foldl_cons, wrap64_id (x := (i : Int) + 1) (by omega) (by omega)]
    refine Ev.pos (by omega) (Ev.pos (by omega) (Ev.pos (by omega) (Ev.pos (by omega) ?_)))
    exact ih (i + 1) (bump o (rd ps (i : Int))) (by omega) (fun p hp' => by rw [bump_len]; exact hp p hp')
theorem clo_ev (l : List UInt8) (o : List Int) (h1 : 1 ≤ l.length) (hl : l.length ≤ 1000) (ho : o.length = l.length) : Ev (fun k => impl_TurnsOfEach_clo.f k (up l) o) ((prs 0 l).foldl bump o) := by
  unfold impl_TurnsOfEach_clo.f
  refine Ev.bind (facing_ev l h1 hl) ?_
  have hle := prs_len l 0
  have := clo_loop (prs 0 l) (by omega) (prs 0 l).length 0 o (by omega) (fun p hp => by have := prs_ge l 0 p hp; omega)
  rw [List.drop_zero] at this
  exact this
theorem turns_loop : ∀ (f : Nat) (l : List UInt8) (o : List Int) (B : Int), 1 ≤ l.length → l.length ≤ 1000 → wt l ≤ f → o.length = l.length → 0 ≤ B → B + f ≤ 800000000 → (∀ q, 0 ≤ rd o q ∧ rd o q ≤ B) →
    ∃ o2 : List Int, Ev (fun k => impl_TurnsOfEach.l0 k (up l) o) o2 ∧ o2.length = l.length ∧ ∀ a, 0 ≤ a → rd o2 a = rd o a + trc f a l := by
  intro f
  induction f with
  | zero =>
    intro l o B h1 hl hw ho h0 hB hq
    have hf : fac l = false := by
      rw [← Bool.not_eq_true]; intro hf; have := (wt_le l).2 hf; omega
    refine ⟨o, Ev.succ ?_, ho, fun a _ => by simp [trc]⟩
    simp only [impl_TurnsOfEach.l0, isAtRest_eq l hl, Option.bind_some, hf]
    exact Ev.now _
  | succ f ih =>
    intro l o B h1 hl hw ho h0 hB hq
    by_cases hf : fac l = true
    · have hlt := (wt_le l).2 hf
      have hfold := rd_fold (prs 0 l) o B (prs_sparse l 0) (fun p hp => by have := prs_ge l 0 p hp; omega) h0 (by omega) (fun p _ => ⟨hq p, hq (p + 1)⟩) (fun q => by have := hq q; omega)
      have hneg : ∀ (o : List Int) (q : Int), q < 0 → rd o q = rd o 0 := fun o q h => by simp [rd, Int.toNat_of_nonpos (Int.le_of_lt h)]
      obtain ⟨o2, e1, e2, e3⟩ := ih (twk l) ((prs 0 l).foldl bump o) (B + 1) (by rw [twk_len]; exact h1) (by rw [twk_len]; exact hl) (by omega) (by rw [fold_bump_len, twk_len]; exact ho) (by omega) (by omega) (fun q => by
        by_cases h : 0 ≤ q
        · rw [hfold q h]; have := hq q; split <;> omega
        · rw [hneg _ q (by omega), hfold 0 (by omega)]; have := hq 0; split <;> omega)
      refine ⟨o2, Ev.succ ?_, by rw [e2, twk_len], fun a ha => ?_⟩
      · simp only [impl_TurnsOfEach.l0, isAtRest_eq l hl, tick_eq l hl, Option.bind_some]
        refine Ev.neg (by simp [hf]) (Ev.bind (clo_ev l o h1 hl ho) ?_)
        exact e1
      · rw [e3 a ha, hfold a ha, trc, if_pos hf]; omega
    · rw [Bool.not_eq_true] at hf
      refine ⟨o, Ev.succ ?_, ho, fun a _ => by simp [trc, hf]⟩
      simp only [impl_TurnsOfEach.l0, isAtRest_eq l hl, Option.bind_some, hf]
      exact Ev.now _
theorem turns_ev (l : List UInt8) (hg : rgood l = true) : ∃ o : List Int, Ev (fun k => impl_TurnsOfEach.f k (up l)) (o, true) ∧ o.length = l.length ∧ ∀ a, 0 ≤ a → rd o a = trc 1000000 a l := by
  have hlen : 1 ≤ l.length ∧ l.length ≤ 60 := by
    unfold rgood at hg
    rw [Bool.and_eq_true, decide_eq_true_eq] at hg
    exact hg.1
  have hz : ∀ q : Int, rd (List.replicate l.length (0 : Int)) q = 0 := fun q => by simp [rd, List.getElem?_replicate]; split <;> rfl
  obtain ⟨o, e1, e2, e3⟩ := turns_loop 1000000 l (List.replicate l.length 0) 0 hlen.1 (by omega) (Nat.le_trans (wt_sq l) (Nat.mul_le_mul (show l.length ≤ 1000 by omega) (show l.length ≤ 1000 by omega))) (by simp) (by omega) (by omega) (fun q => by rw [hz q]; omega)
  refine ⟨o, ?_, e2, fun a ha => by rw [e3 a ha, hz]; omega⟩
  unfold impl_TurnsOfEach.f
  rw [isRow_eq (up l) (by rw [up_size]; omega), L_mk, hg]
  simp only [Option.bind_some, if_true]
  refine Ev.pos (by rw [up_size]; omega) ?_
  rw [up_size]
  exact Ev.bind e1 (Ev.now _)
theorem l1Has_loop (a : Int) (ps : List Int) (hps : ps.length ≤ 1000000) : ∀ (d i : Nat), i + d = ps.length → Ev (fun k => spec_l1Has.l0 k a ps (ps.length : Int) (i : Int)) (decide (a ∈ ps.drop i)) := by
  intro d
  induction d with
  | zero =>
    intro i hi
    refine Ev.succ ?_
    simp only [spec_l1Has.l0]
    rw [List.drop_of_length_le (by omega)]
    exact Ev.neg (by omega) (Ev.const (by simp))
  | succ d ih =>
    intro i hi
    have hlt : i < ps.length := by omega
    refine Ev.succ ?_
    simp only [spec_l1Has.l0]
    rw [rd_cons_drop hlt, wrap64_id (x := (i : Int) + 1) (by omega) (by omega)]
    refine Ev.pos (by omega) (Ev.pos (by omega) (Ev.pos (by omega) (Ev.iff (fun hc => ?_) (fun hc => ?_))))
    · exact Ev.const (by simp [hc])
    · have := ih (i + 1) (by omega)
      have e : decide (a ∈ rd ps (i : Int) :: ps.drop (i + 1)) = decide (a ∈ ps.drop (i + 1)) := by
        apply decide_eq_decide.2
        rw [List.mem_cons]
        exact ⟨fun h => h.resolve_left (fun e => hc e.symm), .inr⟩
      rw [e]; exact this
theorem l1Has_ev (a : Int) (ps : List Int) (hps : ps.length ≤ 1000000) : Ev (fun k => spec_l1Has.f k ps a) (decide (a ∈ ps)) := by
  have := l1Has_loop a ps hps ps.length 0 (by omega)
  rw [List.drop_zero] at this
  exact this
theorem bt_get (l : List UInt8) (a : Int) (h0 : 0 ≤ a) (h1 : a < (l.length : Int)) : (bt (up l) a = 62) ↔ l[a.toNat]? = some 62 := by
  obtain ⟨i, rfl⟩ : ∃ i : Nat, a = i := ⟨a.toNat, by omega⟩
  rw [up62 l i (by omega), Int.toNat_natCast, List.getElem?_eq_getElem (by omega), Option.some.injEq]
theorem look_loop (a : Int) : ∀ (t : Nat) (l : List UInt8), l.length ≤ 1000 → t ≤ 1000000000 → 0 ≤ a → a < (l.length : Int) → Ev (fun k => spec_pzValue.l0 k a (t : Int) (up l) 0) (if (twn t l)[a.toNat]? = some 62 then 1 else 0) := by
  intro t
  induction t with
  | zero =>
    intro l hl ht h0 h1
    refine Ev.succ ?_
    simp only [spec_pzValue.l0, up_isize]
    refine Ev.neg (by omega) (Ev.pos h0 (Ev.pos h1 ?_))
    rw [twn]
    refine Ev.iff (fun hc => ?_) (fun hc => ?_)
    · rw [bt_get l a h0 h1] at hc; rw [if_pos hc]; exact Ev.now _
    · rw [bt_get l a h0 h1] at hc; rw [if_neg hc]; exact Ev.now _
  | succ t ih =>
    intro l hl ht h0 h1
    refine Ev.succ ?_
    simp only [spec_pzValue.l0]
    refine Ev.pos (by omega) (Ev.bind (rwTick_ev l hl) ?_)
    rw [show ((t + 1 : Nat) : Int) - 1 = (t : Int) by omega, wrap64_id (x := (t : Int)) (by omega) (by omega), twn]
    exact ih (twk l) (by rw [twk_len]; exact hl) (by omega) h0 (by rw [twk_len]; exact h1)
theorem count_loop (l : List UInt8) (hl : l.length ≤ 1000) : ∀ (d i : Nat) (n : Int), i + d = l.length → 0 ≤ n → n ≤ i → Ev (fun k => spec_pzValue.l1 k (up l) n (i : Int)) (n + ((l.drop i).count 62 : Int)) := by
  intro d
  induction d with
  | zero =>
    intro i n hi h0 h1
    refine Ev.succ ?_
    simp only [spec_pzValue.l1, up_isize]
    rw [List.drop_of_length_le (by omega)]
    exact Ev.neg (by omega) (Ev.const (by simp))
  | succ d ih =>
    intro i n hi h0 h1
    have hlt : i < l.length := by omega
    refine Ev.succ ?_
    simp only [spec_pzValue.l1, up_isize]
    rw [List.drop_eq_getElem_cons hlt, List.count_cons, wrap64_id (x := (i : Int) + 1) (by omega) (by omega), wrap64_id (x := n + 1) (by omega) (by omega)]
    refine Ev.pos (by omega) (Ev.pos (by omega) (Ev.iff (fun hc => ?_) (fun hc => ?_)))
    · rw [up62 l i hlt] at hc
      have := ih (i + 1) (n + 1) (by omega) (by omega) (by omega)
      rw [if_pos (by simp [hc])]
      have e : (n + 1) + ((l.drop (i + 1)).count 62 : Int) = n + (((l.drop (i + 1)).count 62 + 1 : Nat) : Int) := by omega
      rw [e] at this; exact this
    · rw [up62 l i hlt] at hc
      have := ih (i + 1) n (by omega) (by omega) (by omega)
      rw [if_neg (by simpa using hc)]
      exact this
theorem trc_loop (a : Int) (ha : 0 ≤ a) (ha1 : a ≤ 1000000) : ∀ (f : Nat) (l : List UInt8) (n : Int), l.length ≤ 1000 → wt l ≤ f → 0 ≤ n → n + f ≤ 1000000000 → Ev (fun k => spec_pzValue.l2 k a (up l) n (prs 0 l)) (n + trc f a l) := by
  intro f
  induction f with
  | zero =>
    intro l n hl hw h0 h1
    have hf : fac l = false := by
      rw [← Bool.not_eq_true]; intro hf; have := (wt_le l).2 hf; omega
    refine Ev.succ ?_
    simp only [spec_pzValue.l2, trc]
    exact Ev.neg (by rw [fac_prs, hf]; decide) (Ev.const (by simp))
  | succ f ih =>
    intro l n hl hw h0 h1
    refine Ev.succ ?_
    simp only [spec_pzValue.l2]
    rw [trc]
    by_cases hf : fac l = true
    · rw [if_pos hf]
      refine Ev.pos ((fac_prs l).2 hf) ?_
      have hlt := (wt_le l).2 hf
      have hps : (prs 0 l).length ≤ 1000000 := by have := prs_len l 0; omega
      have hl' : (twk l).length ≤ 1000 := by rw [twk_len]; exact hl
      have yes : Ev (fun k => spec_pzValue.j3 k a (up l) n true) (n + (1 + trc f a (twk l))) := by
        refine Ev.succ ?_
        simp only [spec_pzValue.j3, if_true]
        refine Ev.bind (rwTick_ev l hl) (Ev.bind (rwPairs_ev _ hl') ?_)
        rw [wrap64_id (x := n + 1) (by omega) (by omega)]
        have := ih (twk l) (n + 1) hl' (by omega) (by omega) (by omega)
        rw [show n + (1 + trc f a (twk l)) = n + 1 + trc f a (twk l) by omega]
        exact this
      have no : Ev (fun k => spec_pzValue.j3 k a (up l) n false) (n + (0 + trc f a (twk l))) := by
        refine Ev.succ ?_
        simp only [spec_pzValue.j3]
        refine Ev.neg (by decide) (Ev.bind (rwTick_ev l hl) (Ev.bind (rwPairs_ev _ hl') ?_))
        have := ih (twk l) n hl' (by omega) (by omega) (by omega)
        rw [Int.zero_add]
        exact this
      refine Ev.bind (l1Has_ev a _ hps) ?_
      by_cases c1 : a ∈ prs 0 l
      · rw [if_pos (.inl c1)]
        exact Ev.pos (by simp [c1]) yes
      · refine Ev.neg (by simp [c1]) ?_
        rw [wrap64_id (x := a - 1) (by omega) (by omega)]
        refine Ev.bind (l1Has_ev (a - 1) _ hps) ?_
        by_cases c2 : a - 1 ∈ prs 0 l
        · rw [if_pos (.inr c2), decide_eq_true c2]; exact yes
        · rw [if_neg (by rintro (h | h); exact c1 h; exact c2 h), decide_eq_false c2]; exact no
    · rw [if_neg hf]
      exact Ev.neg (by rw [fac_prs]; exact hf) (Ev.const (by simp))
theorem pzValue_ev (l : List UInt8) (k a b : Int) (hl : l.length ≤ 1000) (h : kok (l.length : Int) k a b) : Ev (fun r => spec_pzValue.f r k a b (up l)) (val k a b l) := by
  unfold spec_pzValue.f val
  by_cases h0 : k = 0
  · simp only [if_pos h0]
    obtain ⟨_, h1, h2⟩ : k = 0 ∧ (0 ≤ a ∧ a ≤ (l.length : Int) - 1) ∧ 0 ≤ b ∧ b ≤ 20 := by unfold kok at h; omega
    have := look_loop a b.toNat l hl (by omega) h1.1 (by omega)
    rw [Int.toNat_of_nonneg h2.1] at this
    exact this
  simp only [if_neg h0]
  by_cases h1 : k = 1
  · simp only [if_pos h1]
    have := count_loop l hl l.length 0 0 (by omega) (by omega) (by omega)
    simpa using this
  simp only [if_neg h1]
  by_cases h2 : k = 2
  · simp only [if_pos h2]
    exact Ev.bind (rwRest_ev l hl) (Ev.now _)
  simp only [if_neg h2]
  by_cases h3 : k = 3
  · simp only [if_pos h3]
    exact Ev.bind (rwPairs_ev l hl) (Ev.now _)
  simp only [if_neg h3]
  have h4 : k = 4 ∧ 0 ≤ a ∧ a ≤ (l.length : Int) - 1 := by unfold kok at h; omega
  refine Ev.bind (rwPairs_ev l hl) ?_
  have := trc_loop a h4.2.1 (by omega) 1000000 l 0 hl (wt_1000 l hl) (by omega) (by omega)
  rw [Int.zero_add] at this
  exact this
theorem told_ev (l : List UInt8) (k a b c : Int) (hg : rgood l = true) (h : kok (l.length : Int) k a b) : Ev (fun r => impl_Clue_told.f r k a b c (up l)) (k, a, b, val k a b l) := by
  have hlen : 1 ≤ l.length ∧ l.length ≤ 60 := by
    unfold rgood at hg
    rw [Bool.and_eq_true, decide_eq_true_eq] at hg
    exact hg.1
  unfold impl_Clue_told.f val
  by_cases h0 : k = 0
  · simp only [if_pos h0]
    obtain ⟨_, h1, h2⟩ : k = 0 ∧ (0 ≤ a ∧ a ≤ (l.length : Int) - 1) ∧ 0 ≤ b ∧ b ≤ 20 := by unfold kok at h; omega
    refine Ev.bind (after_ev l b hg h2.1 (by omega)) ?_
    have e := up_isize (twn b.toNat l)
    rw [twn_len] at e
    have e2 : (bt (up (twn b.toNat l)) a = 62) ↔ (twn b.toNat l)[a.toNat]? = some 62 := by
      obtain ⟨i, hi⟩ : ∃ i : Nat, a = i := ⟨a.toNat, by omega⟩
      subst hi
      rw [up62 _ i (by rw [twn_len]; omega), Int.toNat_natCast, List.getElem?_eq_getElem (by rw [twn_len]; omega), Option.some.injEq]
    refine Ev.pos h1.1 (Ev.pos (by show a < _; rw [e]; omega) ?_)
    refine Ev.iff (fun hc => ?_) (fun hc => ?_)
    · rw [if_pos (e2.1 hc)]; exact Ev.now _
    · rw [if_neg (fun q => hc (e2.2 q))]; exact Ev.now _
  simp only [if_neg h0]
  by_cases h1 : k = 1
  · simp only [if_pos h1]
    refine Ev.bind (Ev.const (show strings_Count.f (up l) (⟨#[62]⟩ : ByteArray) = some (l.count 62 : Int) from ?_)) (Ev.now _)
    show some ((Lib.countByte (L (up l)) 62 : Nat) : Int) = _
    rw [L_mk]; rfl
  simp only [if_neg h1]
  by_cases h2 : k = 2
  · simp only [if_pos h2]
    exact Ev.bind (ticks_ev l (by omega)) (Ev.now _)
  simp only [if_neg h2]
  by_cases h3 : k = 3
  · simp only [if_pos h3]
    exact Ev.bind (facing_ev l hlen.1 (by omega)) (Ev.now _)
  simp only [if_neg h3]
  have h4 : k = 4 ∧ 0 ≤ a ∧ a ≤ (l.length : Int) - 1 := by unfold kok at h; omega
  obtain ⟨o, e1, e2, e3⟩ := turns_ev l hg
  refine Ev.pos h4.1 (Ev.bind e1 ?_)
  refine Ev.pos h4.2.1 (Ev.pos (by show a < _; rw [e2]; omega) (Ev.const ?_))
  show some (k, a, b, rd o a) = _
  rw [e3 a h4.2.1]
def nz (z : Int) : Int := (223 * z + 2161) % 10007
theorem nz_bd (z : Int) (h : 0 ≤ z ∧ z ≤ 10006) : 0 ≤ nz z ∧ nz z ≤ 10006 := by unfold nz; omega
theorem nx_eq (z : Int) (h : 0 ≤ z ∧ z ≤ 10006) : impl_MakePuzzle.nx z = nz z := by
  unfold impl_MakePuzzle.nx nz
  rw [wrap64_id (x := z * 223) (by omega) (by omega), wrap64_id (by omega) (by omega), tmod_nn (by omega), Int.mul_comm]
theorem pn_eq (z : Int) (h : 0 ≤ z ∧ z ≤ 10006) : spec_pzNext.f z = some (nz z) := by
  unfold spec_pzNext.f nz
  rw [wrap64_id (x := 223 * z) (by omega) (by omega), wrap64_id (by omega) (by omega), tmod_nn (by omega)]
theorem yk (l : List UInt8) (hl : 1 ≤ l.length ∧ l.length ≤ 8) (kd y : Int) (hk : 0 ≤ kd ∧ kd ≤ 4) (hy : 0 ≤ y ∧ y ≤ 10006) : kok (l.length : Int) kd (impl_MakePuzzle.ya (up l) kd y) (impl_MakePuzzle.yb kd y) := by
  have e : ((up l).size : Int) = (l.length : Int) := up_isize l
  unfold kok impl_MakePuzzle.ya impl_MakePuzzle.yb
  rw [e, tmod_nn (by omega)]
  have m1 := Int.emod_nonneg y (show (l.length : Int) ≠ 0 by omega)
  have m2 := Int.emod_lt_of_pos y (show 0 < (l.length : Int) by omega)
  generalize y % (l.length : Int) = q at m1 m2
  by_cases h0 : kd = 0
  · rw [if_pos h0, if_pos h0, tdiv_nn (by omega), wrap64_id (by omega) (by omega), tmod_nn (by omega)]
    exact .inl ⟨h0, by omega, by omega, by omega⟩
  · rw [if_neg h0, if_neg h0]
    by_cases h4 : kd = 4
    · rw [if_pos h4]; exact .inr (.inr (.inr (.inr ⟨h4, by omega⟩)))
    · have : kd = 1 ∨ kd = 2 ∨ kd = 3 := by omega
      rcases this with h | h | h
      · exact .inr (.inl h)
      · exact .inr (.inr (.inl h))
      · exact .inr (.inr (.inr (.inl h)))
theorem pzOf_ev (l : List UInt8) (hl : 1 ≤ l.length ∧ l.length ≤ 8) (kd y : Int) (hk : 0 ≤ kd ∧ kd ≤ 4) (hy : 0 ≤ y ∧ y ≤ 10006) :
    Ev (fun k => spec_pzOf.f k kd y (up l)) (kd, impl_MakePuzzle.ya (up l) kd y, impl_MakePuzzle.yb kd y, val kd (impl_MakePuzzle.ya (up l) kd y) (impl_MakePuzzle.yb kd y) l) := by
  have hv := pzValue_ev l kd _ _ (by omega) (yk l hl kd y hk hy)
  have hsz : ¬ ((up l).size : Int) = 0 := by rw [up_isize]; omega
  unfold spec_pzOf.f
  by_cases h0 : kd = 0
  · have eA : impl_MakePuzzle.ya (up l) kd y = Int.tmod y ((up l).size : Int) := by unfold impl_MakePuzzle.ya; rw [if_pos h0]
    have eB : impl_MakePuzzle.yb kd y = Int.tmod (wrap64 (Int.tdiv y 11)) 4 := by unfold impl_MakePuzzle.yb; rw [if_pos h0]
    rw [eA, eB] at hv ⊢
    refine Ev.pos h0 (Ev.succ ?_)
    simp only [spec_pzOf.j0]
    exact Ev.pos trivial (Ev.neg hsz (Ev.pos h0 (Ev.bind hv (Ev.now _))))
  · have eB : impl_MakePuzzle.yb kd y = 0 := by unfold impl_MakePuzzle.yb; rw [if_neg h0]
    by_cases h4 : kd = 4
    · have eA : impl_MakePuzzle.ya (up l) kd y = Int.tmod y ((up l).size : Int) := by unfold impl_MakePuzzle.ya; rw [if_neg h0, if_pos h4]
      rw [eA, eB] at hv ⊢
      refine Ev.neg h0 (Ev.succ ?_)
      simp only [spec_pzOf.j0]
      exact Ev.pos (beq_iff_eq.2 h4) (Ev.neg hsz (Ev.neg h0 (Ev.bind hv (Ev.now _))))
    · have eA : impl_MakePuzzle.ya (up l) kd y = 0 := by unfold impl_MakePuzzle.ya; rw [if_neg h0, if_neg h4]
      rw [eA, eB] at hv ⊢
      refine Ev.neg h0 (Ev.succ ?_)
      simp only [spec_pzOf.j0]
      exact Ev.neg (fun h => h4 (beq_iff_eq.1 h)) (Ev.neg h0 (Ev.bind hv (Ev.now _)))
theorem mp_loop (l : List UInt8) (hg : rgood l = true) (hl : 1 ≤ l.length ∧ l.length ≤ 8) (m : Nat) (hm : m ≤ 6) : ∀ (d i : Nat) (z : Int) (acc : List S33), i + d = m → 0 ≤ z ∧ z ≤ 10006 → acc.length = i →
    ∃ r : List S33, Ev (fun k => spec_MakePuzzle.l0 k (up l) (d : Int) z ((up l).size : Int) acc) (((up l).size : Int), r, true) ∧ Ev (fun k => impl_MakePuzzle.l0 k (up l) (m : Int) (i : Int) z acc) (((up l).size : Int), r, true) ∧ r.length ≤ 6 := by
  have hsz : ¬ ((up l).size : Int) = 0 := by rw [up_isize]; omega
  intro d
  induction d with
  | zero =>
    intro i z acc hi hz ha
    refine ⟨acc, Ev.succ ?_, Ev.succ ?_, by omega⟩
    · simp only [spec_MakePuzzle.l0]
      exact Ev.neg (by omega) (Ev.now _)
    · simp only [impl_MakePuzzle.l0]
      exact Ev.neg (by omega) (Ev.now _)
  | succ d ih =>
    intro i z acc hi hz ha
    have z1 := nz_bd z hz
    have z2 := nz_bd _ z1
    have hk : 0 ≤ Int.tmod (nz z) 5 ∧ Int.tmod (nz z) 5 ≤ 4 := by rw [tmod_nn z1.1]; omega
    have sp := pzOf_ev l hl _ _ hk z2
    have im := told_ev l _ _ _ 0 hg (yk l hl _ _ hk z2)
    obtain ⟨r, r1, r2, r3⟩ := ih (i + 1) (nz (nz z)) (acc ++ [⟨Int.tmod (nz z) 5, impl_MakePuzzle.ya (up l) (Int.tmod (nz z) 5) (nz (nz z)), impl_MakePuzzle.yb (Int.tmod (nz z) 5) (nz (nz z)), val (Int.tmod (nz z) 5) (impl_MakePuzzle.ya (up l) (Int.tmod (nz z) 5) (nz (nz z))) (impl_MakePuzzle.yb (Int.tmod (nz z) 5) (nz (nz z))) l⟩]) (by omega) z2 (by simp [ha])
    refine ⟨r, Ev.succ ?_, Ev.succ ?_, r3⟩
    · simp only [spec_MakePuzzle.l0, pn_eq z hz, pn_eq _ z1, Option.bind_some]
      rw [show ((d + 1 : Nat) : Int) - 1 = (d : Int) by omega, wrap64_id (x := (d : Int)) (by omega) (by omega)]
      exact Ev.pos (by omega) (Ev.bind sp (Ev.pos (by omega) r1))
    · simp only [impl_MakePuzzle.l0, nx_eq z hz, nx_eq _ z1]
      rw [show (i : Int) + 1 = ((i + 1 : Nat) : Int) by omega, wrap64_id (x := ((i + 1 : Nat) : Int)) (by omega) (by omega)]
      exact Ev.pos (by omega) (Ev.neg hsz (Ev.bind im (Ev.pos (by omega) r2)))
theorem pzHidden_ev (s : ByteArray) (hs : s.size ≤ 140737488351232) : Ev (fun k => spec_pzHidden.f k s) (rgood (L s) && decide ((s.size : Int) ≤ 8)) := by
  unfold spec_pzHidden.f
  refine Ev.bind (rwGood_ev s hs) ?_
  cases rgood (L s)
  · exact Ev.neg (by decide) (Ev.now _)
  · exact Ev.pos rfl (Ev.const (by rw [Bool.true_and]))
theorem mp_ev (a0 : ByteArray) (hs : a0.size ≤ 140737488351232) (a1 a2 : Int) : ∃ R : Int × List S33 × Bool, Ev (fun k => spec_MakePuzzle.f k a0 a1 a2) R ∧ Ev (fun k => impl_MakePuzzle.f k a0 a1 a2) R ∧ R.2.1.length ≤ 6 := by
  have e0 : a0 = up (L a0) := up_L a0
  have hsz := isize_L a0
  have sh := pzHidden_ev a0 hs
  have bad1 : Ev (fun k => spec_MakePuzzle.j0 k a0 a1 a2 true) (0, [], false) := Ev.succ (by simp only [spec_MakePuzzle.j0]; exact Ev.pos trivial (Ev.now _))
  have bad2 : Ev (fun k => impl_MakePuzzle.j0 k a0 a1 a2 true) (0, [], false) := by unfold impl_MakePuzzle.j0; exact Ev.pos rfl (Ev.now _)
  unfold spec_MakePuzzle.f impl_MakePuzzle.f impl_isHidden.f
  simp only [isRow_eq a0 hs, in_eq, l1In_eq, Option.bind_some]
  by_cases hr : rgood (L a0) = true
  · have hlen : 1 ≤ (L a0).length ∧ (L a0).length ≤ 60 := by
      have h := hr
      unfold rgood at h
      simp only [Bool.and_eq_true, decide_eq_true_eq] at h
      exact h.1
    by_cases h8 : (a0.size : Int) ≤ 8
    · rw [hr, decide_eq_true h8] at sh
      have d8 : decide (1 ≤ (a0.size : Int) ∧ (a0.size : Int) ≤ 8) = true := decide_eq_true ⟨by omega, h8⟩
      by_cases h3 : 0 ≤ a1 ∧ a1 ≤ 6
      · by_cases h4 : 0 ≤ a2 ∧ a2 ≤ 9999
        · obtain ⟨r, p1, p2, p3⟩ := mp_loop (L a0) hr (by omega) a1.toNat (by omega) a1.toNat 0 a2 [] (by omega) (by omega) rfl
          rw [← e0, show ((a1.toNat : Nat) : Int) = a1 by omega] at p1 p2
          refine ⟨((a0.size : Int), r, true), Ev.bind sh (Ev.pos rfl (Ev.pos (decide_eq_true h3) (Ev.succ ?_))), Ev.pos hr (Ev.pos d8 (Ev.pos (decide_eq_true h3) ?_)), p3⟩
          · simp only [spec_MakePuzzle.j0, decide_eq_true h4, Bool.not_true]
            exact Ev.neg (by decide) p1
          · simp only [impl_MakePuzzle.j0, decide_eq_true h4, Bool.not_true]
            exact Ev.neg (by decide) p2
        · refine ⟨(0, [], false), Ev.bind sh (Ev.pos rfl (Ev.pos (decide_eq_true h3) ?_)), Ev.pos hr (Ev.pos d8 (Ev.pos (decide_eq_true h3) ?_)), by simp⟩
          · rw [decide_eq_false h4]; exact bad1
          · rw [decide_eq_false h4]; exact bad2
      · exact ⟨(0, [], false), Ev.bind sh (Ev.pos rfl (Ev.neg (by simpa using h3) bad1)), Ev.pos hr (Ev.pos d8 (Ev.neg (by simpa using h3) bad2)), by simp⟩
    · rw [hr, decide_eq_false h8] at sh
      exact ⟨(0, [], false), Ev.bind sh (Ev.neg (by decide) bad1), Ev.pos hr (Ev.neg (by simp; omega) bad2), by simp⟩
  · have hr2 : rgood (L a0) = false := by simpa using hr
    rw [hr2] at sh
    exact ⟨(0, [], false), Ev.bind sh (Ev.neg (by simp) bad1), Ev.neg hr bad2, by simp⟩
theorem FnExactMakePuzzle : StatFnExactMakePuzzle := by
  intro a0 a1 a2 hs _ _
  refine Ev.get ?_
  unfold laws_FnExactMakePuzzle.f
  refine Ev.iff (fun _ => Ev.now _) (fun _ => ?_)
  obtain ⟨R, sp, im, hrl⟩ := mp_ev a0 hs a1 a2
  obtain ⟨rn, rl, rb⟩ := R
  simp only at hrl
  refine Ev.bind sp (Ev.bind im (Ev.bind (eqPuzzle_ev rn rl (by omega)) (Ev.pos rfl (Ev.succ ?_))))
  simp only [laws_FnExactMakePuzzle.j0]
  refine Ev.neg (by simp) (Ev.bind (markPuzzle_ev rn rl (by omega)) (Ev.bind (heldPuzzle_ev rn rl.length (by omega)) (Ev.neg (by omega) (Ev.pos rfl (Ev.bind im (Ev.bind (eqPuzzle_ev rn rl (by omega)) (Ev.pos rfl (Ev.succ ?_))))))))
  simp only [laws_FnExactMakePuzzle.j1]
  exact Ev.neg (by simp) (Ev.bind (heldPuzzle_ev rn rl.length (by omega)) (Ev.neg (by omega) (Ev.pos rfl (Ev.now _))))

end Go.Proofs.YtmindeeacfdonaaDoor.Pure
