/- The law FnExactSureSigns, pure: what the printed functions answer, and that it is what the law asks. No condition. -/
import Derived.Test.YtmindeeacfdonaaDoorStatFnExactSureSigns
import Derived.Test.YtmindeeacfdonaaDoorPlBase
import Derived.Test.YtmindeeacfdonaaDoorPlList
import Derived.Test.YtmindeeacfdonaaDoorPlClue
import Derived.Test.YtmindeeacfdonaaDoorPlBytes
import Derived.Test.YtmindeeacfdonaaDoorPlTick
import Derived.Test.YtmindeeacfdonaaDoorPlRow
import Derived.Test.YtmindeeacfdonaaDoorPlVal
import Derived.Test.YtmindeeacfdonaaDoorPlMk
import Derived.Test.YtmindeeacfdonaaDoorPlSure
namespace Go.Proofs.YtmindeeacfdonaaDoor.Pure
open Go.RowKit Go.Proofs.YtmindeeacfdonaaDoor.PFnExactSureSigns Go.Proofs.YtmindeeacfdonaaDoorW.PrintWords Go.Proofs.YtmindeeacfdonaaDoorW.PrintMore Go.Proofs.YtmindeeacfdonaaDoor.Opn Go.Proofs.YtmindeeacfdonaaDoor.Pl
set_option linter.unusedVariables false
set_option linter.unusedSimpArgs false
theorem in_eq (a b c : Int) : impl_in.f a b c = some (decide (b ≤ a ∧ a ≤ c)) := by
  unfold impl_in.f; by_cases h : b ≤ a <;> simp [h]
theorem l1In_eq (a b c : Int) : spec_l1In.f a b c = some (decide (b ≤ a ∧ a ≤ c)) := by
  unfold spec_l1In.f; by_cases h : b ≤ a <;> simp [h]
theorem pzSoldiers_eq (n : Int) : spec_pzSoldiers.f n = some (decide (1 ≤ n ∧ n ≤ 8)) := by
  unfold spec_pzSoldiers.f; rw [l1In_eq]; rfl
theorem pzClue_eq {n : Int} (h : 1 ≤ n ∧ n ≤ 8) (k a b c : Int) : spec_pzClue.f n k a b c = some (cok n k a b c) := by
  unfold spec_pzClue.f cok
  rw [wrap64_id (x := n - 1) (by omega) (by omega)]
  simp only [l1In_eq, Option.bind_some, ite_and, ite_dec]
  repeat' split
  all_goals first | rfl | simp_all
theorem isHidden_eq (n : Int) : impl_isHidden.f n = some (decide (1 ≤ n ∧ n ≤ 8)) := by
  unfold impl_isHidden.f; rw [in_eq]; rfl
theorem isClue_eq (n k a b c : Int) : impl_isClue.f n k a b c = some (decide (1 ≤ n ∧ n ≤ 8) && cok n k a b c) := by
  unfold impl_isClue.f cok
  simp only [isHidden_eq, in_eq, Option.bind_some, ite_and, ite_dec]
  by_cases h : 1 ≤ n ∧ n ≤ 8
  · rw [wrap64_id (x := n - 1) (by omega) (by omega)]
    simp only [h, and_self, decide_true, if_true, Bool.true_and]
    repeat' split
    all_goals first | rfl | simp_all
  · simp [h]
def cokS (n : Int) (x : S33) : Bool := cok n x.f0 x.f1 x.f2 x.f3
def pgood (n : Int) (l : List S33) : Bool := decide (1 ≤ n ∧ n ≤ 8) && (decide (l.length ≤ 6) && l.all (cokS n))
theorem rdClueI {l : List S33} {i : Nat} (h : i < l.length) : rd_T33 l (i : Int) = l[i] := by simp [rd_T33, h]
theorem all_drop (n : Int) (l : List S33) (i : Nat) (h : i < l.length) : (l.drop i).all (cokS n) = (cok n (rd_T33 l (i : Int)).f0 (rd_T33 l (i : Int)).f1 (rd_T33 l (i : Int)).f2 (rd_T33 l (i : Int)).f3 && (l.drop (i + 1)).all (cokS n)) := by
  rw [List.drop_eq_getElem_cons h, rdClueI h]; rfl
theorem pzGood_loop {n : Int} (h : 1 ≤ n ∧ n ≤ 8) (l : List S33) (hl : l.length ≤ 1000000000) : ∀ (d i : Nat), i + d = l.length → Ev (fun k => spec_pzGood.l0 k l (l.length : Int) (i : Int) n l) ((l.drop i).all (cokS n)) := by
  intro d
  induction d with
  | zero =>
    intro i hi
    refine Ev.succ ?_
    simp only [spec_pzGood.l0]
    refine Ev.neg (by omega) (Ev.const ?_)
    rw [List.drop_of_length_le (by omega)]; rfl
  | succ d ih =>
    intro i hi
    refine Ev.succ ?_
    simp only [spec_pzGood.l0, pzClue_eq h, Option.bind_some]
    refine Ev.pos (by omega) (Ev.pos (by omega) (Ev.pos (by omega) ?_))
    rw [wrap64_id (x := (i : Int) + 1) (by omega) (by omega), all_drop n l i (by omega)]
    refine Ev.iff (fun hc => ?_) (fun hc => ?_)
    · rw [hc, Bool.true_and]; exact ih (i + 1) (by omega)
    · rw [Bool.not_eq_true] at hc; rw [hc, Bool.false_and]; exact Ev.now _
theorem pzGood_ev (n : Int) (l : List S33) (hl : l.length ≤ 1000000000) : Ev (fun k => spec_pzGood.f k n l) (pgood n l) := by
  unfold spec_pzGood.f pgood
  simp only [pzSoldiers_eq, Option.bind_some]
  refine Ev.iff (fun hc => ?_) (fun hc => ?_)
  · have hc' := of_decide_eq_true hc
    refine Ev.succ ?_
    simp only [spec_pzGood.j0]
    by_cases h6 : l.length ≤ 6
    · refine Ev.neg (by simp; omega) ?_
      rw [hc, decide_eq_true h6, Bool.true_and, Bool.true_and]
      exact pzGood_loop hc' l hl l.length 0 (by omega)
    · refine Ev.pos (by simp; omega) (Ev.const ?_)
      rw [decide_eq_false h6, Bool.false_and, Bool.and_false]
  · refine Ev.succ ?_
    simp only [spec_pzGood.j0, if_true]
    refine Ev.const ?_
    rw [Bool.not_eq_true] at hc
    rw [hc, Bool.false_and]
theorem isPuz_loop {n : Int} (h : 1 ≤ n ∧ n ≤ 8) (l : List S33) (hl : l.length ≤ 1000000000) : ∀ (d i : Nat), i + d = l.length → ∃ r : Int, Ev (fun k => impl_isPuzzle_idx.l0 k n l (i : Int)) r ∧ decide (0 ≤ r) = !(l.drop i).all (cokS n) := by
  intro d
  induction d with
  | zero =>
    intro i hi
    refine ⟨-1, Ev.succ ?_, ?_⟩
    · simp only [impl_isPuzzle_idx.l0]
      exact Ev.neg (by omega) (Ev.now _)
    · rw [List.drop_of_length_le (by omega)]; rfl
  | succ d ih =>
    intro i hi
    obtain ⟨r, h1, h2⟩ := ih (i + 1) (by omega)
    have hs := all_drop n l i (by omega)
    cases hc : cok n (rd_T33 l (i : Int)).f0 (rd_T33 l (i : Int)).f1 (rd_T33 l (i : Int)).f2 (rd_T33 l (i : Int)).f3 with
    | true =>
      rw [hc, Bool.true_and] at hs
      refine ⟨r, Ev.succ ?_, by rw [hs]; exact h2⟩
      simp only [impl_isPuzzle_idx.l0, impl_isPuzzle_clo.f, isClue_eq, hc, decide_eq_true h, Option.bind_some]
      refine Ev.pos (by omega) (Ev.pos (by omega) (Ev.neg (by simp) ?_))
      rw [wrap64_id (x := (i : Int) + 1) (by omega) (by omega)]
      exact h1
    | false =>
      rw [hc, Bool.false_and] at hs
      refine ⟨(i : Int), Ev.succ ?_, by rw [hs]; simp⟩
      simp only [impl_isPuzzle_idx.l0, impl_isPuzzle_clo.f, isClue_eq, hc, Option.bind_some]
      exact Ev.pos (by omega) (Ev.pos (by omega) (Ev.pos (by simp) (Ev.now _)))
theorem isPuzzle_ev (n : Int) (l : List S33) (hl : l.length ≤ 1000000000000) : Ev (fun k => impl_isPuzzle.f k n l) (pgood n l) := by
  unfold impl_isPuzzle.f pgood
  simp only [isHidden_eq, Option.bind_some]
  refine Ev.iff (fun h1 => ?_) (fun h1 => ?_)
  · have h1' := of_decide_eq_true h1
    rw [h1, Bool.true_and]
    by_cases h6 : l.length ≤ 6
    · refine Ev.pos (by omega) ?_
      rw [decide_eq_true h6, Bool.true_and]
      obtain ⟨r, e1, e2⟩ := isPuz_loop h1' l (by omega) l.length 0 (by omega)
      unfold impl_isPuzzle_has.f
      refine Ev.bind (Ev.bind e1 (Ev.now _)) (Ev.const ?_)
      rw [e2, List.drop_zero, Bool.not_not]
    · refine Ev.neg (by omega) (Ev.const ?_)
      rw [decide_eq_false h6, Bool.false_and]
  · rw [Bool.not_eq_true] at h1
    rw [h1, Bool.false_and]
    exact Ev.now _
def cvClue (x : S30) : S33 := ⟨x.f0, x.f1, x.f2, x.f3⟩
theorem rdClueL {l : List S30} {i : Nat} (h : i < l.length) : rd_T30 l (i : Int) = l[i] := by simp [rd_T30, h]
theorem toClueS_loop (l : List S30) (hl : l.length ≤ 1000000000) : ∀ (d i : Nat), i + d = l.length → Ev (fun k => laws_toClueS.l0 k l (cpy z33 (l.map cvClue) i) (i : Int)) (l.map cvClue) := by
  intro d
  induction d with
  | zero =>
    intro i h
    refine Ev.succ ?_
    simp only [laws_toClueS.l0]
    refine Ev.neg (by omega) (Ev.const ?_)
    rw [show i = (l.map cvClue).length by simp; omega, cpy_all]
  | succ d ih =>
    intro i h
    refine Ev.succ ?_
    simp only [laws_toClueS.l0, laws_toClue.f, Option.bind_some]
    refine Ev.pos (by omega) (Ev.pos (by omega) (Ev.pos (by rw [cpy_len _ _ _ (by simp; omega)]; simp; omega) ?_))
    have hi : i < (l.map cvClue).length := by simp; omega
    have e := cpy_succ z33 (l.map cvClue) i hi
    rw [List.getElem_map] at e
    rw [wrap64_id (x := (i : Int) + 1) (by omega) (by omega), Int.toNat_natCast, rdClueL (show i < l.length by omega)]
    have := ih (i + 1) (by omega)
    rw [← e] at this
    exact this
theorem toClueS_ev (l : List S30) (hl : l.length ≤ 1000000000) : Ev (fun k => laws_toClueS.f k l) (l.map cvClue) := by
  unfold laws_toClueS.f
  refine Ev.pos (by omega) (Ev.pos (by omega) ?_)
  have := toClueS_loop l hl l.length 0 (by omega)
  rw [cpy_zero, List.length_map] at this
  exact this
theorem toPuzzle_ev (n : Int) (l : List S30) (hl : l.length ≤ 1000000000) : Ev (fun k => laws_toPuzzle.f k n l) (n, l.map cvClue) := by
  unfold laws_toPuzzle.f
  exact Ev.bind (toClueS_ev l hl) (Ev.now _)
theorem eqClueS_loop (l : List S33) (hl : l.length ≤ 1000000000) : ∀ (d i : Nat), i + d = l.length → Ev (fun k => laws_eqClueS.l0 k l l (i : Int)) true := by
  intro d
  induction d with
  | zero =>
    intro i h
    refine Ev.succ ?_
    simp only [laws_eqClueS.l0]
    exact Ev.neg (by omega) (Ev.now _)
  | succ d ih =>
    intro i h
    refine Ev.succ ?_
    have e : ∀ (x y z u : Int), laws_eqClue.f x y z u x y z u = some true := by intro x y z u; unfold laws_eqClue.f; simp
    simp only [laws_eqClueS.l0, e, Option.bind_some]
    refine Ev.pos (by omega) (Ev.pos (by omega) (Ev.pos (by omega) (Ev.pos (by first | rfl | trivial) ?_)))
    rw [wrap64_id (x := (i : Int) + 1) (by omega) (by omega)]
    exact ih (i + 1) (by omega)
theorem eqPuzzle_ev (n : Int) (l : List S33) (hl : l.length ≤ 1000000000) : Ev (fun k => laws_eqPuzzle.f k n l n l) true := by
  unfold laws_eqPuzzle.f
  refine Ev.pos rfl (Ev.bind (a := true) ?_ (Ev.const (by simp)))
  unfold laws_eqClueS.f
  exact Ev.pos rfl (eqClueS_loop l hl l.length 0 (by omega))
theorem szPuzzle_eq (n : Int) (l : List S30) (hl : l.length ≤ 1000000000000000) : laws_szPuzzle.f n l 1048576 = some (if 1048576 < l.length then -1 else 1048576 - (l.length : Int)) := by
  unfold laws_szPuzzle.f laws_szClueS.f
  rw [wrap64_id (x := 1048576 - (l.length : Int)) (by omega) (by omega)]
  by_cases h : 1048576 < l.length
  · rw [if_pos (by omega), if_pos h]; rfl
  · rw [if_neg (by omega), if_neg h, Option.bind_some, if_neg (by omega)]
theorem isRow_eq (s : ByteArray) (hs : s.size ≤ 140737488351232) : impl_isRow.f s = some (rgood (L s)) := by
  have hl := size_L s
  unfold impl_isRow.f rgood strings_Trim.f
  simp only [in_eq, Option.bind_some]
  by_cases h : 1 ≤ (L s).length ∧ (L s).length ≤ 60
  · rw [if_pos (by rw [decide_eq_true_eq]; omega), if_pos ⟨by omega, by decide, by decide⟩, decide_eq_true h, Bool.true_and, Option.bind_some, toList_L, L_mk]
    congr 1
    by_cases ha : (L s).all sgn = true
    · rw [ha]
      exact beq_iff_eq.2 ((trim_sgn (L s)).2 ha)
    · rw [Bool.not_eq_true] at ha
      rw [ha, beq_eq_false_iff_ne]
      intro e
      have := (trim_sgn (L s)).1 e
      rw [ha] at this
      exact absurd this (by decide)
  · rw [if_neg (by rw [decide_eq_true_eq]; omega), decide_eq_false h, Bool.false_and]
theorem isAtRest_eq (l : List UInt8) (h : l.length ≤ 1000) : impl_isAtRest.f (up l) = some (!fac l) := by
  have hs := up_size l
  unfold impl_isAtRest.f strings_Contains.f
  rw [if_pos (by omega), Option.bind_some]
  show some (!(Lib.contains (L (up l)) [62, 60])) = _
  rw [L_mk, fac_index]
theorem tick_eq (l : List UInt8) (h : l.length ≤ 1000) : impl_tick.f (up l) = some (up (twk l)) := by
  have hs := up_size l
  unfold impl_tick.f strings_ReplaceAll.f
  have hc : Lib.countB (up l) ⟨#[62, 60]⟩ ≤ l.length + 1 := by
    have := Lib.count_le (L (up l)) [62, 60]
    rw [L_mk] at this
    exact Nat.le_trans (by rw [Lib.countB]; show Lib.count (L (up l)) [62, 60] ≤ _; rw [L_mk]; exact Nat.le_refl _) this
  have e2 : (⟨#[60, 62]⟩ : ByteArray).size = 2 := rfl
  rw [if_pos ⟨by omega, by decide, by rw [e2]; omega⟩, Option.bind_some]
  show some (up (Lib.replaceAll (L (up l)) [62, 60] [60, 62])) = _
  rw [L_mk, replaceAll_twk]
theorem rwPairs_loop (l : List UInt8) (h : l.length ≤ 1000) : ∀ (d i : Nat) (acc : List Int), i + d = l.length → acc.length ≤ i → Ev (fun k => spec_rwPairs.l0 k (up l) acc (i : Int)) (acc ++ prs i (l.drop i)) := by
  intro d
  induction d with
  | zero =>
    intro i acc hi ha
    refine Ev.succ ?_
    simp only [spec_rwPairs.l0, up_isize]
    rw [wrap64_id (x := (i : Int) + 1) (by omega) (by omega), prs_one l i (by omega), List.append_nil]
    exact Ev.neg (by omega) (Ev.now _)
  | succ d ih =>
    intro i acc hi ha
    refine Ev.succ ?_
    simp only [spec_rwPairs.l0, up_isize]
    rw [wrap64_id (x := (i : Int) + 1) (by omega) (by omega)]
    refine Ev.iff (fun h1 => ?_) (fun h1 => ?_)
    · rw [prs_two l i (by omega)]
      refine Ev.pos (by omega) (Ev.pos (by omega) ?_)
      have h2 : i + 1 < l.length := by omega
      have e1 := ih (i + 1) acc (by omega) (by omega)
      refine Ev.iff (fun c1 => ?_) (fun c1 => ?_)
      · rw [up62 l i (by omega)] at c1
        refine Ev.pos (by omega) (Ev.iff (fun c2 => ?_) (fun c2 => ?_))
        · rw [show ((i : Int) + 1) = ((i + 1 : Nat) : Int) by omega, up60 l (i + 1) h2] at c2
          refine Ev.pos (by omega) ?_
          rw [if_pos ⟨c1, c2⟩]
          have := ih (i + 1) (acc ++ [(i : Int)]) (by omega) (by simp; omega)
          rw [← List.append_assoc]; exact this
        · rw [show ((i : Int) + 1) = ((i + 1 : Nat) : Int) by omega, up60 l (i + 1) h2] at c2
          rw [if_neg (fun c => c2 c.2), List.nil_append]; exact e1
      · rw [up62 l i (by omega)] at c1
        rw [if_neg (fun c => c1 c.1), List.nil_append]; exact e1
    · rw [prs_one l i (by omega), List.append_nil]; exact Ev.now _
theorem rwPairs_ev (l : List UInt8) (h : l.length ≤ 1000) : Ev (fun k => spec_rwPairs.f k (up l)) (prs 0 l) := by
  unfold spec_rwPairs.f
  have := rwPairs_loop l h l.length 0 [] (by omega) (by simp)
  simpa using this
theorem facing_loop (l : List UInt8) (h : l.length ≤ 1000) : ∀ (d i : Nat) (acc : List Int), i + d + 1 = l.length → acc.length ≤ i → Ev (fun k => impl_facing.l0 k (up l) acc ((l.length : Int) - 1) (i : Int)) (acc ++ prs i (l.drop i)) := by
  intro d
  induction d with
  | zero =>
    intro i acc hi ha
    refine Ev.succ ?_
    simp only [impl_facing.l0, up_isize]
    rw [prs_one l i (by omega), List.append_nil]
    exact Ev.neg (by omega) (Ev.now _)
  | succ d ih =>
    intro i acc hi ha
    refine Ev.succ ?_
    simp only [impl_facing.l0, up_isize]
    rw [wrap64_id (x := (i : Int) + 1) (by omega) (by omega)]
    refine Ev.pos (by omega) ?_
    rw [prs_two l i (by omega)]
    refine Ev.pos (by omega) (Ev.pos (by omega) ?_)
    have h2 : i + 1 < l.length := by omega
    have e1 := ih (i + 1) acc (by omega) (by omega)
    refine Ev.iff (fun c1 => ?_) (fun c1 => ?_)
    · rw [up62 l i (by omega)] at c1
      refine Ev.pos (by omega) (Ev.pos (by omega) (Ev.iff (fun c2 => ?_) (fun c2 => ?_)))
      · rw [show ((i : Int) + 1) = ((i + 1 : Nat) : Int) by omega, up60 l (i + 1) h2] at c2
        refine Ev.pos (by omega) ?_
        rw [if_pos ⟨c1, c2⟩]
        have := ih (i + 1) (acc ++ [(i : Int)]) (by omega) (by simp; omega)
        rw [← List.append_assoc]; exact this
      · rw [show ((i : Int) + 1) = ((i + 1 : Nat) : Int) by omega, up60 l (i + 1) h2] at c2
        rw [if_neg (fun c => c2 c.2), List.nil_append]; exact e1
    · rw [up62 l i (by omega)] at c1
      rw [if_neg (fun c => c1 c.1), List.nil_append]; exact e1
theorem facing_ev (l : List UInt8) (h1 : 1 ≤ l.length) (h : l.length ≤ 1000) : Ev (fun k => impl_facing.f k (up l)) (prs 0 l) := by
  unfold impl_facing.f
  rw [up_isize, wrap64_id (x := (l.length : Int) - 1) (by omega) (by omega)]
  have := facing_loop l h (l.length - 1) 0 [] (by omega) (by simp)
  simpa using this
theorem rwTick_loop (ps : List Int) (hps : ps.length ≤ 1000) (n : Nat) (hn : n ≤ 1000) (hp : ∀ p ∈ ps, 0 ≤ p ∧ p + 1 < n) : ∀ (d i : Nat) (c : List UInt8), i + d = ps.length → c.length = n → Ev (fun k => spec_rwTick.l0 k (up c) ps (ps.length : Int) (i : Int)) (up ((ps.drop i).foldl trn c)) := by
  intro d
  induction d with
  | zero =>
    intro i c hi hc
    refine Ev.succ ?_
    simp only [spec_rwTick.l0]
    rw [List.drop_of_length_le (by omega)]
    exact Ev.neg (by omega) (Ev.now _)
  | succ d ih =>
    intro i c hi hc
    have hlt : i < ps.length := by omega
    have hm := hp (rd ps (i : Int)) (rd_mem hlt)
    obtain ⟨q, hq⟩ : ∃ q : Nat, rd ps (i : Int) = q := ⟨(rd ps (i : Int)).toNat, by omega⟩
    refine Ev.succ ?_
    simp only [spec_rwTick.l0, hq]
    rw [rd_cons_drop hlt, List.foldl_cons, wrap64_id (x := (i : Int) + 1) (by omega) (by omega), wrap64_id (x := (q : Int) + 2) (by omega) (by omega), Int.toNat_natCast, show ((q : Int) + 2).toNat = q + 2 by omega, up_take, up_drop]
    have e1 : up (c.take q) ++ (⟨#[60, 62]⟩ : ByteArray) = up (c.take q ++ [60, 62]) := up_app _ [60, 62]
    simp only [e1, up_app, up_isize]
    have e2 : (up (List.take q c)).size ≤ 1000 := by rw [up_size]; simp; omega
    have e3 : (up (List.take q c ++ [60, 62])).size ≤ 1002 := by rw [up_size]; simp; omega
    have e4 : (up (List.drop (q + 2) c)).size ≤ 1000 := by rw [up_size]; simp; omega
    refine Ev.pos (by omega) (Ev.pos (by omega) (Ev.pos (by omega) (Ev.pos (by omega) (Ev.pos (by omega) (Ev.pos (by omega) (Ev.pos (by omega) (Ev.pos (by omega) (Ev.pos (by omega) ?_))))))))
    have e5 : List.take q c ++ [60, 62] ++ List.drop (q + 2) c = trn c (rd ps (i : Int)) := by rw [hq]; rfl
    rw [e5]
    exact ih (i + 1) _ (by omega) (by rw [trn_len _ _ (by omega) (by omega)]; exact hc)
theorem rwTick_ev (l : List UInt8) (h : l.length ≤ 1000) : Ev (fun k => spec_rwTick.f k (up l)) (up (twk l)) := by
  unfold spec_rwTick.f
  refine Ev.bind (rwPairs_ev l h) ?_
  have hl := prs_len l 0
  have := rwTick_loop (prs 0 l) (by omega) l.length h (fun p hp => by have := prs_ge l 0 p hp; omega) (prs 0 l).length 0 l (by omega) rfl
  rw [List.drop_zero, fold_tick] at this
  exact this
theorem wt_1000 (l : List UInt8) (h : l.length ≤ 1000) : wt l ≤ 1000000 := Nat.le_trans (wt_sq l) (Nat.mul_le_mul h h)
theorem fac_prs (l : List UInt8) : (((prs 0 l).length : Int) > 0) ↔ fac l = true := by
  have := prs_nil l 0
  constructor
  · intro h
    rw [← Bool.not_eq_false, ← this]
    intro e; rw [e] at h; simp at h
  · intro h
    have : prs 0 l ≠ [] := by rw [Ne, this]; simp [h]
    have := List.length_pos_iff.2 this
    omega
theorem rwRest_loop : ∀ (f : Nat) (l : List UInt8) (n : Int), l.length ≤ 1000 → wt l ≤ f → 0 ≤ n → n + f ≤ 1000000000 → Ev (fun k => spec_rwRest.l0 k (up l) n) (up (rst f l).1, n + ((rst f l).2 : Int)) := by
  intro f
  induction f with
  | zero =>
    intro l n hl hw h0 h1
    have hf : fac l = false := by
      rw [← Bool.not_eq_true]; intro hf; have := (wt_le l).2 hf; omega
    refine Ev.succ ?_
    simp only [spec_rwRest.l0]
    refine Ev.bind (rwPairs_ev l hl) (Ev.neg (by rw [fac_prs, hf]; decide) ?_)
    simp only [rst]
    refine Ev.const ?_
    simp
  | succ f ih =>
    intro l n hl hw h0 h1
    refine Ev.succ ?_
    simp only [spec_rwRest.l0]
    refine Ev.bind (rwPairs_ev l hl) ?_
    rw [rst]
    by_cases hf : fac l = true
    · rw [if_pos hf]
      refine Ev.pos ((fac_prs l).2 hf) (Ev.bind (rwTick_ev l hl) ?_)
      have := (wt_le l).2 hf
      rw [wrap64_id (x := n + 1) (by omega) (by omega)]
      have := ih (twk l) (n + 1) (by rw [twk_len]; exact hl) (by omega) (by omega) (by omega)
      have e : (n + 1) + ((rst f (twk l)).2 : Int) = n + (((rst f (twk l)).2 + 1 : Nat) : Int) := by omega
      rw [e] at this
      exact this
    · rw [if_neg hf]
      refine Ev.neg (by rw [fac_prs]; exact hf) (Ev.const ?_)
      simp
theorem rwRest_ev (l : List UInt8) (hl : l.length ≤ 1000) : Ev (fun k => spec_rwRest.f k (up l)) (up (rst 1000000 l).1, ((rst 1000000 l).2 : Int)) := by
  have := rwRest_loop 1000000 l 0 hl (wt_1000 l hl) (by omega) (by omega)
  unfold spec_rwRest.f
  simpa using this
theorem ticks_loop : ∀ (f : Nat) (l : List UInt8) (n : Int), l.length ≤ 1000 → wt l ≤ f → 0 ≤ n → n + f ≤ 1000000000 → Ev (fun k => impl_ticksToRest.l0 k (up l) n) (n + ((rst f l).2 : Int)) := by
  intro f
  induction f with
  | zero =>
    intro l n hl hw h0 h1
    have hf : fac l = false := by
      rw [← Bool.not_eq_true]; intro hf; have := (wt_le l).2 hf; omega
    refine Ev.succ ?_
    simp only [impl_ticksToRest.l0, isAtRest_eq l hl, Option.bind_some, hf, rst]
    exact Ev.const (by simp)
  | succ f ih =>
    intro l n hl hw h0 h1
    refine Ev.succ ?_
    simp only [impl_ticksToRest.l0, isAtRest_eq l hl, tick_eq l hl, Option.bind_some]
    rw [rst]
    by_cases hf : fac l = true
    · rw [if_pos hf]
      refine Ev.neg (by simp [hf]) ?_
      have := (wt_le l).2 hf
      rw [wrap64_id (x := n + 1) (by omega) (by omega)]
      have := ih (twk l) (n + 1) (by rw [twk_len]; exact hl) (by omega) (by omega) (by omega)
      have e : (n + 1) + ((rst f (twk l)).2 : Int) = n + (((rst f (twk l)).2 + 1 : Nat) : Int) := by omega
      rw [e] at this
      exact this
    · rw [if_neg hf]
      exact Ev.pos (by simp [hf]) (Ev.const (by simp))
theorem ticks_ev (l : List UInt8) (hl : l.length ≤ 1000) : Ev (fun k => impl_ticksToRest.f k (up l)) ((rst 1000000 l).2 : Int) := by
  have := ticks_loop 1000000 l 0 hl (wt_1000 l hl) (by omega) (by omega)
  unfold impl_ticksToRest.f
  simpa using this
theorem after_loop : ∀ (t : Nat) (l : List UInt8), l.length ≤ 1000 → t ≤ 1000000000 → Ev (fun k => impl_RowAfter.l0 k (up l) (t : Int)) (up (twn t l), true) := by
  intro t
  induction t with
  | zero =>
    intro l hl ht
    refine Ev.succ ?_
    simp only [impl_RowAfter.l0]
    exact Ev.neg (by omega) (Ev.now _)
  | succ t ih =>
    intro l hl ht
    refine Ev.succ ?_
    simp only [impl_RowAfter.l0, isAtRest_eq l hl, tick_eq l hl, Option.bind_some]
    refine Ev.pos (by omega) ?_
    by_cases hf : fac l = true
    · refine Ev.neg (by simp [hf]) ?_
      rw [show ((t + 1 : Nat) : Int) - 1 = (t : Int) by omega, wrap64_id (x := (t : Int)) (by omega) (by omega), twn]
      exact ih (twk l) (by rw [twk_len]; exact hl) (by omega)
    · rw [Bool.not_eq_true] at hf
      rw [twn_rest _ _ hf]
      exact Ev.pos (by simp [hf]) (Ev.now _)
theorem after_ev (l : List UInt8) (t : Int) (hg : rgood l = true) (h0 : 0 ≤ t) (h1 : t ≤ 1000000) : Ev (fun k => impl_RowAfter.f k (up l) t) (up (twn t.toNat l), true) := by
  have hlen : 1 ≤ l.length ∧ l.length ≤ 60 := by
    unfold rgood at hg
    rw [Bool.and_eq_true, decide_eq_true_eq] at hg
    exact hg.1
  unfold impl_RowAfter.f
  rw [isRow_eq (up l) (by rw [up_size]; omega), L_mk, hg]
  simp only [Option.bind_some, if_true, in_eq]
  refine Ev.succ ?_
  simp only [impl_RowAfter.j0]
  refine Ev.neg (by simp; omega) ?_
  have := after_loop t.toNat l (by omega) (by omega)
  rw [Int.toNat_of_nonneg h0] at this
  exact this
theorem clo_loop (ps : List Int) (hps : ps.length ≤ 1000000) : ∀ (d i : Nat) (o : List Int), i + d = ps.length → (∀ p ∈ ps, 0 ≤ p ∧ p + 1 < (o.length : Int)) → Ev (fun k => impl_TurnsOfEach_clo.l0 k ps (i : Int) o) ((ps.drop i).foldl bump o) := by
  intro d
  induction d with
  | zero =>
    intro i o hi hp
    refine Ev.succ ?_
    simp only [impl_TurnsOfEach_clo.l0]
    rw [List.drop_of_length_le (by omega)]
    exact Ev.neg (by omega) (Ev.now _)
  | succ d ih =>
    intro i o hi hp
    have hlt : i < ps.length := by omega
    have hm := hp (rd ps (i : Int)) (rd_mem hlt)
    refine Ev.succ ?_
    simp only [impl_TurnsOfEach_clo.l0]
    rw [rd_cons_drop hlt, List.foldl_cons, wrap64_id (x := (i : Int) + 1) (by omega) (by omega)]
    refine Ev.pos (by omega) (Ev.pos (by omega) (Ev.pos (by omega) (Ev.pos (by omega) ?_)))
    exact ih (i + 1) (bump o (rd ps (i : Int))) (by omega) (fun p hp' => by rw [bump_len]; exact hp p hp')
theorem clo_ev (l : List UInt8) (o : List Int) (h1 : 1 ≤ l.length) (hl : l.length ≤ 1000) (ho : o.length = l.length) : Ev (fun k => impl_TurnsOfEach_clo.f k (up l) o) ((prs 0 l).foldl bump o) := by
  unfold impl_TurnsOfEach_clo.f
  refine Ev.bind (facing_ev l h1 hl) ?_
  have hle := prs_len l 0
  have := clo_loop (prs 0 l) (by omega) (prs 0 l).length 0 o (by omega) (fun p hp => by have := prs_ge l 0 p hp; omega)
  rw [List.drop_zero] at this
  exact this
theorem turns_loop : ∀ (f : Nat) (l : List UInt8) (o : List Int) (B : Int), 1 ≤ l.length → l.length ≤ 1000 → wt l ≤ f → o.length = l.length → 0 ≤ B → B + f ≤ 800000000 → (∀ q, 0 ≤ rd o q ∧ rd o q ≤ B) →
    ∃ o2 : List Int, Ev (fun k => impl_TurnsOfEach.l0 k (up l) o) o2 ∧ o2.length = l.length ∧ ∀ a, 0 ≤ a → rd o2 a = rd o a + trc f a l := by
  intro f
  induction f with
  | zero =>
    intro l o B h1 hl hw ho h0 hB hq
    have hf : fac l = false := by
      rw [← Bool.not_eq_true]; intro hf; have := (wt_le l).2 hf; omega
    refine ⟨o, Ev.succ ?_, ho, fun a _ => by simp [trc]⟩
    simp only [impl_TurnsOfEach.l0, isAtRest_eq l hl, Option.bind_some, hf]
    exact Ev.now _
  | succ f ih =>
    intro l o B h1 hl hw ho h0 hB hq
    by_cases hf : fac l = true
    · have hlt := (wt_le l).2 hf
      have hfold := rd_fold (prs 0 l) o B (prs_sparse l 0) (fun p hp => by have := prs_ge l 0 p hp; omega) h0 (by omega) (fun p _ => ⟨hq p, hq (p + 1)⟩) (fun q => by have := hq q; omega)
      have hneg : ∀ (o : List Int) (q : Int), q < 0 → rd o q = rd o 0 := fun o q h => by simp [rd, Int.toNat_of_nonpos (Int.le_of_lt h)]
      obtain ⟨o2, e1, e2, e3⟩ := ih (twk l) ((prs 0 l).foldl bump o) (B + 1) (by rw [twk_len]; exact h1) (by rw [twk_len]; exact hl) (by omega) (by rw [fold_bump_len, twk_len]; exact ho) (by omega) (by omega) (fun q => by
        by_cases h : 0 ≤ q
        · rw [hfold q h]; have := hq q; split <;> omega
        · rw [hneg _ q (by omega), hfold 0 (by omega)]; have := hq 0; split <;> omega)
      refine ⟨o2, Ev.succ ?_, by rw [e2, twk_len], fun a ha => ?_⟩
      · simp only [impl_TurnsOfEach.l0, isAtRest_eq l hl, tick_eq l hl, Option.bind_some]
        refine Ev.neg (by simp [hf]) (Ev.bind (clo_ev l o h1 hl ho) ?_)
        exact e1
      · rw [e3 a ha, hfold a ha, trc, if_pos hf]; omega
    · rw [Bool.not_eq_true] at hf
      refine ⟨o, Ev.succ ?_, ho, fun a _ => by simp [trc, hf]⟩
      simp only [impl_TurnsOfEach.l0, isAtRest_eq l hl, Option.bind_some, hf]
      exact Ev.now _
theorem turns_ev (l : List UInt8) (hg : rgood l = true) : ∃ o : List Int, Ev (fun k => impl_TurnsOfEach.f k (up l)) (o, true) ∧ o.length = l.length ∧ ∀ a, 0 ≤ a → rd o a = trc 1000000 a l := by
  have hlen : 1 ≤ l.length ∧ l.length ≤ 60 := by
    unfold rgood at hg
    rw [Bool.and_eq_true, decide_eq_true_eq] at hg
    exact hg.1
  have hz : ∀ q : Int, rd (List.replicate l.length (0 : Int)) q = 0 := fun q => by simp [rd, List.getElem?_replicate]; split <;> rfl
  obtain ⟨o, e1, e2, e3⟩ := turns_loop 1000000 l (List.replicate l.length 0) 0 hlen.1 (by omega) (Nat.le_trans (wt_sq l) (Nat.mul_le_mul (show l.length ≤ 1000 by omega) (show l.length ≤ 1000 by omega))) (by simp) (by omega) (by omega) (fun q => by rw [hz q]; omega)
  refine ⟨o, ?_, e2, fun a ha => by rw [e3 a ha, hz]; omega⟩
  unfold impl_TurnsOfEach.f
  rw [isRow_eq (up l) (by rw [up_size]; omega), L_mk, hg]
  simp only [Option.bind_some, if_true]
  refine Ev.pos (by rw [up_size]; omega) ?_
  rw [up_size]
  exact Ev.bind e1 (Ev.now _)
theorem l1Has_loop (a : Int) (ps : List Int) (hps : ps.length ≤ 1000000) : ∀ (d i : Nat), i + d = ps.length → Ev (fun k => spec_l1Has.l0 k a ps (ps.length : Int) (i : Int)) (decide (a ∈ ps.drop i)) := by
  intro d
  induction d with
  | zero =>
    intro i hi
    refine Ev.succ ?_
    simp only [spec_l1Has.l0]
    rw [List.drop_of_length_le (by omega)]
    exact Ev.neg (by omega) (Ev.const (by simp))
  | succ d ih =>
    intro i hi
    have hlt : i < ps.length := by omega
    refine Ev.succ ?_
    simp only [spec_l1Has.l0]
    rw [rd_cons_drop hlt, wrap64_id (x := (i : Int) + 1) (by omega) (by omega)]
    refine Ev.pos (by omega) (Ev.pos (by omega) (Ev.pos (by omega) (Ev.iff (fun hc => ?_) (fun hc => ?_))))
    · exact Ev.const (by simp [hc])
    · have := ih (i + 1) (by omega)
      have e : decide (a ∈ rd ps (i : Int) :: ps.drop (i + 1)) = decide (a ∈ ps.drop (i + 1)) := by
        apply decide_eq_decide.2
        rw [List.mem_cons]
        exact ⟨fun h => h.resolve_left (fun e => hc e.symm), .inr⟩
      rw [e]; exact this
theorem l1Has_ev (a : Int) (ps : List Int) (hps : ps.length ≤ 1000000) : Ev (fun k => spec_l1Has.f k ps a) (decide (a ∈ ps)) := by
  have := l1Has_loop a ps hps ps.length 0 (by omega)
  rw [List.drop_zero] at this
  exact this
theorem bt_get (l : List UInt8) (a : Int) (h0 : 0 ≤ a) (h1 : a < (l.length : Int)) : (bt (up l) a = 62) ↔ l[a.toNat]? = some 62 := by
  obtain ⟨i, rfl⟩ : ∃ i : Nat, a = i := ⟨a.toNat, by omega⟩
  rw [up62 l i (by omega), Int.toNat_natCast, List.getElem?_eq_getElem (by omega), Option.some.injEq]
theorem look_loop (a : Int) : ∀ (t : Nat) (l : List UInt8), l.length ≤ 1000 → t ≤ 1000000000 → 0 ≤ a → a < (l.length : Int) → Ev (fun k => spec_pzValue.l0 k a (t : Int) (up l) 0) (if (twn t l)[a.toNat]? = some 62 then 1 else 0) := by
  intro t
  induction t with
  | zero =>
    intro l hl ht h0 h1
    refine Ev.succ ?_
    simp only [spec_pzValue.l0, up_isize]
    refine Ev.neg (by omega) (Ev.pos h0 (Ev.pos h1 ?_))
    rw [twn]
    refine Ev.iff (fun hc => ?_) (fun hc => ?_)
    · rw [bt_get l a h0 h1] at hc; rw [if_pos hc]; exact Ev.now _
    · rw [bt_get l a h0 h1] at hc; rw [if_neg hc]; exact Ev.now _
  | succ t ih =>
    intro l hl ht h0 h1
    refine Ev.succ ?_
    simp only [spec_pzValue.l0]
    refine Ev.pos (by omega) (Ev.bind (rwTick_ev l hl) ?_)
    rw [show ((t + 1 : Nat) : Int) - 1 = (t : Int) by omega, wrap64_id (x := (t : Int)) (by omega) (by omega), twn]
    exact ih (twk l) (by rw [twk_len]; exact hl) (by omega) h0 (by rw [twk_len]; exact h1)
theorem count_loop (l : List UInt8) (hl : l.length ≤ 1000) : ∀ (d i : Nat) (n : Int), i + d = l.length → 0 ≤ n → n ≤ i → Ev (fun k => spec_pzValue.l1 k (up l) n (i : Int)) (n + ((l.drop i).count 62 : Int)) := by
  intro d
  induction d with
  | zero =>
    intro i n hi h0 h1
    refine Ev.succ ?_
    simp only [spec_pzValue.l1, up_isize]
    rw [List.drop_of_length_le (by omega)]
    exact Ev.neg (by omega) (Ev.const (by simp))
  | succ d ih =>
    intro i n hi h0 h1
    have hlt : i < l.length := by omega
    refine Ev.succ ?_
    simp only [spec_pzValue.l1, up_isize]
    rw [List.drop_eq_getElem_cons hlt, List.count_cons, wrap64_id (x := (i : Int) + 1) (by omega) (by omega), wrap64_id (x := n + 1) (by omega) (by omega)]
    refine Ev.pos (by omega) (Ev.pos (by omega) (Ev.iff (fun hc => ?_) (fun hc => ?_)))
    · rw [up62 l i hlt] at hc
      have := ih (i + 1) (n + 1) (by omega) (by omega) (by omega)
      rw [if_pos (by simp [hc])]
      have e : (n + 1) + ((l.drop (i + 1)).count 62 : Int) = n + (((l.drop (i + 1)).count 62 + 1 : Nat) : Int) := by omega
      rw [e] at this; exact this
    · rw [up62 l i hlt] at hc
      have := ih (i + 1) n (by omega) (by omega) (by omega)
      rw [if_neg (by simpa using hc)]
      exact this
theorem trc_loop (a : Int) (ha : 0 ≤ a) (ha1 : a ≤ 1000000) : ∀ (f : Nat) (l : List UInt8) (n : Int), l.length ≤ 1000 → wt l ≤ f → 0 ≤ n → n + f ≤ 1000000000 → Ev (fun k => spec_pzValue.l2 k a (up l) n (prs 0 l)) (n + trc f a l) := by
  intro f
  induction f with
  | zero =>
    intro l n hl hw h0 h1
    have hf : fac l = false := by
      rw [← Bool.not_eq_true]; intro hf; have := (wt_le l).2 hf; omega
    refine Ev.succ ?_
    simp only [spec_pzValue.l2, trc]
    exact Ev.neg (by rw [fac_prs, hf]; decide) (Ev.const (by simp))
  | succ f ih =>
    intro l n hl hw h0 h1
    refine Ev.succ ?_
    simp only [spec_pzValue.l2]
    rw [trc]
    by_cases hf : fac l = true
    · rw [if_pos hf]
      refine Ev.pos ((fac_prs l).2 hf) ?_
      have hlt := (wt_le l).2 hf
      have hps : (prs 0 l).length ≤ 1000000 := by have := prs_len l 0; omega
      have hl' : (twk l).length ≤ 1000 := by rw [twk_len]; exact hl
      have yes : Ev (fun k => spec_pzValue.j3 k a (up l) n true) (n + (1 + trc f a (twk l))) := by
        refine Ev.succ ?_
        simp only [spec_pzValue.j3, if_true]
        refine Ev.bind (rwTick_ev l hl) (Ev.bind (rwPairs_ev _ hl') ?_)
        rw [wrap64_id (x := n + 1) (by omega) (by omega)]
        have := ih (twk l) (n + 1) hl' (by omega) (by omega) (by omega)
        rw [show n + (1 + trc f a (twk l)) = n + 1 + trc f a (twk l) by omega]
        exact this
      have no : Ev (fun k => spec_pzValue.j3 k a (up l) n false) (n + (0 + trc f a (twk l))) := by
        refine Ev.succ ?_
        simp only [spec_pzValue.j3]
        refine Ev.neg (by decide) (Ev.bind (rwTick_ev l hl) (Ev.bind (rwPairs_ev _ hl') ?_))
        have := ih (twk l) n hl' (by omega) (by omega) (by omega)
        rw [Int.zero_add]
        exact this
      refine Ev.bind (l1Has_ev a _ hps) ?_
      by_cases c1 : a ∈ prs 0 l
      · rw [if_pos (.inl c1)]
        exact Ev.pos (by simp [c1]) yes
      · refine Ev.neg (by simp [c1]) ?_
        rw [wrap64_id (x := a - 1) (by omega) (by omega)]
        refine Ev.bind (l1Has_ev (a - 1) _ hps) ?_
        by_cases c2 : a - 1 ∈ prs 0 l
        · rw [if_pos (.inr c2), decide_eq_true c2]; exact yes
        · rw [if_neg (by rintro (h | h); exact c1 h; exact c2 h), decide_eq_false c2]; exact no
    · rw [if_neg hf]
      exact Ev.neg (by rw [fac_prs]; exact hf) (Ev.const (by simp))
theorem pzValue_ev (l : List UInt8) (k a b : Int) (hl : l.length ≤ 1000) (h : kok (l.length : Int) k a b) : Ev (fun r => spec_pzValue.f r k a b (up l)) (val k a b l) := by
  unfold spec_pzValue.f val
  by_cases h0 : k = 0
  · simp only [if_pos h0]
    obtain ⟨_, h1, h2⟩ : k = 0 ∧ (0 ≤ a ∧ a ≤ (l.length : Int) - 1) ∧ 0 ≤ b ∧ b ≤ 20 := by unfold kok at h; omega
    have := look_loop a b.toNat l hl (by omega) h1.1 (by omega)
    rw [Int.toNat_of_nonneg h2.1] at this
    exact this
  simp only [if_neg h0]
  by_cases h1 : k = 1
  · simp only [if_pos h1]
    have := count_loop l hl l.length 0 0 (by omega) (by omega) (by omega)
    simpa using this
  simp only [if_neg h1]
  by_cases h2 : k = 2
  · simp only [if_pos h2]
    exact Ev.bind (rwRest_ev l hl) (Ev.now _)
  simp only [if_neg h2]
  by_cases h3 : k = 3
  · simp only [if_pos h3]
    exact Ev.bind (rwPairs_ev l hl) (Ev.now _)
  simp only [if_neg h3]
  have h4 : k = 4 ∧ 0 ≤ a ∧ a ≤ (l.length : Int) - 1 := by unfold kok at h; omega
  refine Ev.bind (rwPairs_ev l hl) ?_
  have := trc_loop a h4.2.1 (by omega) 1000000 l 0 hl (wt_1000 l hl) (by omega) (by omega)
  rw [Int.zero_add] at this
  exact this
theorem pzFits_ev (l : List UInt8) (k a b c : Int) (hl : l.length ≤ 1000) (h : kok (l.length : Int) k a b) : Ev (fun r => spec_pzFits.f r k a b c (up l)) (val k a b l == c) := by
  unfold spec_pzFits.f
  exact Ev.bind (pzValue_ev l k a b hl h) (Ev.now _)
theorem told_ev (l : List UInt8) (k a b c : Int) (hg : rgood l = true) (h : kok (l.length : Int) k a b) : Ev (fun r => impl_Clue_told.f r k a b c (up l)) (k, a, b, val k a b l) := by
  have hlen : 1 ≤ l.length ∧ l.length ≤ 60 := by
    unfold rgood at hg
    rw [Bool.and_eq_true, decide_eq_true_eq] at hg
    exact hg.1
  unfold impl_Clue_told.f val
  by_cases h0 : k = 0
  · simp only [if_pos h0]
    obtain ⟨_, h1, h2⟩ : k = 0 ∧ (0 ≤ a ∧ a ≤ (l.length : Int) - 1) ∧ 0 ≤ b ∧ b ≤ 20 := by unfold kok at h; omega
    refine Ev.bind (after_ev l b hg h2.1 (by omega)) ?_
    have e := up_isize (twn b.toNat l)
    rw [twn_len] at e
    have e2 : (bt (up (twn b.toNat l)) a = 62) ↔ (twn b.toNat l)[a.toNat]? = some 62 := by
      obtain ⟨i, hi⟩ : ∃ i : Nat, a = i := ⟨a.toNat, by omega⟩
      subst hi
      rw [up62 _ i (by rw [twn_len]; omega), Int.toNat_natCast, List.getElem?_eq_getElem (by rw [twn_len]; omega), Option.some.injEq]
    refine Ev.pos h1.1 (Ev.pos (by show a < _; rw [e]; omega) ?_)
    refine Ev.iff (fun hc => ?_) (fun hc => ?_)
    · rw [if_pos (e2.1 hc)]; exact Ev.now _
    · rw [if_neg (fun q => hc (e2.2 q))]; exact Ev.now _
  simp only [if_neg h0]
  by_cases h1 : k = 1
  · simp only [if_pos h1]
    refine Ev.bind (Ev.const (show strings_Count.f (up l) (⟨#[62]⟩ : ByteArray) = some (l.count 62 : Int) from ?_)) (Ev.now _)
    show some ((Lib.countByte (L (up l)) 62 : Nat) : Int) = _
    rw [L_mk]; rfl
  simp only [if_neg h1]
  by_cases h2 : k = 2
  · simp only [if_pos h2]
    exact Ev.bind (ticks_ev l (by omega)) (Ev.now _)
  simp only [if_neg h2]
  by_cases h3 : k = 3
  · simp only [if_pos h3]
    exact Ev.bind (facing_ev l hlen.1 (by omega)) (Ev.now _)
  simp only [if_neg h3]
  have h4 : k = 4 ∧ 0 ≤ a ∧ a ≤ (l.length : Int) - 1 := by unfold kok at h; omega
  obtain ⟨o, e1, e2, e3⟩ := turns_ev l hg
  refine Ev.pos h4.1 (Ev.bind e1 ?_)
  refine Ev.pos h4.2.1 (Ev.pos (by show a < _; rw [e2]; omega) (Ev.const ?_))
  show some (k, a, b, rd o a) = _
  rw [e3 a h4.2.1]
theorem fits_ev (l : List UInt8) (k a b c : Int) (hg : rgood l = true) (h : kok (l.length : Int) k a b) : Ev (fun r => impl_Clue_fits.f r k a b c (up l)) (val k a b l == c) := by
  unfold impl_Clue_fits.f
  refine Ev.bind (told_ev l k a b c hg h) (Ev.const ?_)
  simp
theorem rwMake_loop : ∀ (j m : Nat) (o : List UInt8), j + o.length ≤ 1000 → m < 4611686018427387904 → Ev (fun k => spec_rwMake.l0 k (j : Int) (m : Int) (up o)) (up (mk j m ++ o)) := by
  intro j
  induction j with
  | zero =>
    intro m o h hm
    refine Ev.succ ?_
    simp only [spec_rwMake.l0]
    exact Ev.neg (by omega) (Ev.now _)
  | succ j ih =>
    intro m o h hm
    have hs := up_size o
    refine Ev.succ ?_
    simp only [spec_rwMake.l0]
    rw [tmod_nn (by omega), tdiv_nn (by omega), show ((j + 1 : Nat) : Int) - 1 = (j : Int) by omega, wrap64_id (x := (j : Int)) (by omega) (by omega), wrap64_id (x := (m : Int) / 2) (by omega) (by omega), show (m : Int) / 2 = ((m / 2 : Nat) : Int) by omega]
    have e62 : (⟨#[62]⟩ : ByteArray) ++ up o = up (62 :: o) := up_app [62] o
    have e60 : (⟨#[60]⟩ : ByteArray) ++ up o = up (60 :: o) := up_app [60] o
    rw [e62, e60, mk, List.append_assoc]
    refine Ev.pos (by omega) (Ev.iff (fun hc => ?_) (fun hc => ?_))
    · have e : sgnOf (m % 2) = 62 := by unfold sgnOf; rw [if_pos (by omega)]
      rw [e]
      exact Ev.pos (by omega) (ih (m / 2) (62 :: o) (by simp; omega) (by omega))
    · have e : sgnOf (m % 2) = 60 := by unfold sgnOf; rw [if_neg (by omega)]
      rw [e]
      exact Ev.pos (by omega) (ih (m / 2) (60 :: o) (by simp; omega) (by omega))
theorem rwMake_ev (n m : Nat) (hn : n ≤ 60) (hm : m < 4611686018427387904) : Ev (fun k => spec_rwMake.f k (n : Int) (m : Int)) (up (mk n m)) := by
  unfold spec_rwMake.f
  have := rwMake_loop n m [] (by simp; omega) hm
  rw [List.append_nil] at this
  exact this
theorem rowOf_loop (n m : Nat) (hn : n ≤ 60) (hm : m < 4611686018427387904) : ∀ (d i : Nat), i + d = n → Ev (fun k => impl_rowOf.l0 k (n : Int) (m : Int) (cpy 0 (inums (mk n m)) i) (n : Int) (i : Int)) (up (mk n m)) := by
  have hl : (inums (mk n m)).length = n := by simp [inums, mk_len]
  intro d
  induction d with
  | zero =>
    intro i hi
    refine Ev.succ ?_
    simp only [impl_rowOf.l0]
    refine Ev.neg (by omega) (Ev.const ?_)
    rw [show i = (inums (mk n m)).length by omega, cpy_all, inums_str]
  | succ d ih =>
    intro i hi
    refine Ev.succ ?_
    simp only [impl_rowOf.l0, Option.bind_some]
    have hlt : i < (inums (mk n m)).length := by omega
    have hget : (inums (mk n m))[i] = if m / 2 ^ (n - 1 - i) % 2 = 1 then 62 else 60 := by
      have h1 := mk_get n m i (by omega)
      have h2 : (inums (mk n m))[i]? = some (((sgnOf (m / 2 ^ (n - 1 - i) % 2)).toNat : Nat) : Int) := by simp [inums, h1]
      rw [List.getElem?_eq_getElem hlt, Option.some.injEq] at h2
      rw [h2]
      unfold sgnOf
      split <;> rfl
    rw [wrap64_id (x := (n : Int) - 1) (by omega) (by omega), wrap64_id (x := (i : Int) + 1) (by omega) (by omega), wrap64_id (x := (n : Int) - 1 - (i : Int)) (by omega) (by omega), show (n : Int) - 1 - (i : Int) = ((n - 1 - i : Nat) : Int) by omega, shr_div m _ (by omega), and1 _ (Nat.lt_of_le_of_lt (Nat.div_le_self _ _) (by omega)), Int.toNat_natCast]
    have hs := cpy_succ 0 (inums (mk n m)) i hlt
    refine Ev.pos (by omega) (Ev.pos (by omega) (Ev.pos (by rw [cpy_len _ _ _ (by omega)]; omega) (Ev.pos (by omega) (Ev.iff (fun hc => ?_) (fun hc => ?_)))))
    · rw [hget, if_pos (by omega)] at hs
      rw [List.set_set, hs]
      exact ih (i + 1) (by omega)
    · rw [hget, if_neg (by omega)] at hs
      rw [hs]
      exact ih (i + 1) (by omega)
theorem rowOf_ev (n m : Nat) (hn : n ≤ 60) (hm : m < 4611686018427387904) : Ev (fun k => impl_rowOf.f k (n : Int) (m : Int)) (up (mk n m)) := by
  have hl : (inums (mk n m)).length = n := by simp [inums, mk_len]
  unfold impl_rowOf.f
  simp only [Option.bind_some, Int.toNat_natCast, List.length_replicate]
  refine Ev.pos (by omega) (Ev.pos (by omega) ?_)
  have := rowOf_loop n m hn hm n 0 (by omega)
  rw [cpy_zero, hl] at this
  exact this
def fitc (l : List UInt8) (x : S33) : Bool := val x.f0 x.f1 x.f2 l == x.f3
/-- The rows of n soldiers that fit clues, from a number on. -/
def sol (n : Nat) (cl : List S33) : Nat → Nat → List ByteArray
  | _, 0 => []
  | m, d + 1 => (if cl.all (fitc (mk n m)) = true then [up (mk n m)] else []) ++ sol n cl (m + 1) d
theorem sol_len (n : Nat) (cl : List S33) : ∀ (d m : Nat), (sol n cl m d).length ≤ d
  | 0, _ => by simp [sol]
  | d + 1, m => by
    have := sol_len n cl d (m + 1)
    rw [sol, List.length_append]
    split <;> simp <;> omega
abbrev sols (n : Int) (cl : List S33) : List ByteArray := sol n.toNat cl 0 (2 ^ n.toNat)
theorem all_fit (l : List UInt8) (cl : List S33) (i : Nat) (h : i < cl.length) : (cl.drop i).all (fitc l) = (fitc l (rd_T33 cl (i : Int)) && (cl.drop (i + 1)).all (fitc l)) := by
  rw [List.drop_eq_getElem_cons h, rdClueI h]; rfl
theorem kok_get {n : Int} {cl : List S33} (hc : cl.all (cokS n) = true) {i : Nat} (h : i < cl.length) : kok n (rd_T33 cl (i : Int)).f0 (rd_T33 cl (i : Int)).f1 (rd_T33 cl (i : Int)).f2 := by
  rw [rdClueI h]
  exact kok_of (List.all_eq_true.1 hc _ (List.getElem_mem h))
theorem two8 (n : Nat) (h : n ≤ 8) : 2 ^ n ≤ 256 := Nat.pow_le_pow_right (by omega) h
theorem pzAll_in (n m : Nat) (hn : 1 ≤ n ∧ n ≤ 8) (cl : List S33) (hl : cl.length ≤ 1000000) (hc : cl.all (cokS (n : Int)) = true) (o : List ByteArray) (ho : o.length ≤ 1000000) (hm : m ≤ 1000000) (rT rF : List ByteArray)
    (hT : Ev (fun k => spec_pzAll.l0 k (n : Int) cl (o ++ [up (mk n m)]) ((m + 1 : Nat) : Int)) rT) (hF : Ev (fun k => spec_pzAll.l0 k (n : Int) cl o ((m + 1 : Nat) : Int)) rF) :
    ∀ (d i : Nat) (b : Bool), i + d = cl.length → Ev (fun k => spec_pzAll.l1 k (n : Int) cl o (m : Int) (up (mk n m)) b cl (cl.length : Int) (i : Int)) (if (b && (cl.drop i).all (fitc (mk n m))) = true then rT else rF) := by
  intro d
  induction d with
  | zero =>
    intro i b hi
    refine Ev.succ ?_
    simp only [spec_pzAll.l1]
    rw [List.drop_of_length_le (by omega), List.all_nil, Bool.and_true, wrap64_id (x := (m : Int) + 1) (by omega) (by omega)]
    refine Ev.neg (by omega) (Ev.iff (fun hb => ?_) (fun hb => ?_))
    · rw [if_pos hb]; exact Ev.pos (by omega) hT
    · rw [if_neg hb]; exact hF
  | succ d ih =>
    intro i b hi
    have hlt : i < cl.length := by omega
    refine Ev.succ ?_
    simp only [spec_pzAll.l1]
    rw [all_fit _ _ _ hlt, wrap64_id (x := (i : Int) + 1) (by omega) (by omega)]
    refine Ev.pos (by omega) (Ev.pos (by omega) (Ev.pos (by omega) (Ev.iff (fun hb => ?_) (fun hb => ?_))))
    · refine Ev.bind (pzFits_ev (mk n m) _ _ _ _ (by rw [mk_len]; omega) (by rw [mk_len]; exact kok_get hc hlt)) ?_
      have := ih (i + 1) (fitc (mk n m) (rd_T33 cl (i : Int))) (by omega)
      rw [hb, Bool.true_and]
      exact this
    · have := ih (i + 1) false (by omega)
      rw [Bool.not_eq_true] at hb
      rw [hb, Bool.false_and]
      rw [Bool.false_and] at this
      exact this
theorem pzAll_loop (n : Nat) (hn : 1 ≤ n ∧ n ≤ 8) (cl : List S33) (hl : cl.length ≤ 1000000) (hc : cl.all (cokS (n : Int)) = true) : ∀ (d m : Nat) (o : List ByteArray), m + d = 2 ^ n → o.length ≤ m → Ev (fun k => spec_pzAll.l0 k (n : Int) cl o (m : Int)) (o ++ sol n cl m d) := by
  have h2 := two8 n hn.2
  intro d
  induction d with
  | zero =>
    intro m o hm ho
    refine Ev.succ ?_
    simp only [spec_pzAll.l0]
    rw [shl_one n (by omega), sol, List.append_nil]
    exact Ev.pos (by omega) (Ev.neg (by omega) (Ev.now _))
  | succ d ih =>
    intro m o hm ho
    refine Ev.succ ?_
    simp only [spec_pzAll.l0]
    rw [shl_one n (by omega)]
    refine Ev.pos (by omega) (Ev.pos (by omega) (Ev.bind (rwMake_ev n m (by omega) (by omega)) ?_))
    have := pzAll_in n m hn cl hl hc o (by omega) (by omega) _ _ (ih (m + 1) (o ++ [up (mk n m)]) (by omega) (by simp; omega)) (ih (m + 1) o (by omega) (by omega)) cl.length 0 true (by omega)
    rw [Bool.true_and, List.drop_zero] at this
    have e : (if cl.all (fitc (mk n m)) = true then o ++ [up (mk n m)] ++ sol n cl (m + 1) d else o ++ sol n cl (m + 1) d) = o ++ sol n cl m (d + 1) := by
      rw [sol]
      split <;> simp
    rw [e] at this
    exact this
theorem pzAll_ev (n : Int) (hn : 1 ≤ n ∧ n ≤ 8) (cl : List S33) (hl : cl.length ≤ 1000000) (hc : cl.all (cokS n) = true) : Ev (fun k => spec_pzAll.f k n cl) (sols n cl) := by
  obtain ⟨j, rfl⟩ : ∃ j : Nat, n = j := ⟨n.toNat, by omega⟩
  have := pzAll_loop j (by omega) cl hl hc (2 ^ j) 0 [] (by omega) (by simp)
  unfold spec_pzAll.f
  rw [List.nil_append] at this
  exact this
theorem has_loop (n : Nat) (l : List UInt8) (hg : rgood l = true) (hn : l.length = n) (cl : List S33) (hl : cl.length ≤ 1000000) (hc : cl.all (cokS (n : Int)) = true) : ∀ (d i : Nat), i + d = cl.length → ∃ r : Int, Ev (fun k => impl_solutions_idx.l0 k (up l) cl (i : Int)) r ∧ decide (0 ≤ r) = !((cl.drop i).all (fitc l)) := by
  intro d
  induction d with
  | zero =>
    intro i hi
    refine ⟨-1, Ev.succ ?_, by rw [List.drop_of_length_le (by omega)]; rfl⟩
    simp only [impl_solutions_idx.l0]
    exact Ev.neg (by omega) (Ev.now _)
  | succ d ih =>
    intro i hi
    have hlt : i < cl.length := by omega
    have hf := fits_ev l (rd_T33 cl (i : Int)).f0 (rd_T33 cl (i : Int)).f1 (rd_T33 cl (i : Int)).f2 (rd_T33 cl (i : Int)).f3 hg (by rw [hn]; exact kok_get hc hlt)
    have hf2 : Ev (fun k => impl_solutions_clo.f k (up l) (rd_T33 cl (i : Int)).f0 (rd_T33 cl (i : Int)).f1 (rd_T33 cl (i : Int)).f2 (rd_T33 cl (i : Int)).f3) (!(fitc l (rd_T33 cl (i : Int)))) := by
      unfold impl_solutions_clo.f
      exact Ev.bind hf (Ev.now _)
    rw [all_fit _ _ _ hlt]
    by_cases hb : fitc l (rd_T33 cl (i : Int)) = true
    · obtain ⟨r, e1, e2⟩ := ih (i + 1) (by omega)
      refine ⟨r, Ev.succ ?_, by rw [hb, Bool.true_and]; exact e2⟩
      simp only [impl_solutions_idx.l0]
      rw [wrap64_id (x := (i : Int) + 1) (by omega) (by omega)]
      refine Ev.pos (by omega) (Ev.pos (by omega) (Ev.bind hf2 ?_))
      exact Ev.neg (by rw [hb]; decide) e1
    · rw [Bool.not_eq_true] at hb
      refine ⟨(i : Int), Ev.succ ?_, by rw [hb, Bool.false_and]; simp⟩
      simp only [impl_solutions_idx.l0]
      refine Ev.pos (by omega) (Ev.pos (by omega) (Ev.bind hf2 ?_))
      exact Ev.pos (by rw [hb]; rfl) (Ev.now _)
theorem has_ev (n : Nat) (l : List UInt8) (hg : rgood l = true) (hn : l.length = n) (cl : List S33) (hl : cl.length ≤ 1000000) (hc : cl.all (cokS (n : Int)) = true) : Ev (fun k => impl_solutions_has.f k (up l) cl) (!(cl.all (fitc l))) := by
  obtain ⟨r, e1, e2⟩ := has_loop n l hg hn cl hl hc cl.length 0 (by omega)
  rw [List.drop_zero] at e2
  unfold impl_solutions_has.f
  refine Ev.bind e1 ?_
  rw [e2]; exact Ev.now _
theorem solutions_loop (n : Nat) (hn : 1 ≤ n ∧ n ≤ 8) (cl : List S33) (hl : cl.length ≤ 1000000) (hc : cl.all (cokS (n : Int)) = true) : ∀ (d m : Nat) (o : List ByteArray), m + d = 2 ^ n → o.length ≤ m → Ev (fun k => impl_solutions.l0 k (n : Int) cl o ((2 ^ n : Nat) : Int) (m : Int)) (o ++ sol n cl m d) := by
  have h2 := two8 n hn.2
  intro d
  induction d with
  | zero =>
    intro m o hm ho
    refine Ev.succ ?_
    simp only [impl_solutions.l0]
    rw [sol, List.append_nil]
    exact Ev.neg (by omega) (Ev.now _)
  | succ d ih =>
    intro m o hm ho
    refine Ev.succ ?_
    simp only [impl_solutions.l0]
    rw [wrap64_id (x := (m : Int) + 1) (by omega) (by omega)]
    refine Ev.pos (by omega) (Ev.bind (rowOf_ev n m (by omega) (by omega)) (Ev.bind (has_ev n (mk n m) (mk_good n m (by omega)) (mk_len n m) cl hl hc) ?_))
    rw [sol]
    by_cases hb : cl.all (fitc (mk n m)) = true
    · rw [hb, if_pos rfl]
      have := ih (m + 1) (o ++ [up (mk n m)]) (by omega) (by simp; omega)
      rw [List.append_assoc] at this
      exact Ev.neg (by decide) (Ev.pos (by omega) this)
    · rw [if_neg hb, List.nil_append]
      rw [Bool.not_eq_true] at hb
      rw [hb]
      exact Ev.pos rfl (ih (m + 1) o (by omega) (by omega))
theorem solutions_ev (n : Int) (hn : 1 ≤ n ∧ n ≤ 8) (cl : List S33) (hl : cl.length ≤ 1000000) (hc : cl.all (cokS n) = true) : Ev (fun k => impl_solutions.f k n cl) (sols n cl) := by
  obtain ⟨j, rfl⟩ : ∃ j : Nat, n = j := ⟨n.toNat, by omega⟩
  have := solutions_loop j (by omega) cl hl hc (2 ^ j) 0 [] (by omega) (by simp)
  unfold impl_solutions.f
  rw [shl_one j (by omega)]
  rw [List.nil_append] at this
  exact Ev.pos (by omega) this

theorem pgood_is {n : Int} {l : List S33} (h : pgood n l = true) : (1 ≤ n ∧ n ≤ 8) ∧ l.length ≤ 6 ∧ l.all (cokS n) = true := by
  unfold pgood at h
  simp only [Bool.and_eq_true, decide_eq_true_eq] at h
  exact h
theorem imSolutions_ev (n : Int) (l : List S33) (hl : l.length ≤ 1000000000) : Ev (fun k => impl_Solutions.f k n l) (if pgood n l = true then (sols n l, true) else ([], false)) := by
  unfold impl_Solutions.f
  refine Ev.bind (isPuzzle_ev n l (by omega)) ?_
  by_cases hg : pgood n l = true
  · have h := pgood_is hg
    rw [if_pos hg, hg]
    exact Ev.pos rfl (Ev.bind (solutions_ev n h.1 l (by omega) h.2.2) (Ev.now _))
  · rw [if_neg hg]
    exact Ev.neg hg (Ev.now _)
def rdS (l : List ByteArray) (i : Int) : ByteArray := rdOf ByteArray.empty l i
theorem rdS_get {l : List ByteArray} {i : Nat} (h : i < l.length) : rdOf ByteArray.empty l (i : Int) = l[i] := by simp [rdOf, h]
theorem sol_mem (n : Nat) (cl : List S33) : ∀ (d m : Nat) (r : ByteArray), r ∈ sol n cl m d → (L r).length = n
  | 0, m, r, h => by simp [sol] at h
  | d + 1, m, r, h => by
    rw [sol, List.mem_append] at h
    rcases h with h | h
    · split at h
      · simp only [List.mem_singleton] at h
        rw [h, L_mk, mk_len]
      · simp at h
    · exact sol_mem n cl d (m + 1) r h
def fsure (n : Int) (l : List S33) : ByteArray × Bool := if pgood n l = true then (if ((sols n l).length : Int) = 0 then (⟨#[]⟩, false) else (up (sureF (L (rdOf ByteArray.empty (sols n l) 0)) (sols n l)), true)) else (⟨#[]⟩, false)
theorem sure_in (rows : List ByteArray) (n i : Nat) (hi : i < n) (hn : n ≤ 60) (hr : ∀ r ∈ rows, (L r).length = n) (hl : rows.length ≤ 1000000) (o : List UInt8) (ho : o.length ≤ 60) (a : UInt8) (N : Int) (cl : List S33) (R : ByteArray × Bool) : ∀ (d q : Nat), q + d = rows.length →
    Ev (fun k => spec_SureSigns.l0 k rows (up (o ++ [if (rows.drop q).all (same8 i a) = true then a else 63])) ((i + 1 : Nat) : Int) N cl) R → Ev (fun k => spec_SureSigns.l1 k rows (up o) (i : Int) (up [a]) rows (rows.length : Int) (q : Int) N cl) R := by
  have hs := up_size o
  intro d
  induction d with
  | zero =>
    intro q hq h
    refine Ev.succ ?_
    simp only [spec_SureSigns.l1]
    rw [List.drop_of_length_le (by omega), List.all_nil, if_pos rfl] at h
    rw [wrap64_id (x := (i : Int) + 1) (by omega) (by omega), up_app, show (up o).size + (up [a]).size = o.length + 1 by rw [up_size, up_size]; rfl]
    exact Ev.neg (by omega) (Ev.pos (by omega) h)
  | succ d ih =>
    intro q hq h
    have hq2 : q < rows.length := by omega
    refine Ev.succ ?_
    simp only [spec_SureSigns.l1]
    have hlen : (L rows[q]).length = n := hr _ (List.getElem_mem hq2)
    have hb : (L rows[q])[i]? = some (L rows[q])[i] := List.getElem?_eq_getElem (by omega)
    rw [wrap64_id (x := (i : Int) + 1) (by omega) (by omega), wrap64_id (x := (q : Int) + 1) (by omega) (by omega), rdS_get hq2, show ((i : Int)).toNat = i by omega, show ((i : Int) + 1).toNat = i + 1 by omega, cut1 _ _ _ hb]
    have hsz : (rows[q]).size = n := by rw [size_L, hlen]
    rw [List.drop_eq_getElem_cons hq2, List.all_cons] at h
    refine Ev.pos (by omega) (Ev.pos (by omega) (Ev.pos (by omega) (Ev.pos (by omega) (Ev.pos (by omega) (Ev.pos (by rw [hsz]; omega) (Ev.iff (fun hc => ?_) (fun hc => ?_)))))))
    · have e1 : same8 i a rows[q] = true := by unfold same8; rw [hb, (one_eq _ _).1 hc]; simp
      rw [e1, Bool.true_and] at h
      exact ih (q + 1) (by omega) h
    · have hc2 : ¬ (L rows[q])[i] = a := fun e => hc ((one_eq _ _).2 e)
      have e1 : same8 i a rows[q] = false := by unfold same8; rw [hb]; simpa using hc2
      rw [e1, Bool.false_and, if_neg (by decide)] at h
      have e2 : up o ++ (⟨#[63]⟩ : ByteArray) = up (o ++ [63]) := up_app o [63]
      rw [e2]
      exact Ev.pos (by omega) h
theorem spSure_loop (rows : List ByteArray) (n : Nat) (hn : n ≤ 60) (hr : ∀ r ∈ rows, (L r).length = n) (hl : rows.length ≤ 1000000) (hp : 0 < rows.length) (cl : List S33) : ∀ (d i : Nat), i + d = n →
    Ev (fun k => spec_SureSigns.l0 k rows (up ((sureF (L (rdOf ByteArray.empty rows 0)) rows).take i)) (i : Int) (n : Int) cl) (up (sureF (L (rdOf ByteArray.empty rows 0)) rows), true) := by
  have e0 : rdOf ByteArray.empty rows 0 = rows[0] := rdS_get hp
  rw [e0]
  have h0 : (L rows[0]).length = n := hr _ (List.getElem_mem hp)
  have hF := sureF_len n rows _ h0 hr
  intro d
  induction d with
  | zero =>
    intro i hi
    refine Ev.succ ?_
    simp only [spec_SureSigns.l0]
    rw [List.take_of_length_le (by omega)]
    exact Ev.neg (by omega) (Ev.now _)
  | succ d ih =>
    intro i hi
    refine Ev.succ ?_
    simp only [spec_SureSigns.l0]
    have hb : (L rows[0])[i]? = some (L rows[0])[i] := List.getElem?_eq_getElem (by omega)
    have hg := sureF_get n i (by omega) rows _ _ h0 hr hb
    have hsz : (rows[0]).size = n := by rw [size_L, h0]
    rw [wrap64_id (x := (i : Int) + 1) (by omega) (by omega), e0, show ((i : Int)).toNat = i by omega, show ((i : Int) + 1).toNat = i + 1 by omega, cut1 _ _ _ hb]
    refine Ev.pos (by omega) (Ev.pos (by omega) (Ev.pos (by omega) (Ev.pos (by omega) (Ev.pos (by rw [hsz]; omega) ?_))))
    refine sure_in rows n i (by omega) hn hr hl _ (by rw [List.length_take]; omega) _ _ _ _ rows.length 0 (by omega) ?_
    have := ih (i + 1) (by omega)
    rw [List.take_add_one, hg] at this
    exact this
theorem spSure_ev (n : Int) (l : List S33) (hl : l.length ≤ 1000000000) : Ev (fun k => spec_SureSigns.f k n l) (fsure n l) := by
  unfold spec_SureSigns.f fsure
  refine Ev.bind (pzGood_ev n l hl) ?_
  by_cases hg : pgood n l = true
  · have h := pgood_is hg
    rw [if_pos hg, hg]
    refine Ev.pos rfl (Ev.bind (pzAll_ev n h.1 l (by omega) h.2.2) (Ev.iff (fun hc => ?_) (fun hc => ?_)))
    · rw [if_pos hc]; exact Ev.now _
    · rw [if_neg hc]
      have h8 := two8 n.toNat (by omega)
      have hlen : (sols n l).length ≤ 2 ^ n.toNat := sol_len n.toNat l (2 ^ n.toNat) 0
      have := spSure_loop (sols n l) n.toNat (by omega) (fun r h => sol_mem n.toNat l _ _ r h) (by omega) (by omega) l n.toNat 0 (by omega)
      rw [show ((n.toNat : Nat) : Int) = n by omega] at this
      exact this
  · rw [if_neg hg]
    exact Ev.neg hg (Ev.now _)
theorem imSure_l1 (row : ByteArray) : ∀ (s p : List UInt8), p.length + s.length ≤ 1000 → (L row).length = p.length + s.length → Ev (fun k => impl_SureSigns.l1 k row (p.length : Int) (inums (p ++ s))) (inums (p ++ List.zipWith g8 ((L row).drop p.length) s))
  | [], p, h, hl => by
    refine Ev.succ ?_
    simp only [impl_SureSigns.l1]
    rw [List.zipWith_nil_right]
    exact Ev.neg (by simp [inums]) (Ev.now _)
  | a :: s, p, h, hl => by
    rw [List.length_cons] at h hl
    have hlt : p.length < (L row).length := by omega
    refine Ev.succ ?_
    simp only [impl_SureSigns.l1]
    rw [wrap64_id (x := (p.length : Int) + 1) (by omega) (by omega), rd_inums, bt_nat row p.length hlt, Int.toNat_natCast, set_inums, List.drop_eq_getElem_cons hlt, List.zipWith_cons_cons]
    refine Ev.pos (by simp [inums]; omega) (Ev.pos (by omega) (Ev.pos (by rw [isize_L]; omega) (Ev.iff (fun hc => ?_) (fun hc => ?_))))
    · have := imSure_l1 row s (p ++ [a]) (by simp; omega) (by rw [List.length_append, List.length_singleton]; omega)
      have e : g8 (L row)[p.length] a = a := by unfold g8; rw [if_pos ((u8_eq _ _).1 hc)]
      rw [e]
      simpa using this
    · have := imSure_l1 row s (p ++ [63]) (by simp; omega) (by rw [List.length_append, List.length_singleton]; omega)
      have e : g8 (L row)[p.length] a = 63 := by unfold g8; rw [if_neg (fun e => hc ((u8_eq _ _).2 e))]
      rw [e]
      simpa using this
theorem imSure_l0 (rows : List ByteArray) (n : Nat) (hn : n ≤ 60) (hr : ∀ r ∈ rows, (L r).length = n) (hl : rows.length ≤ 1000000) : ∀ (d i : Nat) (o : List UInt8), i + d = rows.length → o.length = n → Ev (fun k => impl_SureSigns.l0 k rows (i : Int) (inums o)) (inums (sureF o (rows.drop i))) := by
  intro d
  induction d with
  | zero =>
    intro i o hi ho
    refine Ev.succ ?_
    simp only [impl_SureSigns.l0]
    rw [List.drop_of_length_le (by omega)]
    exact Ev.neg (by omega) (Ev.now _)
  | succ d ih =>
    intro i o hi ho
    have hi2 : i < rows.length := by omega
    have hlen : (L rows[i]).length = n := hr _ (List.getElem_mem hi2)
    refine Ev.succ ?_
    simp only [impl_SureSigns.l0]
    rw [wrap64_id (x := (i : Int) + 1) (by omega) (by omega), rdS_get hi2, List.drop_eq_getElem_cons hi2, sureF_cons]
    have h1 := imSure_l1 rows[i] o [] (by rw [List.length_nil]; omega) (by rw [List.length_nil]; omega)
    exact Ev.pos (by omega) (Ev.pos (by omega) (Ev.bind h1 (ih (i + 1) _ (by omega) (by simp [hlen, ho]))))
theorem imSure_ev (n : Int) (l : List S33) (hl : l.length ≤ 1000000000) : Ev (fun k => impl_SureSigns.f k n l) (fsure n l) := by
  unfold impl_SureSigns.f fsure
  refine Ev.bind (imSolutions_ev n l hl) ?_
  by_cases hg : pgood n l = true
  · have h := pgood_is hg
    rw [if_pos hg, if_pos hg]
    have h8 := two8 n.toNat (by omega)
    have hlen : (sols n l).length ≤ 2 ^ n.toNat := sol_len n.toNat l (2 ^ n.toNat) 0
    refine Ev.pos rfl (Ev.iff (fun hc => ?_) (fun hc => ?_))
    · rw [if_pos hc]; exact Ev.now _
    · rw [if_neg hc]
      simp only at hc
      have hp : 0 < (sols n l).length := by omega
      have e0 : rdOf ByteArray.empty (sols n l) 0 = (sols n l)[0] := rdS_get hp
      have hr : ∀ r ∈ sols n l, (L r).length = n.toNat := fun r h => sol_mem n.toNat l _ _ r h
      have h0 : (L (sols n l)[0]).length = n.toNat := hr _ (List.getElem_mem hp)
      rw [e0, bytes_inums]
      refine Ev.pos (by rw [size_L, h0]; omega) (Ev.bind (imSure_l0 (sols n l) n.toNat (by omega) hr (by omega) _ 0 _ (by rw [Nat.zero_add]) h0) (Ev.const ?_))
      rw [inums_str]; rfl
  · rw [if_neg hg, if_neg hg]
    exact Ev.neg (by decide) (Ev.now _)
theorem FnExactSureSigns : StatFnExactSureSigns := by
  intro n l _ hl8 _
  refine Ev.get ?_
  unfold laws_FnExactSureSigns.f
  simp only [szPuzzle_eq n l (by omega), Option.bind_some]
  by_cases h : 1048576 < l.length
  · simp only [if_pos h]
    exact Ev.pos (by omega) (Ev.now _)
  · simp only [if_neg h]
    refine Ev.neg (by omega) ?_
    have hm : (l.map cvClue).length ≤ 1000000000 := by simp; omega
    have tp := toPuzzle_ev n l (by omega)
    refine Ev.bind tp (Ev.bind (spSure_ev n _ hm) (Ev.bind tp (Ev.bind (imSure_ev n _ hm) (Ev.pos rfl (Ev.succ ?_)))))
    simp only [laws_FnExactSureSigns.j0]
    exact Ev.neg (by simp) (Ev.bind tp (Ev.bind (eqPuzzle_ev n _ hm) (Ev.pos rfl (Ev.now _))))

end Go.Proofs.YtmindeeacfdonaaDoor.Pure
