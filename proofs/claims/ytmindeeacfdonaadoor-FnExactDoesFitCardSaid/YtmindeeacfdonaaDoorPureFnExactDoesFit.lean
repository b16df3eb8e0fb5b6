/- The law FnExactDoesFit, pure: what the printed functions answer, and that it is what the law asks. No condition. -/
import Derived.Test.YtmindeeacfdonaaDoorStatFnExactDoesFit
import Derived.Test.YtmindeeacfdonaaDoorPlBase
import Derived.Test.YtmindeeacfdonaaDoorPlList
import Derived.Test.YtmindeeacfdonaaDoorPlClue
import Derived.Test.YtmindeeacfdonaaDoorPlBytes
import Derived.Test.YtmindeeacfdonaaDoorPlTick
import Derived.Test.YtmindeeacfdonaaDoorPlRow
import Derived.Test.YtmindeeacfdonaaDoorPlVal
namespace Go.Proofs.YtmindeeacfdonaaDoor.Pure
open Go.RowKit Go.Proofs.YtmindeeacfdonaaDoor.PFnExactDoesFit Go.Proofs.YtmindeeacfdonaaDoorW.PrintWords Go.Proofs.YtmindeeacfdonaaDoorW.PrintMore Go.Proofs.YtmindeeacfdonaaDoor.Opn Go.Proofs.YtmindeeacfdonaaDoor.Pl
set_option linter.unusedVariables false
set_option linter.unusedSimpArgs false
theorem in_eq (a b c : Int) : impl_in.f a b c = some (decide (b ≤ a ∧ a ≤ c)) := by
  unfold impl_in.f; by_cases h : b ≤ a <;> simp [h]
theorem l1In_eq (a b c : Int) : spec_l1In.f a b c = some (decide (b ≤ a ∧ a ≤ c)) := by
  unfold spec_l1In.f; by_cases h : b ≤ a <;> simp [h]
theorem pzClue_eq {n : Int} (h : 1 ≤ n ∧ n ≤ 8) (k a b c : Int) : spec_pzClue.f n k a b c = some (cok n k a b c) := by
  unfold spec_pzClue.f cok
  rw [wrap64_id (x := n - 1) (by omega) (by omega)]
  simp only [l1In_eq, Option.bind_some, ite_and, ite_dec]
  repeat' split
  all_goals first | rfl | simp_all
theorem isHidden_eq (n : Int) : impl_isHidden.f n = some (decide (1 ≤ n ∧ n ≤ 8)) := by
  unfold impl_isHidden.f; rw [in_eq]; rfl
theorem isClue_eq (n k a b c : Int) : impl_isClue.f n k a b c = some (decide (1 ≤ n ∧ n ≤ 8) && cok n k a b c) := by
  unfold impl_isClue.f cok
  simp only [isHidden_eq, in_eq, Option.bind_some, ite_and, ite_dec]
  by_cases h : 1 ≤ n ∧ n ≤ 8
  · rw [wrap64_id (x := n - 1) (by omega) (by omega)]
    simp only [h, and_self, decide_true, if_true, Bool.true_and]
    repeat' split
    all_goals first | rfl | simp_all
  · simp [h]
theorem rwGood_loop (s : ByteArray) (hs : s.size ≤ 140737488351232) : ∀ (d i : Nat), i + d = (L s).length → Ev (fun k => spec_rwGood.l0 k s (i : Int)) (((L s).drop i).all sgn) := by
  have hl := size_L s
  intro d
  induction d with
  | zero =>
    intro i hi
    refine Ev.succ ?_
    simp only [spec_rwGood.l0]
    refine Ev.neg (by omega) (Ev.const ?_)
    rw [List.drop_of_length_le (by omega)]; rfl
  | succ d ih =>
    intro i hi
    have hlt : i < (L s).length := by omega
    refine Ev.succ ?_
    simp only [spec_rwGood.l0]
    rw [List.drop_eq_getElem_cons hlt, List.all_cons, wrap64_id (x := (i : Int) + 1) (by omega) (by omega)]
    refine Ev.pos (by omega) (Ev.pos (by omega) ?_)
    refine Ev.iff (fun hc => ?_) (fun hc => Ev.iff (fun hd => ?_) (fun hd => ?_))
    · rw [bt60 s i hlt] at hc
      rw [hc]; exact ih (i + 1) (by omega)
    · rw [bt62 s i hlt] at hd
      rw [hd]; exact ih (i + 1) (by omega)
    · rw [bt60 s i hlt] at hc
      rw [bt62 s i hlt] at hd
      have e : sgn (L s)[i] = false := by unfold sgn; rw [beq_eq_false_iff_ne.2 hc, beq_eq_false_iff_ne.2 hd]; rfl
      rw [e]; exact Ev.now _
theorem rwGood_ev (s : ByteArray) (hs : s.size ≤ 140737488351232) : Ev (fun k => spec_rwGood.f k s) (rgood (L s)) := by
  have hl := size_L s
  unfold spec_rwGood.f rgood
  simp only [l1In_eq, Option.bind_some]
  refine Ev.iff (fun hc => ?_) (fun hc => ?_)
  · rw [decide_eq_true_eq] at hc
    rw [decide_eq_true (by omega), Bool.true_and]
    have := rwGood_loop s hs (L s).length 0 (by omega)
    rw [List.drop_zero] at this
    exact this
  · rw [decide_eq_true_eq] at hc
    rw [decide_eq_false (by omega), Bool.false_and]
    exact Ev.now _
theorem isRow_eq (s : ByteArray) (hs : s.size ≤ 140737488351232) : impl_isRow.f s = some (rgood (L s)) := by
  have hl := size_L s
  unfold impl_isRow.f rgood strings_Trim.f
  simp only [in_eq, Option.bind_some]
  by_cases h : 1 ≤ (L s).length ∧ (L s).length ≤ 60
  · rw [if_pos (by rw [decide_eq_true_eq]; omega), if_pos ⟨by omega, by decide, by decide⟩, decide_eq_true h, Bool.true_and, Option.bind_some, toList_L, L_mk]
    congr 1
    by_cases ha : (L s).all sgn = true
    · rw [ha]
      exact beq_iff_eq.2 ((trim_sgn (L s)).2 ha)
    · rw [Bool.not_eq_true] at ha
      rw [ha, beq_eq_false_iff_ne]
      intro e
      have := (trim_sgn (L s)).1 e
      rw [ha] at this
      exact absurd this (by decide)
  · rw [if_neg (by rw [decide_eq_true_eq]; omega), decide_eq_false h, Bool.false_and]
theorem isAtRest_eq (l : List UInt8) (h : l.length ≤ 1000) : impl_isAtRest.f (up l) = some (!fac l) := by
  have hs := up_size l
  unfold impl_isAtRest.f strings_Contains.f
  rw [if_pos (by omega), Option.bind_some]
  show some (!(Lib.contains (L (up l)) [62, 60])) = _
  rw [L_mk, fac_index]
theorem tick_eq (l : List UInt8) (h : l.length ≤ 1000) : impl_tick.f (up l) = some (up (twk l)) := by
  have hs := up_size l
  unfold impl_tick.f strings_ReplaceAll.f
  have hc : Lib.countB (up l) ⟨#[62, 60]⟩ ≤ l.length + 1 := by
    have := Lib.count_le (L (up l)) [62, 60]
    rw [L_mk] at this
    exact Nat.le_trans (by rw [Lib.countB]; show Lib.count (L (up l)) [62, 60] ≤ _; rw [L_mk]; exact Nat.le_refl _) this
  have e2 : (⟨#[60, 62]⟩ : ByteArray).size = 2 := rfl
  rw [if_pos ⟨by omega, by decide, by rw [e2]; omega⟩, Option.bind_some]
  show some (up (Lib.replaceAll (L (up l)) [62, 60] [60, 62])) = _
  rw [L_mk, replaceAll_twk]
theorem rwPairs_loop (l : List UInt8) (h : l.length ≤ 1000) : ∀ (d i : Nat) (acc : List Int), i + d = l.length → acc.length ≤ i → Ev (fun k => spec_rwPairs.l0 k (up l) acc (i : Int)) (acc ++ prs i (l.drop i)) := by
  intro d
  induction d with
  | zero =>
    intro i acc hi ha
    refine Ev.succ ?_
    simp only [spec_rwPairs.l0, up_isize]
    rw [wrap64_id (x := (i : Int) + 1) (by omega) (by omega), prs_one l i (by omega), List.append_nil]
    exact Ev.neg (by omega) (Ev.now _)
  | succ d ih =>
    intro i acc hi ha
    refine Ev.succ ?_
    simp only [spec_rwPairs.l0, up_isize]
    rw [wrap64_id (x := (i : Int) + 1) (by omega) (by omega)]
    refine Ev.iff (fun h1 => ?_) (fun h1 => ?_)
    · rw [prs_two l i (by omega)]
      refine Ev.pos (by omega) (Ev.pos (by omega) ?_)
      have h2 : i + 1 < l.length := by omega
      have e1 := ih (i + 1) acc (by omega) (by omega)
      refine Ev.iff (fun c1 => ?_) (fun c1 => ?_)
      · rw [up62 l i (by omega)] at c1
        refine Ev.pos (by omega) (Ev.iff (fun c2 => ?_) (fun c2 => ?_))
        · rw [show ((i : Int) + 1) = ((i + 1 : Nat) : Int) by omega, up60 l (i + 1) h2] at c2
          refine Ev.pos (by omega) ?_
          rw [if_pos ⟨c1, c2⟩]
          have := ih (i + 1) (acc ++ [(i : Int)]) (by omega) (by simp; omega)
          rw [← List.append_assoc]; exact this
        · rw [show ((i : Int) + 1) = ((i + 1 : Nat) : Int) by omega, up60 l (i + 1) h2] at c2
          rw [if_neg (fun c => c2 c.2), List.nil_append]; exact e1
      · rw [up62 l i (by omega)] at c1
        rw [if_neg (fun c => c1 c.1), List.nil_append]; exact e1
    · rw [prs_one l i (by omega), List.append_nil]; exact Ev.now _
theorem rwPairs_ev (l : List UInt8) (h : l.length ≤ 1000) : Ev (fun k => spec_rwPairs.f k (up l)) (prs 0 l) := by
  unfold spec_rwPairs.f
  have := rwPairs_loop l h l.length 0 [] (by omega) (by simp)
  simpa using this
theorem facing_loop (l : List UInt8) (h : l.length ≤ 1000) : ∀ (d i : Nat) (acc : List Int), i + d + 1 = l.length → acc.length ≤ i → Ev (fun k => impl_facing.l0 k (up l) acc ((l.length : Int) - 1) (i : Int)) (acc ++ prs i (l.drop i)) := by
  intro d
  induction d with
  | zero =>
    intro i acc hi ha
    refine Ev.succ ?_
    simp only [impl_facing.l0, up_isize]
    rw [prs_one l i (by omega), List.append_nil]
    exact Ev.neg (by omega) (Ev.now _)
  | succ d ih =>
    intro i acc hi ha
    refine Ev.succ ?_
    simp only [impl_facing.l0, up_isize]
    rw [wrap64_id (x := (i : Int) + 1) (by omega) (by omega)]
    refine Ev.pos (by omega) ?_
    rw [prs_two l i (by omega)]
    refine Ev.pos (by omega) (Ev.pos (by omega) ?_)
    have h2 : i + 1 < l.length := by omega
    have e1 := ih (i + 1) acc (by omega) (by omega)
    refine Ev.iff (fun c1 => ?_) (fun c1 => ?_)
    · rw [up62 l i (by omega)] at c1
      refine Ev.pos (by omega) (Ev.pos (by omega) (Ev.iff (fun c2 => ?_) (fun c2 => ?_)))
      · rw [show ((i : Int) + 1) = ((i + 1 : Nat) : Int) by omega, up60 l (i + 1) h2] at c2
        refine Ev.pos (by omega) ?_
        rw [if_pos ⟨c1, c2⟩]
        have := ih (i + 1) (acc ++ [(i : Int)]) (by omega) (by simp; omega)
        rw [← List.append_assoc]; exact this
      · rw [show ((i : Int) + 1) = ((i + 1 : Nat) : Int) by omega, up60 l (i + 1) h2] at c2
        rw [if_neg (fun c => c2 c.2), List.nil_append]; exact e1
    · rw [up62 l i (by omega)] at c1
      rw [if_neg (fun c => c1 c.1), List.nil_append]; exact e1
theorem facing_ev (l : List UInt8) (h1 : 1 ≤ l.length) (h : l.length ≤ 1000) : Ev (fun k => impl_facing.f k (up l)) (prs 0 l) := by
  unfold impl_facing.f
  rw [up_isize, wrap64_id (x := (l.length : Int) - 1) (by omega) (by omega)]
  have := facing_loop l h (l.length - 1) 0 [] (by omega) (by simp)
  simpa using this
theorem rwTick_loop (ps : List Int) (hps : ps.length ≤ 1000) (n : Nat) (hn : n ≤ 1000) (hp : ∀ p ∈ ps, 0 ≤ p ∧ p + 1 < n) : ∀ (d i : Nat) (c : List UInt8), i + d = ps.length → c.length = n → Ev (fun k => spec_rwTick.l0 k (up c) ps (ps.length : Int) (i : Int)) (up ((ps.drop i).foldl trn c)) := by
  intro d
  induction d with
  | zero =>
    intro i c hi hc
    refine Ev.succ ?_
    simp only [spec_rwTick.l0]
    rw [List.drop_of_length_le (by omega)]
    exact Ev.neg (by omega) (Ev.now _)
  | succ d ih =>
    intro i c hi hc
    have hlt : i < ps.length := by omega
    have hm := hp (rd ps (i : Int)) (rd_mem hlt)
    obtain ⟨q, hq⟩ : ∃ q : Nat, rd ps (i : Int) = q := ⟨(rd ps (i : Int)).toNat, by omega⟩
    refine Ev.succ ?_
    simp only [spec_rwTick.l0, hq]
    rw [rd_cons_drop hlt, List.foldl_cons, wrap64_id (x := (i : Int) + 1) (by omega) (by omega), wrap64_id (x := (q : Int) + 2) (by omega) (by omega), Int.toNat_natCast, show ((q : Int) + 2).toNat = q + 2 by omega, up_take, up_drop]
    have e1 : up (c.take q) ++ (⟨#[60, 62]⟩ : ByteArray) = up (c.take q ++ [60, 62]) := up_app _ [60, 62]
    simp only [e1, up_app, up_isize]
    have e2 : (up (List.take q c)).size ≤ 1000 := by rw [up_size]; simp; omega
    have e3 : (up (List.take q c ++ [60, 62])).size ≤ 1002 := by rw [up_size]; simp; omega
    have e4 : (up (List.drop (q + 2) c)).size ≤ 1000 := by rw [up_size]; simp; omega
    refine Ev.pos (by omega) (Ev.pos (by omega) (Ev.pos (by omega) (Ev.pos (by omega) (Ev.pos (by omega) (Ev.pos (by omega) (Ev.pos (by omega) (Ev.pos (by omega) (Ev.pos (by omega) ?_))))))))
    have e5 : List.take q c ++ [60, 62] ++ List.drop (q + 2) c = trn c (rd ps (i : Int)) := by rw [hq]; rfl
    rw [e5]
    exact ih (i + 1) _ (by omega) (by rw [trn_len _ _ (by omega) (by omega)]; exact hc)
theorem rwTick_ev (l : List UInt8) (h : l.length ≤ 1000) : Ev (fun k => spec_rwTick.f k (up l)) (up (twk l)) := by
  unfold spec_rwTick.f
  refine Ev.bind (rwPairs_ev l h) ?_
  have hl := prs_len l 0
  have := rwTick_loop (prs 0 l) (by omega) l.length h (fun p hp => by have := prs_ge l 0 p hp; omega) (prs 0 l).length 0 l (by omega) rfl
  rw [List.drop_zero, fold_tick] at this
  exact this
theorem wt_1000 (l : List UInt8) (h : l.length ≤ 1000) : wt l ≤ 1000000 := Nat.le_trans (wt_sq l) (Nat.mul_le_mul h h)
theorem fac_prs (l : List UInt8) : (((prs 0 l).length : Int) > 0) ↔ fac l = true := by
  have := prs_nil l 0
  constructor
  · intro h
    rw [← Bool.not_eq_false, ← this]
    intro e; rw [e] at h; simp at h
  · intro h
    have : prs 0 l ≠ [] := by rw [Ne, this]; simp [h]
    have := List.length_pos_iff.2 this
    omega
theorem rwRest_loop : ∀ (f : Nat) (l : List UInt8) (n : Int), l.length ≤ 1000 → wt l ≤ f → 0 ≤ n → n + f ≤ 1000000000 → Ev (fun k => spec_rwRest.l0 k (up l) n) (up (rst f l).1, n + ((rst f l).2 : Int)) := by
  intro f
  induction f with
  | zero =>
    intro l n hl hw h0 h1
    have hf : fac l = false := by
      rw [← Bool.not_eq_true]; intro hf; have := (wt_le l).2 hf; omega
    refine Ev.succ ?_
    simp only [spec_rwRest.l0]
    refine Ev.bind (rwPairs_ev l hl) (Ev.neg (by rw [fac_prs, hf]; decide) ?_)
    simp only [rst]
    refine Ev.const ?_
    simp
  | succ f ih =>
    intro l n hl hw h0 h1
    refine Ev.succ ?_
    simp only [spec_rwRest.l0]
    refine Ev.bind (rwPairs_ev l hl) ?_
    rw [rst]
    by_cases hf : fac l = true
    · rw [if_pos hf]
      refine Ev.pos ((fac_prs l).2 hf) (Ev.bind (rwTick_ev l hl) ?_)
      have := (wt_le l).2 hf
      rw [wrap64_id (x := n + 1) (by omega) (by omega)]
      have := ih (twk l) (n + 1) (by rw [twk_len]; exact hl) (by omega) (by omega) (by omega)
      have e : (n + 1) + ((rst f (twk l)).2 : Int) = n + (((rst f (twk l)).2 + 1 : Nat) : Int) := by omega
      rw [e] at this
      exact this
    · rw [if_neg hf]
      refine Ev.neg (by rw [fac_prs]; exact hf) (Ev.const ?_)
      simp
theorem rwRest_ev (l : List UInt8) (hl : l.length ≤ 1000) : Ev (fun k => spec_rwRest.f k (up l)) (up (rst 1000000 l).1, ((rst 1000000 l).2 : Int)) := by
  have := rwRest_loop 1000000 l 0 hl (wt_1000 l hl) (by omega) (by omega)
  unfold spec_rwRest.f
  simpa using this
theorem ticks_loop : ∀ (f : Nat) (l : List UInt8) (n : Int), l.length ≤ 1000 → wt l ≤ f → 0 ≤ n → n + f ≤ 1000000000 → Ev (fun k => impl_ticksToRest.l0 k (up l) n) (n + ((rst f l).2 : Int)) := by
  intro f
  induction f with
  | zero =>
    intro l n hl hw h0 h1
    have hf : fac l = false := by
      rw [← Bool.not_eq_true]; intro hf; have := (wt_le l).2 hf; omega
    refine Ev.succ ?_
    simp only [impl_ticksToRest.l0, isAtRest_eq l hl, Option.bind_some, hf, rst]
    exact Ev.const (by simp)
  | succ f ih =>
    intro l n hl hw h0 h1
    refine Ev.succ ?_
    simp only [impl_ticksToRest.l0, isAtRest_eq l hl, tick_eq l hl, Option.bind_some]
    rw [rst]
    by_cases hf : fac l = true
    · rw [if_pos hf]
      refine Ev.neg (by simp [hf]) ?_
      have := (wt_le l).2 hf
      rw [wrap64_id (x := n + 1) (by omega) (by omega)]
      have := ih (twk l) (n + 1) (by rw [twk_len]; exact hl) (by omega) (by omega) (by omega)
      have e : (n + 1) + ((rst f (twk l)).2 : Int) = n + (((rst f (twk l)).2 + 1 : Nat) : Int) := by omega
      rw [e] at this
      exact this
    · rw [if_neg hf]
      exact Ev.pos (by simp [hf]) (Ev.const (by simp))
theorem ticks_ev (l : List UInt8) (hl : l.length ≤ 1000) : Ev (fun k => impl_ticksToRest.f k (up l)) ((rst 1000000 l).2 : Int) := by
  have := ticks_loop 1000000 l 0 hl (wt_1000 l hl) (by omega) (by omega)
  unfold impl_ticksToRest.f
  simpa using this
theorem after_loop : ∀ (t : Nat) (l : List UInt8), l.length ≤ 1000 → t ≤ 1000000000 → Ev (fun k => impl_RowAfter.l0 k (up l) (t : Int)) (up (twn t l), true) := by
  intro t
  induction t with
  | zero =>
    intro l hl ht
    refine Ev.succ ?_
    simp only [impl_RowAfter.l0]
    exact Ev.neg (by omega) (Ev.now _)
  | succ t ih =>
    intro l hl ht
    refine Ev.succ ?_
    simp only [impl_RowAfter.l0, isAtRest_eq l hl, tick_eq l hl, Option.bind_some]
    refine Ev.pos (by omega) ?_
    by_cases hf : fac l = true
    · refine Ev.neg (by simp [hf]) ?_
      rw [show ((t + 1 : Nat) : Int) - 1 = (t : Int) by omega, wrap64_id (x := (t : Int)) (by omega) (by omega), twn]
      exact ih (twk l) (by rw [twk_len]; exact hl) (by omega)
    · rw [Bool.not_eq_true] at hf
      rw [twn_rest _ _ hf]
      exact Ev.pos (by simp [hf]) (Ev.now _)
theorem after_ev (l : List UInt8) (t : Int) (hg : rgood l = true) (h0 : 0 ≤ t) (h1 : t ≤ 1000000) : Ev (fun k => impl_RowAfter.f k (up l) t) (up (twn t.toNat l), true) := by
  have hlen : 1 ≤ l.length ∧ l.length ≤ 60 := by
    unfold rgood at hg
    rw [Bool.and_eq_true, decide_eq_true_eq] at hg
    exact hg.1
  unfold impl_RowAfter.f
  rw [isRow_eq (up l) (by rw [up_size]; omega), L_mk, hg]
  simp only [Option.bind_some, if_true, in_eq]
  refine Ev.succ ?_
  simp only [impl_RowAfter.j0]
  refine Ev.neg (by simp; omega) ?_
  have := after_loop t.toNat l (by omega) (by omega)
  rw [Int.toNat_of_nonneg h0] at this
  exact this
theorem clo_loop (ps : List Int) (hps : ps.length ≤ 1000000) : ∀ (d i : Nat) (o : List Int), i + d = ps.length → (∀ p ∈ ps, 0 ≤ p ∧ p + 1 < (o.length : Int)) → Ev (fun k => impl_TurnsOfEach_clo.l0 k ps (i : Int) o) ((ps.drop i).foldl bump o) := by
  intro d
  induction d with
  | zero =>
    intro i o hi hp
    refine Ev.succ ?_
    simp only [impl_TurnsOfEach_clo.l0]
    rw [List.drop_of_length_le (by omega)]
    exact Ev.neg (by omega) (Ev.now _)
  | succ d ih =>
    intro i o hi hp
    have hlt : i < ps.length := by omega
    have hm := hp (rd ps (i : Int)) (rd_mem hlt)
    refine Ev.succ ?_
    simp only [impl_TurnsOfEach_clo.l0]
    rw [rd_cons_drop hlt, List.foldl_cons, wrap64_id (x := (i : Int) + 1) (by omega) (by omega)]
    refine Ev.pos (by omega) (Ev.pos (by omega) (Ev.pos (by omega) (Ev.pos (by omega) ?_)))
    exact ih (i + 1) (bump o (rd ps (i : Int))) (by omega) (fun p hp' => by rw [bump_len]; exact hp p hp')
theorem clo_ev (l : List UInt8) (o : List Int) (h1 : 1 ≤ l.length) (hl : l.length ≤ 1000) (ho : o.length = l.length) : Ev (fun k => impl_TurnsOfEach_clo.f k (up l) o) ((prs 0 l).foldl bump o) := by
  unfold impl_TurnsOfEach_clo.f
  refine Ev.bind (facing_ev l h1 hl) ?_
  have hle := prs_len l 0
  have := clo_loop (prs 0 l) (by omega) (prs 0 l).length 0 o (by omega) (fun p hp => by have := prs_ge l 0 p hp; omega)
  rw [List.drop_zero] at this
  exact this
theorem turns_loop : ∀ (f : Nat) (l : List UInt8) (o : List Int) (B : Int), 1 ≤ l.length → l.length ≤ 1000 → wt l ≤ f → o.length = l.length → 0 ≤ B → B + f ≤ 800000000 → (∀ q, 0 ≤ rd o q ∧ rd o q ≤ B) →
    ∃ o2 : List Int, Ev (fun k => impl_TurnsOfEach.l0 k (up l) o) o2 ∧ o2.length = l.length ∧ ∀ a, 0 ≤ a → rd o2 a = rd o a + trc f a l := by
  intro f
  induction f with
  | zero =>
    intro l o B h1 hl hw ho h0 hB hq
    have hf : fac l = false := by
      rw [← Bool.not_eq_true]; intro hf; have := (wt_le l).2 hf; omega
    refine ⟨o, Ev.succ ?_, ho, fun a _ => by simp [trc]⟩
    simp only [impl_TurnsOfEach.l0, isAtRest_eq l hl, Option.bind_some, hf]
    exact Ev.now _
  | succ f ih =>
    intro l o B h1 hl hw ho h0 hB hq
    by_cases hf : fac l = true
    · have hlt := (wt_le l).2 hf
      have hfold := rd_fold (prs 0 l) o B (prs_sparse l 0) (fun p hp => by have := prs_ge l 0 p hp; omega) h0 (by omega) (fun p _ => ⟨hq p, hq (p + 1)⟩) (fun q => by have := hq q; omega)
      have hneg : ∀ (o : List Int) (q : Int), q < 0 → rd o q = rd o 0 := fun o q h => by simp [rd, Int.toNat_of_nonpos (Int.le_of_lt h)]
      obtain ⟨o2, e1, e2, e3⟩ := ih (twk l) ((prs 0 l).foldl bump o) (B + 1) (by rw [twk_len]; exact h1) (by rw [twk_len]; exact hl) (by omega) (by rw [fold_bump_len, twk_len]; exact ho) (by omega) (by omega) (fun q => by
        by_cases h : 0 ≤ q
        · rw [hfold q h]; have := hq q; split <;> omega
        · rw [hneg _ q (by omega), hfold 0 (by omega)]; have := hq 0; split <;> omega)
      refine ⟨o2, Ev.succ ?_, by rw [e2, twk_len], fun a ha => ?_⟩
      · simp only [impl_TurnsOfEach.l0, isAtRest_eq l hl, tick_eq l hl, Option.bind_some]
        refine Ev.neg (by simp [hf]) (Ev.bind (clo_ev l o h1 hl ho) ?_)
        exact e1
      · rw [e3 a ha, hfold a ha, trc, if_pos hf]; omega
    · rw [Bool.not_eq_true] at hf
      refine ⟨o, Ev.succ ?_, ho, fun a _ => by simp [trc, hf]⟩
      simp only [impl_TurnsOfEach.l0, isAtRest_eq l hl, Option.bind_some, hf]
      exact Ev.now _
theorem turns_ev (l : List UInt8) (hg : rgood l = true) : ∃ o : List Int, Ev (fun k => impl_TurnsOfEach.f k (up l)) (o, true) ∧ o.length = l.length ∧ ∀ a, 0 ≤ a → rd o a = trc 1000000 a l := by
  have hlen : 1 ≤ l.length ∧ l.length ≤ 60 := by
    unfold rgood at hg
    rw [Bool.and_eq_true, decide_eq_true_eq] at hg
    exact hg.1
  have hz : ∀ q : Int, rd (List.replicate l.length (0 : Int)) q = 0 := fun q => by simp [rd, List.getElem?_replicate]; split <;> rfl
  obtain ⟨o, e1, e2, e3⟩ := turns_loop 1000000 l (List.replicate l.length 0) 0 hlen.1 (by omega) (Nat.le_trans (wt_sq l) (Nat.mul_le_mul (show l.length ≤ 1000 by omega) (show l.length ≤ 1000 by omega))) (by simp) (by omega) (by omega) (fun q => by rw [hz q]; omega)
  refine ⟨o, ?_, e2, fun a ha => by rw [e3 a ha, hz]; omega⟩
  unfold impl_TurnsOfEach.f
  rw [isRow_eq (up l) (by rw [up_size]; omega), L_mk, hg]
  simp only [Option.bind_some, if_true]
  refine Ev.pos (by rw [up_size]; omega) ?_
  rw [up_size]
  exact Ev.bind e1 (Ev.now _)
theorem l1Has_loop (a : Int) (ps : List Int) (hps : ps.length ≤ 1000000) : ∀ (d i : Nat), i + d = ps.length → Ev (fun k => spec_l1Has.l0 k a ps (ps.length : Int) (i : Int)) (decide (a ∈ ps.drop i)) := by
  intro d
  induction d with
  | zero =>
    intro i hi
    refine Ev.succ ?_
    simp only [spec_l1Has.l0]
    rw [List.drop_of_length_le (by omega)]
    exact Ev.neg (by omega) (Ev.const (by simp))
  | succ d ih =>
    intro i hi
    have hlt : i < ps.length := by omega
    refine Ev.succ ?_
    simp only [spec_l1Has.l0]
    rw [rd_cons_drop hlt, wrap64_id (x := (i : Int) + 1) (by omega) (by omega)]
    refine Ev.pos (by omega) (Ev.pos (by omega) (Ev.pos (by omega) (Ev.iff (fun hc => ?_) (fun hc => ?_))))
    · exact Ev.const (by simp [hc])
    · have := ih (i + 1) (by omega)
      have e : decide (a ∈ rd ps (i : Int) :: ps.drop (i + 1)) = decide (a ∈ ps.drop (i + 1)) := by
        apply decide_eq_decide.2
        rw [List.mem_cons]
        exact ⟨fun h => h.resolve_left (fun e => hc e.symm), .inr⟩
      rw [e]; exact this
theorem l1Has_ev (a : Int) (ps : List Int) (hps : ps.length ≤ 1000000) : Ev (fun k => spec_l1Has.f k ps a) (decide (a ∈ ps)) := by
  have := l1Has_loop a ps hps ps.length 0 (by omega)
  rw [List.drop_zero] at this
  exact this
theorem bt_get (l : List UInt8) (a : Int) (h0 : 0 ≤ a) (h1 : a < (l.length : Int)) : (bt (up l) a = 62) ↔ l[a.toNat]? = some 62 := by
  obtain ⟨i, rfl⟩ : ∃ i : Nat, a = i := ⟨a.toNat, by omega⟩
  rw [up62 l i (by omega), Int.toNat_natCast, List.getElem?_eq_getElem (by omega), Option.some.injEq]
theorem look_loop (a : Int) : ∀ (t : Nat) (l : List UInt8), l.length ≤ 1000 → t ≤ 1000000000 → 0 ≤ a → a < (l.length : Int) → Ev (fun k => spec_pzValue.l0 k a (t : Int) (up l) 0) (if (twn t l)[a.toNat]? = some 62 then 1 else 0) := by
  intro t
  induction t with
  | zero =>
    intro l hl ht h0 h1
    refine Ev.succ ?_
    simp only [spec_pzValue.l0, up_isize]
    refine Ev.neg (by omega) (Ev.pos h0 (Ev.pos h1 ?_))
    rw [twn]
    refine Ev.iff (fun hc => ?_) (fun hc => ?_)
    · rw [bt_get l a h0 h1] at hc; rw [if_pos hc]; exact Ev.now _
    · rw [bt_get l a h0 h1] at hc; rw [if_neg hc]; exact Ev.now _
  | succ t ih =>
    intro l hl ht h0 h1
    refine Ev.succ ?_
    simp only [spec_pzValue.l0]
    refine Ev.pos (by omega) (Ev.bind (rwTick_ev l hl) ?_)
    rw [show ((t + 1 : Nat) : Int) - 1 = (t : Int) by omega, wrap64_id (x := (t : Int)) (by omega) (by omega), twn]
    exact ih (twk l) (by rw [twk_len]; exact hl) (by omega) h0 (by rw [twk_len]; exact h1)
theorem count_loop (l : List UInt8) (hl : l.length ≤ 1000) : ∀ (d i : Nat) (n : Int), i + d = l.length → 0 ≤ n → n ≤ i → Ev (fun k => spec_pzValue.l1 k (up l) n (i : Int)) (n + ((l.drop i).count 62 : Int)) := by
  intro d
  induction d with
  | zero =>
    intro i n hi h0 h1
    refine Ev.succ ?_
    simp only [spec_pzValue.l1, up_isize]
    rw [List.drop_of_length_le (by omega)]
    exact Ev.neg (by omega) (Ev.const (by simp))
  | succ d ih =>
    intro i n hi h0 h1
    have hlt : i < l.length := by omega
    refine Ev.succ ?_
    simp only [spec_pzValue.l1, up_isize]
    rw [List.drop_eq_getElem_cons hlt, List.count_cons, wrap64_id (x := (i : Int) + 1) (by omega) (by omega), wrap64_id (x := n + 1) (by omega) (by omega)]
    refine Ev.pos (by omega) (Ev.pos (by omega) (Ev.iff (fun hc => ?_) (fun hc => ?_)))
    · rw [up62 l i hlt] at hc
      have := ih (i + 1) (n + 1) (by omega) (by omega) (by omega)
      rw [if_pos (by simp [hc])]
      have e : (n + 1) + ((l.drop (i + 1)).count 62 : Int) = n + (((l.drop (i + 1)).count 62 + 1 : Nat) : Int) := by omega
      rw [e] at this; exact this
    · rw [up62 l i hlt] at hc
      have := ih (i + 1) n (by omega) (by omega) (by omega)
      rw [if_neg (by simpa using hc)]
      exact this
theorem trc_loop (a : Int) (ha : 0 ≤ a) (ha1 : a ≤ 1000000) : ∀ (f : Nat) (l : List UInt8) (n : Int), l.length ≤ 1000 → wt l ≤ f → 0 ≤ n → n + f ≤ 1000000000 → Ev (fun k => spec_pzValue.l2 k a (up l) n (prs 0 l)) (n + trc f a l) := by
  intro f
  induction f with
  | zero =>
    intro l n hl hw h0 h1
    have hf : fac l = false := by
      rw [← Bool.not_eq_true]; intro hf; have := (wt_le l).2 hf; omega
    refine Ev.succ ?_
    simp only [spec_pzValue.l2, trc]
    exact Ev.neg (by rw [fac_prs, hf]; decide) (Ev.const (by simp))
  | succ f ih =>
    intro l n hl hw h0 h1
    refine Ev.succ ?_
    simp only [spec_pzValue.l2]
    rw [trc]
    by_cases hf : fac l = true
    · rw [if_pos hf]
      refine Ev.pos ((fac_prs l).2 hf) ?_
      have hlt := (wt_le l).2 hf
      have hps : (prs 0 l).length ≤ 1000000 := by have := prs_len l 0; omega
      have hl' : (twk l).length ≤ 1000 := by rw [twk_len]; exact hl
      have yes : Ev (fun k => spec_pzValue.j3 k a (up l) n true) (n + (1 + trc f a (twk l))) := by
        refine Ev.succ ?_
        simp only [spec_pzValue.j3, if_true]
        refine Ev.bind (rwTick_ev l hl) (Ev.bind (rwPairs_ev _ hl') ?_)
        rw [wrap64_id (x := n + 1) (by omega) (by omega)]
        have := ih (twk l) (n + 1) hl' (by omega) (by omega) (by omega)
        rw [show n + (1 + trc f a (twk l)) = n + 1 + trc f a (twk l) by omega]
        exact this
      have no : Ev (fun k => spec_pzValue.j3 k a (up l) n false) (n + (0 + trc f a (twk l))) := by
        refine Ev.succ ?_
        simp only [spec_pzValue.j3]
        refine Ev.neg (by decide) (Ev.bind (rwTick_ev l hl) (Ev.bind (rwPairs_ev _ hl') ?_))
        have := ih (twk l) n hl' (by omega) (by omega) (by omega)
        rw [Int.zero_add]
        exact this
      refine Ev.bind (l1Has_ev a _ hps) ?_
      by_cases c1 : a ∈ prs 0 l
      · rw [if_pos (.inl c1)]
        exact Ev.pos (by simp [c1]) yes
      · refine Ev.neg (by simp [c1]) ?_
        rw [wrap64_id (x := a - 1) (by omega) (by omega)]
        refine Ev.bind (l1Has_ev (a - 1) _ hps) ?_
        by_cases c2 : a - 1 ∈ prs 0 l
        · rw [if_pos (.inr c2), decide_eq_true c2]; exact yes
        · rw [if_neg (by rintro (h | h); exact c1 h; exact c2 h), decide_eq_false c2]; exact no
    · rw [if_neg hf]
      exact Ev.neg (by rw [fac_prs]; exact hf) (Ev.const (by simp))
theorem pzValue_ev (l : List UInt8) (k a b : Int) (hl : l.length ≤ 1000) (h : kok (l.length : Int) k a b) : Ev (fun r => spec_pzValue.f r k a b (up l)) (val k a b l) := by
  unfold spec_pzValue.f val
  by_cases h0 : k = 0
  · simp only [if_pos h0]
    obtain ⟨_, h1, h2⟩ : k = 0 ∧ (0 ≤ a ∧ a ≤ (l.length : Int) - 1) ∧ 0 ≤ b ∧ b ≤ 20 := by unfold kok at h; omega
    have := look_loop a b.toNat l hl (by omega) h1.1 (by omega)
    rw [Int.toNat_of_nonneg h2.1] at this
    exact this
  simp only [if_neg h0]
  by_cases h1 : k = 1
  · simp only [if_pos h1]
    have := count_loop l hl l.length 0 0 (by omega) (by omega) (by omega)
    simpa using this
  simp only [if_neg h1]
  by_cases h2 : k = 2
  · simp only [if_pos h2]
    exact Ev.bind (rwRest_ev l hl) (Ev.now _)
  simp only [if_neg h2]
  by_cases h3 : k = 3
  · simp only [if_pos h3]
    exact Ev.bind (rwPairs_ev l hl) (Ev.now _)
  simp only [if_neg h3]
  have h4 : k = 4 ∧ 0 ≤ a ∧ a ≤ (l.length : Int) - 1 := by unfold kok at h; omega
  refine Ev.bind (rwPairs_ev l hl) ?_
  have := trc_loop a h4.2.1 (by omega) 1000000 l 0 hl (wt_1000 l hl) (by omega) (by omega)
  rw [Int.zero_add] at this
  exact this
theorem pzFits_ev (l : List UInt8) (k a b c : Int) (hl : l.length ≤ 1000) (h : kok (l.length : Int) k a b) : Ev (fun r => spec_pzFits.f r k a b c (up l)) (val k a b l == c) := by
  unfold spec_pzFits.f
  exact Ev.bind (pzValue_ev l k a b hl h) (Ev.now _)
theorem told_ev (l : List UInt8) (k a b c : Int) (hg : rgood l = true) (h : kok (l.length : Int) k a b) : Ev (fun r => impl_Clue_told.f r k a b c (up l)) (k, a, b, val k a b l) := by
  have hlen : 1 ≤ l.length ∧ l.length ≤ 60 := by
    unfold rgood at hg
    rw [Bool.and_eq_true, decide_eq_true_eq] at hg
    exact hg.1
  unfold impl_Clue_told.f val
  by_cases h0 : k = 0
  · simp only [if_pos h0]
    obtain ⟨_, h1, h2⟩ : k = 0 ∧ (0 ≤ a ∧ a ≤ (l.length : Int) - 1) ∧ 0 ≤ b ∧ b ≤ 20 := by unfold kok at h; omega
    refine Ev.bind (after_ev l b hg h2.1 (by omega)) ?_
    have e := up_isize (twn b.toNat l)
    rw [twn_len] at e
    have e2 : (bt (up (twn b.toNat l)) a = 62) ↔ (twn b.toNat l)[a.toNat]? = some 62 := by
      obtain ⟨i, hi⟩ : ∃ i : Nat, a = i := ⟨a.toNat, by omega⟩
      subst hi
      rw [up62 _ i (by rw [twn_len]; omega), Int.toNat_natCast, List.getElem?_eq_getElem (by rw [twn_len]; omega), Option.some.injEq]
    refine Ev.pos h1.1 (Ev.pos (by show a < _; rw [e]; omega) ?_)
    refine Ev.iff (fun hc => ?_) (fun hc => ?_)
    · rw [if_pos (e2.1 hc)]; exact Ev.now _
    · rw [if_neg (fun q => hc (e2.2 q))]; exact Ev.now _
  simp only [if_neg h0]
  by_cases h1 : k = 1
  · simp only [if_pos h1]
    refine Ev.bind (Ev.const (show strings_Count.f (up l) (⟨#[62]⟩ : ByteArray) = some (l.count 62 : Int) from ?_)) (Ev.now _)
    show some ((Lib.countByte (L (up l)) 62 : Nat) : Int) = _
    rw [L_mk]; rfl
  simp only [if_neg h1]
  by_cases h2 : k = 2
  · simp only [if_pos h2]
    exact Ev.bind (ticks_ev l (by omega)) (Ev.now _)
  simp only [if_neg h2]
  by_cases h3 : k = 3
  · simp only [if_pos h3]
    exact Ev.bind (facing_ev l hlen.1 (by omega)) (Ev.now _)
  simp only [if_neg h3]
  have h4 : k = 4 ∧ 0 ≤ a ∧ a ≤ (l.length : Int) - 1 := by unfold kok at h; omega
  obtain ⟨o, e1, e2, e3⟩ := turns_ev l hg
  refine Ev.pos h4.1 (Ev.bind e1 ?_)
  refine Ev.pos h4.2.1 (Ev.pos (by show a < _; rw [e2]; omega) (Ev.const ?_))
  show some (k, a, b, rd o a) = _
  rw [e3 a h4.2.1]
theorem fits_ev (l : List UInt8) (k a b c : Int) (hg : rgood l = true) (h : kok (l.length : Int) k a b) : Ev (fun r => impl_Clue_fits.f r k a b c (up l)) (val k a b l == c) := by
  unfold impl_Clue_fits.f
  refine Ev.bind (told_ev l k a b c hg h) (Ev.const ?_)
  simp
theorem spDoesFit_ev (l : List UInt8) (k a b c : Int) (hl : l.length ≤ 100000000) : Ev (fun r => spec_DoesFit.f r k a b c (up l)) (if (rgood l && decide (l.length ≤ 8)) = true ∧ cok (l.length : Int) k a b c = true then (val k a b l == c, true) else (false, false)) := by
  have hs := up_size l
  unfold spec_DoesFit.f spec_pzHidden.f
  have hh : Ev (fun k => (spec_rwGood.f k (up l)).bind fun t102 => if t102 = true then some (decide (((up l).size : Int) ≤ 8)) else some false) (rgood l && decide (l.length ≤ 8)) := by
    have := rwGood_ev (up l) (by omega)
    rw [L_mk] at this
    refine Ev.bind this ?_
    have e : decide (((up l).size : Int) ≤ 8) = decide (l.length ≤ 8) := decide_eq_decide.2 (by omega)
    rw [e]
    cases rgood l <;> exact Ev.const rfl
  refine Ev.bind hh ?_
  rw [up_isize]
  by_cases hg : (rgood l && decide (l.length ≤ 8)) = true
  · have hlen : 1 ≤ l.length ∧ l.length ≤ 8 := by
      unfold rgood at hg
      simp only [Bool.and_eq_true, decide_eq_true_eq] at hg
      omega
    rw [hg, pzClue_eq (n := (l.length : Int)) (by omega)]
    simp only [Option.bind_some]
    refine Ev.pos trivial (Ev.iff (fun hc => ?_) (fun hc => ?_))
    · rw [if_pos ⟨trivial, hc⟩]
      exact Ev.bind (pzFits_ev l k a b c (by omega) (kok_of hc)) (Ev.now _)
    · rw [if_neg (fun h => hc h.2)]; exact Ev.now _
  · rw [if_neg (fun h => hg h.1)]
    exact Ev.neg hg (Ev.now _)
theorem imDoesFit_ev (l : List UInt8) (k a b c : Int) (hl : l.length ≤ 100000000) : Ev (fun r => impl_DoesFit.f r k a b c (up l)) (if (rgood l && decide (l.length ≤ 8)) = true ∧ cok (l.length : Int) k a b c = true then (val k a b l == c, true) else (false, false)) := by
  have hs := up_size l
  unfold impl_DoesFit.f
  rw [isRow_eq (up l) (by omega), L_mk, up_isize, isClue_eq]
  simp only [Option.bind_some]
  by_cases hg : rgood l = true
  · have hlen : 1 ≤ l.length := by
      unfold rgood at hg
      simp only [Bool.and_eq_true, decide_eq_true_eq] at hg
      omega
    rw [hg, Bool.true_and]
    refine Ev.pos rfl (Ev.iff (fun hc => ?_) (fun hc => ?_))
    · rw [Bool.and_eq_true, decide_eq_true_eq] at hc
      rw [if_pos ⟨by rw [decide_eq_true_eq]; omega, hc.2⟩]
      exact Ev.bind (fits_ev l k a b c hg (kok_of hc.2)) (Ev.now _)
    · rw [if_neg]
      · exact Ev.now _
      · rintro ⟨h1, h2⟩
        rw [decide_eq_true_eq] at h1
        exact hc (by rw [h2, Bool.and_true, decide_eq_true_eq]; omega)
  · rw [if_neg (fun h => hg (by have := h.1; rw [Bool.and_eq_true] at this; exact this.1))]
    exact Ev.neg hg (Ev.now _)
theorem FnExactDoesFit : StatFnExactDoesFit := by
  intro k a b c s _ _ _ _ hs
  refine Ev.get ?_
  unfold laws_FnExactDoesFit.f
  refine Ev.iff (fun _ => Ev.now _) (fun hn => ?_)
  unfold laws_toClue.f
  simp only [Option.bind_some]
  rw [up_L s] at hn ⊢
  rw [up_isize] at hn
  refine Ev.bind (spDoesFit_ev (L s) k a b c (by omega)) (Ev.bind (imDoesFit_ev (L s) k a b c (by omega)) ?_)
  exact Ev.neg (by simp) (Ev.neg (by simp) (Ev.now _))

end Go.Proofs.YtmindeeacfdonaaDoor.Pure
