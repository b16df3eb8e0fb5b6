/- The law FnRowsBefore, pure: what the printed functions answer, and that it is what the law asks. No condition. -/
import Derived.Test.YtgfoookdmcffpaaDoorStatFnRowsBefore
import Derived.Test.YtgfoookdmcffpaaDoorPlBase
import Derived.Test.YtgfoookdmcffpaaDoorPlList
import Derived.Test.YtgfoookdmcffpaaDoorPlClue
import Derived.Test.YtgfoookdmcffpaaDoorPlBytes
import Derived.Test.YtgfoookdmcffpaaDoorPlTick
import Derived.Test.YtgfoookdmcffpaaDoorPlRow
import Derived.Test.YtgfoookdmcffpaaDoorPlVal
import Derived.Test.YtgfoookdmcffpaaDoorPlMk
import Derived.Test.YtgfoookdmcffpaaDoorPlRest
import Derived.Test.YtgfoookdmcffpaaDoorPlNums
namespace Go.Proofs.YtgfoookdmcffpaaDoor.Pure
open Go.RowKit Go.Proofs.YtgfoookdmcffpaaDoor.PFnRowsBefore Go.Proofs.YtgfoookdmcffpaaDoorW.PrintWords Go.Proofs.YtgfoookdmcffpaaDoorW.PrintMore Go.Proofs.YtgfoookdmcffpaaDoor.Opn Go.Proofs.YtgfoookdmcffpaaDoor.Pl
set_option linter.unusedVariables false
set_option linter.unusedSimpArgs false
theorem in_eq (a b c : Int) : impl_in.f a b c = some (decide (b ≤ a ∧ a ≤ c)) := by
  unfold impl_in.f; by_cases h : b ≤ a <;> simp [h]
theorem l1In_eq (a b c : Int) : spec_l1In.f a b c = some (decide (b ≤ a ∧ a ≤ c)) := by
  unfold spec_l1In.f; by_cases h : b ≤ a <;> simp [h]
theorem sMax_loop (l : List Int) (hl : l.length ≤ 1000000000) : ∀ (d i : Nat) (m : Int), i + d = l.length → Ev (fun k => slices_Max_int_int.l0 k l m (i : Int)) ((l.drop i).foldl mx m) := by
  intro d
  induction d with
  | zero =>
    intro i m h
    refine Ev.succ ?_
    simp only [slices_Max_int_int.l0]
    refine Ev.neg (by omega) (Ev.const ?_)
    rw [List.drop_of_length_le (by omega)]; rfl
  | succ d ih =>
    intro i m h
    refine Ev.succ ?_
    simp only [slices_Max_int_int.l0]
    refine Ev.pos (by omega) (Ev.pos (by omega) ?_)
    rw [wrap64_id (x := (i : Int) + 1) (by omega) (by omega), rd_cons_drop (by omega)]
    exact ih (i + 1) _ (by omega)
theorem sMax_ev (x : Int) (l : List Int) (hl : l.length ≤ 100000000) : Ev (fun k => slices_Max_int_int.f k (x :: l)) (l.foldl mx x) := by
  unfold slices_Max_int_int.f
  refine Ev.neg (by simp; omega) (Ev.pos (by simp) ?_)
  have := sMax_loop (x :: l) (by simp; omega) l.length 1 x (by simp; omega)
  simpa [rd] using this
theorem low8 (y : Int) : 0 ≤ wrap64 (Go.bits .and .u64 ((IntKind.u64.wrap y) / 1099511627776) 255) ∧ wrap64 (Go.bits .and .u64 ((IntKind.u64.wrap y) / 1099511627776) 255) ≤ 255 := by
  have hw : IntKind.u64.wrap y = y % 18446744073709551616 := by simp [IntKind.wrap, IntKind.bits, IntKind.signed]
  rw [hw]
  have hx0 : 0 ≤ y % 18446744073709551616 / 1099511627776 := by omega
  have hx1 : y % 18446744073709551616 / 1099511627776 < 2 ^ 24 := by omega
  have hm := bits_mask .u64 24 (by decide) (fun n h0 h1 => by simp [IntKind.wrap, IntKind.bits, IntKind.signed]; omega) 8 (by decide) _ hx0 hx1
  have e : (2 : Int) ^ 8 - 1 = 255 := by decide
  simp only [e] at hm
  rw [hm, wrap64_id (by omega) (by omega)]
  omega
theorem next_ok (code : List Int) (hc : ∀ x ∈ code, 0 ≤ x ∧ x ≤ 255) (p s : Int) (h0 : 0 ≤ p) (h1 : p ≤ 1000000) : ∃ v s', spec_l1Cur_next.f code p s = some (v, p + 1, s') ∧ 0 ≤ v ∧ v ≤ 255 := by
  unfold spec_l1Cur_next.f
  rw [wrap64_id (x := p + 1) (by omega) (by omega)]
  by_cases c1 : p < (code.length : Int)
  · have hm := hc _ (rd_mem (l := code) (j := p.toNat) (by omega))
    rw [show ((p.toNat : Nat) : Int) = p by omega] at hm
    rw [if_pos c1, if_pos h0, wrap64_id (x := rd code p) (by omega) (by omega)]
    by_cases c2 : p + 1 ≤ (code.length : Int)
    · rw [if_pos c2]; exact ⟨_, _, rfl, hm.1, hm.2⟩
    · rw [if_neg c2]; exact ⟨_, _, rfl, (low8 _).1, (low8 _).2⟩
  · rw [if_neg c1]
    by_cases c2 : p + 1 ≤ (code.length : Int)
    · rw [if_pos c2]; exact ⟨_, _, rfl, by omega, by omega⟩
    · rw [if_neg c2]; exact ⟨_, _, rfl, (low8 _).1, (low8 _).2⟩
theorem pick_ok (code : List Int) (hc : ∀ x ∈ code, 0 ≤ x ∧ x ≤ 255) (p s n : Int) (h0 : 0 ≤ p) (h1 : p ≤ 999990) : ∃ v p' s', spec_l1Cur_pick.f code p s n = some (v, p', s') ∧ 0 ≤ v ∧ (v < n ∨ v = 0) ∧ p ≤ p' ∧ p' ≤ p + 2 := by
  unfold spec_l1Cur_pick.f
  by_cases c1 : n ≤ 1
  · rw [if_pos c1]; exact ⟨0, p, s, rfl, by omega, .inr rfl, by omega, by omega⟩
  · rw [if_neg c1]
    obtain ⟨v, s1, e1, v0, v1⟩ := next_ok code hc p s h0 (by omega)
    rw [e1]
    simp only [Option.bind_some]
    by_cases c2 : n > 200
    · rw [if_pos c2]
      obtain ⟨u, s2, e2, u0, u1⟩ := next_ok code hc (p + 1) s1 (by omega) (by omega)
      rw [e2]
      simp only [Option.bind_some]
      rw [if_neg (show ¬ n = 0 by omega), wrap64_id (x := v * 256) (by omega) (by omega), wrap64_id (x := v * 256 + u) (by omega) (by omega), tmod_nn (by omega)]
      exact ⟨_, _, _, rfl, Int.emod_nonneg _ (by omega), .inl (Int.emod_lt_of_pos _ (by omega)), by omega, by omega⟩
    · rw [if_neg c2, if_neg (show ¬ n = 0 by omega), tmod_nn (by omega)]
      exact ⟨_, _, _, rfl, Int.emod_nonneg _ (by omega), .inl (Int.emod_lt_of_pos _ (by omega)), by omega, by omega⟩
theorem among_ok (code : List Int) (hc : ∀ x ∈ code, 0 ≤ x ∧ x ≤ 255) (p s : Int) (l : List Int) (hl : 0 < l.length) (h0 : 0 ≤ p) (h1 : p ≤ 999990) : ∃ v p' s', spec_l1Cur_among.f code p s l = some (v, p', s') ∧ v ∈ l ∧ p ≤ p' ∧ p' ≤ p + 2 := by
  unfold spec_l1Cur_among.f
  obtain ⟨v, p', s', e, v0, v1, q0, q1⟩ := pick_ok code hc p s (l.length : Int) h0 h1
  rw [e]
  simp only [Option.bind_some]
  have hv : v < (l.length : Int) := by omega
  rw [if_pos v0, if_pos hv]
  have := rd_mem (l := l) (j := v.toNat) (by omega)
  rw [show ((v.toNat : Nat) : Int) = v by omega] at this
  exact ⟨_, _, _, rfl, this, q0, q1⟩
theorem one_ok (code : List Int) (hc : ∀ x ∈ code, 0 ≤ x ∧ x ≤ 255) (p s n : Int) (h0 : 0 ≤ p) (h1 : p ≤ 999990) : ∃ v p' s', spec_l1Cur_one.f code p s n = some (v, p', s') ∧ p ≤ p' ∧ p' ≤ p + 2 := by
  unfold spec_l1Cur_one.f
  obtain ⟨v, p', s', e, _, _, q0, q1⟩ := pick_ok code hc p s n h0 h1
  rw [e]
  exact ⟨_, _, _, rfl, q0, q1⟩
theorem rwGood_loop (s : ByteArray) (hs : s.size ≤ 140737488351232) : ∀ (d i : Nat), i + d = (L s).length → Ev (fun k => spec_rwGood.l0 k s (i : Int)) (((L s).drop i).all sgn) := by
  have hl := size_L s
  intro d
  induction d with
  | zero =>
    intro i hi
    refine Ev.succ ?_
    simp only [spec_rwGood.l0]
    refine Ev.neg (by omega) (Ev.const ?_)
    rw [List.drop_of_length_le (by omega)]; rfl
  | succ d ih =>
    intro i hi
    have hlt : i < (L s).length := by omega
    refine Ev.succ ?_
    simp only [spec_rwGood.l0]
    rw [List.drop_eq_getElem_cons hlt, List.all_cons, wrap64_id (x := (i : Int) + 1) (by omega) (by omega)]
    refine Ev.pos (by omega) (Ev.pos (by omega) ?_)
    refine Ev.iff (fun hc => ?_) (fun hc => Ev.iff (fun hd => ?_) (fun hd => ?_))
    · rw [bt60 s i hlt] at hc
      rw [hc]; exact ih (i + 1) (by omega)
    · rw [bt62 s i hlt] at hd
      rw [hd]; exact ih (i + 1) (by omega)
    · rw [bt60 s i hlt] at hc
      rw [bt62 s i hlt] at hd
      have e : sgn (L s)[i] = false := by unfold sgn; rw [beq_eq_false_iff_ne.2 hc, beq_eq_false_iff_ne.2 hd]; rfl
      rw [e]; exact Ev.now _
theorem rwGood_ev (s : ByteArray) (hs : s.size ≤ 140737488351232) : Ev (fun k => spec_rwGood.f k s) (rgood (L s)) := by
  have hl := size_L s
  unfold spec_rwGood.f rgood
  simp only [l1In_eq, Option.bind_some]
  refine Ev.iff (fun hc => ?_) (fun hc => ?_)
  · rw [decide_eq_true_eq] at hc
    rw [decide_eq_true (by omega), Bool.true_and]
    have := rwGood_loop s hs (L s).length 0 (by omega)
    rw [List.drop_zero] at this
    exact this
  · rw [decide_eq_true_eq] at hc
    rw [decide_eq_false (by omega), Bool.false_and]
    exact Ev.now _
theorem isRow_eq (s : ByteArray) (hs : s.size ≤ 140737488351232) : impl_isRow.f s = some (rgood (L s)) := by
  have hl := size_L s
  unfold impl_isRow.f rgood strings_Trim.f
  simp only [in_eq, Option.bind_some]
  by_cases h : 1 ≤ (L s).length ∧ (L s).length ≤ 60
  · rw [if_pos (by rw [decide_eq_true_eq]; omega), if_pos ⟨by omega, by decide, by decide⟩, decide_eq_true h, Bool.true_and, Option.bind_some, toList_L, L_mk]
    congr 1
    by_cases ha : (L s).all sgn = true
    · rw [ha]
      exact beq_iff_eq.2 ((trim_sgn (L s)).2 ha)
    · rw [Bool.not_eq_true] at ha
      rw [ha, beq_eq_false_iff_ne]
      intro e
      have := (trim_sgn (L s)).1 e
      rw [ha] at this
      exact absurd this (by decide)
  · rw [if_neg (by rw [decide_eq_true_eq]; omega), decide_eq_false h, Bool.false_and]
theorem isAtRest_eq (l : List UInt8) (h : l.length ≤ 1000) : impl_isAtRest.f (up l) = some (!fac l) := by
  have hs := up_size l
  unfold impl_isAtRest.f strings_Contains.f
  rw [if_pos (by omega), Option.bind_some]
  show some (!(Lib.contains (L (up l)) [62, 60])) = _
  rw [L_mk, fac_index]
theorem tick_eq (l : List UInt8) (h : l.length ≤ 1000) : impl_tick.f (up l) = some (up (twk l)) := by
  have hs := up_size l
  unfold impl_tick.f strings_ReplaceAll.f
  have hc : Lib.countB (up l) ⟨#[62, 60]⟩ ≤ l.length + 1 := by
    have := Lib.count_le (L (up l)) [62, 60]
    rw [L_mk] at this
    exact Nat.le_trans (by rw [Lib.countB]; show Lib.count (L (up l)) [62, 60] ≤ _; rw [L_mk]; exact Nat.le_refl _) this
  have e2 : (⟨#[60, 62]⟩ : ByteArray).size = 2 := rfl
  rw [if_pos ⟨by omega, by decide, by rw [e2]; omega⟩, Option.bind_some]
  show some (up (Lib.replaceAll (L (up l)) [62, 60] [60, 62])) = _
  rw [L_mk, replaceAll_twk]
theorem rwPairs_loop (l : List UInt8) (h : l.length ≤ 1000) : ∀ (d i : Nat) (acc : List Int), i + d = l.length → acc.length ≤ i → Ev (fun k => spec_rwPairs.l0 k (up l) acc (i : Int)) (acc ++ prs i (l.drop i)) := by
  intro d
  induction d with
  | zero =>
    intro i acc hi ha
    refine Ev.succ ?_
    simp only [spec_rwPairs.l0, up_isize]
    rw [wrap64_id (x := (i : Int) + 1) (by omega) (by omega), prs_one l i (by omega), List.append_nil]
    exact Ev.neg (by omega) (Ev.now _)
  | succ d ih =>
    intro i acc hi ha
    refine Ev.succ ?_
    simp only [spec_rwPairs.l0, up_isize]
    rw [wrap64_id (x := (i : Int) + 1) (by omega) (by omega)]
    refine Ev.iff (fun h1 => ?_) (fun h1 => ?_)
    · rw [prs_two l i (by omega)]
      refine Ev.pos (by omega) (Ev.pos (by omega) ?_)
      have h2 : i + 1 < l.length := by omega
      have e1 := ih (i + 1) acc (by omega) (by omega)
      refine Ev.iff (fun c1 => ?_) (fun c1 => ?_)
      · rw [up62 l i (by omega)] at c1
        refine Ev.pos (by omega) (Ev.iff (fun c2 => ?_) (fun c2 => ?_))
        · rw [show ((i : Int) + 1) = ((i + 1 : Nat) : Int) by omega, up60 l (i + 1) h2] at c2
          refine Ev.pos (by omega) ?_
          rw [if_pos ⟨c1, c2⟩]
          have := ih (i + 1) (acc ++ [(i : Int)]) (by omega) (by simp; omega)
          rw [← List.append_assoc]; exact this
        · rw [show ((i : Int) + 1) = ((i + 1 : Nat) : Int) by omega, up60 l (i + 1) h2] at c2
          rw [if_neg (fun c => c2 c.2), List.nil_append]; exact e1
      · rw [up62 l i (by omega)] at c1
        rw [if_neg (fun c => c1 c.1), List.nil_append]; exact e1
    · rw [prs_one l i (by omega), List.append_nil]; exact Ev.now _
theorem rwPairs_ev (l : List UInt8) (h : l.length ≤ 1000) : Ev (fun k => spec_rwPairs.f k (up l)) (prs 0 l) := by
  unfold spec_rwPairs.f
  have := rwPairs_loop l h l.length 0 [] (by omega) (by simp)
  simpa using this
theorem rwTick_loop (ps : List Int) (hps : ps.length ≤ 1000) (n : Nat) (hn : n ≤ 1000) (hp : ∀ p ∈ ps, 0 ≤ p ∧ p + 1 < n) : ∀ (d i : Nat) (c : List UInt8), i + d = ps.length → c.length = n → Ev (fun k => spec_rwTick.l0 k (up c) ps (ps.length : Int) (i : Int)) (up ((ps.drop i).foldl trn c)) := by
  intro d
  induction d with
  | zero =>
    intro i c hi hc
    refine Ev.succ ?_
    simp only [spec_rwTick.l0]
    rw [List.drop_of_length_le (by omega)]
    exact Ev.neg (by omega) (Ev.now _)
  | succ d ih =>
    intro i c hi hc
    have hlt : i < ps.length := by omega
    have hm := hp (rd ps (i : Int)) (rd_mem hlt)
    obtain ⟨q, hq⟩ : ∃ q : Nat, rd ps (i : Int) = q := ⟨(rd ps (i : Int)).toNat, by omega⟩
    refine Ev.succ ?_
    simp only [spec_rwTick.l0, hq]
    rw [rd_cons_drop hlt, List.foldl_cons, wrap64_id (x := (i : Int) + 1) (by omega) (by omega), wrap64_id (x := (q : Int) + 2) (by omega) (by omega), Int.toNat_natCast, show ((q : Int) + 2).toNat = q + 2 by omega, up_take, up_drop]
    have e1 : up (c.take q) ++ (⟨#[60, 62]⟩ : ByteArray) = up (c.take q ++ [60, 62]) := up_app _ [60, 62]
    simp only [e1, up_app, up_isize]
    have e2 : (up (List.take q c)).size ≤ 1000 := by rw [up_size]; simp; omega
    have e3 : (up (List.take q c ++ [60, 62])).size ≤ 1002 := by rw [up_size]; simp; omega
    have e4 : (up (List.drop (q + 2) c)).size ≤ 1000 := by rw [up_size]; simp; omega
    refine Ev.pos (by omega) (Ev.pos (by omega) (Ev.pos (by omega) (Ev.pos (by omega) (Ev.pos (by omega) (Ev.pos (by omega) (Ev.pos (by omega) (Ev.pos (by omega) (Ev.pos (by omega) ?_))))))))
    have e5 : List.take q c ++ [60, 62] ++ List.drop (q + 2) c = trn c (rd ps (i : Int)) := by rw [hq]; rfl
    rw [e5]
    exact ih (i + 1) _ (by omega) (by rw [trn_len _ _ (by omega) (by omega)]; exact hc)
theorem rwTick_ev (l : List UInt8) (h : l.length ≤ 1000) : Ev (fun k => spec_rwTick.f k (up l)) (up (twk l)) := by
  unfold spec_rwTick.f
  refine Ev.bind (rwPairs_ev l h) ?_
  have hl := prs_len l 0
  have := rwTick_loop (prs 0 l) (by omega) l.length h (fun p hp => by have := prs_ge l 0 p hp; omega) (prs 0 l).length 0 l (by omega) rfl
  rw [List.drop_zero, fold_tick] at this
  exact this
theorem wt_1000 (l : List UInt8) (h : l.length ≤ 1000) : wt l ≤ 1000000 := Nat.le_trans (wt_sq l) (Nat.mul_le_mul h h)
theorem fac_prs (l : List UInt8) : (((prs 0 l).length : Int) > 0) ↔ fac l = true := by
  have := prs_nil l 0
  constructor
  · intro h
    rw [← Bool.not_eq_false, ← this]
    intro e; rw [e] at h; simp at h
  · intro h
    have : prs 0 l ≠ [] := by rw [Ne, this]; simp [h]
    have := List.length_pos_iff.2 this
    omega
theorem rwRest_loop : ∀ (f : Nat) (l : List UInt8) (n : Int), l.length ≤ 1000 → wt l ≤ f → 0 ≤ n → n + f ≤ 1000000000 → Ev (fun k => spec_rwRest.l0 k (up l) n) (up (rst f l).1, n + ((rst f l).2 : Int)) := by
  intro f
  induction f with
  | zero =>
    intro l n hl hw h0 h1
    have hf : fac l = false := by
      rw [← Bool.not_eq_true]; intro hf; have := (wt_le l).2 hf; omega
    refine Ev.succ ?_
    simp only [spec_rwRest.l0]
    refine Ev.bind (rwPairs_ev l hl) (Ev.neg (by rw [fac_prs, hf]; decide) ?_)
    simp only [rst]
    refine Ev.const ?_
    simp
  | succ f ih =>
    intro l n hl hw h0 h1
    refine Ev.succ ?_
    simp only [spec_rwRest.l0]
    refine Ev.bind (rwPairs_ev l hl) ?_
    rw [rst]
    by_cases hf : fac l = true
    · rw [if_pos hf]
      refine Ev.pos ((fac_prs l).2 hf) (Ev.bind (rwTick_ev l hl) ?_)
      have := (wt_le l).2 hf
      rw [wrap64_id (x := n + 1) (by omega) (by omega)]
      have := ih (twk l) (n + 1) (by rw [twk_len]; exact hl) (by omega) (by omega) (by omega)
      have e : (n + 1) + ((rst f (twk l)).2 : Int) = n + (((rst f (twk l)).2 + 1 : Nat) : Int) := by omega
      rw [e] at this
      exact this
    · rw [if_neg hf]
      refine Ev.neg (by rw [fac_prs]; exact hf) (Ev.const ?_)
      simp
theorem rwRest_ev (l : List UInt8) (hl : l.length ≤ 1000) : Ev (fun k => spec_rwRest.f k (up l)) (up (rst 1000000 l).1, ((rst 1000000 l).2 : Int)) := by
  have := rwRest_loop 1000000 l 0 hl (wt_1000 l hl) (by omega) (by omega)
  unfold spec_rwRest.f
  simpa using this
theorem ticks_loop : ∀ (f : Nat) (l : List UInt8) (n : Int), l.length ≤ 1000 → wt l ≤ f → 0 ≤ n → n + f ≤ 1000000000 → Ev (fun k => impl_ticksToRest.l0 k (up l) n) (n + ((rst f l).2 : Int)) := by
  intro f
  induction f with
  | zero =>
    intro l n hl hw h0 h1
    have hf : fac l = false := by
      rw [← Bool.not_eq_true]; intro hf; have := (wt_le l).2 hf; omega
    refine Ev.succ ?_
    simp only [impl_ticksToRest.l0, isAtRest_eq l hl, Option.bind_some, hf, rst]
    exact Ev.const (by simp)
  | succ f ih =>
    intro l n hl hw h0 h1
    refine Ev.succ ?_
    simp only [impl_ticksToRest.l0, isAtRest_eq l hl, tick_eq l hl, Option.bind_some]
    rw [rst]
    by_cases hf : fac l = true
    · rw [if_pos hf]
      refine Ev.neg (by simp [hf]) ?_
      have := (wt_le l).2 hf
      rw [wrap64_id (x := n + 1) (by omega) (by omega)]
      have := ih (twk l) (n + 1) (by rw [twk_len]; exact hl) (by omega) (by omega) (by omega)
      have e : (n + 1) + ((rst f (twk l)).2 : Int) = n + (((rst f (twk l)).2 + 1 : Nat) : Int) := by omega
      rw [e] at this
      exact this
    · rw [if_neg hf]
      exact Ev.pos (by simp [hf]) (Ev.const (by simp))
theorem ticks_ev (l : List UInt8) (hl : l.length ≤ 1000) : Ev (fun k => impl_ticksToRest.f k (up l)) ((rst 1000000 l).2 : Int) := by
  have := ticks_loop 1000000 l 0 hl (wt_1000 l hl) (by omega) (by omega)
  unfold impl_ticksToRest.f
  simpa using this
theorem rwMake_loop : ∀ (j m : Nat) (o : List UInt8), j + o.length ≤ 1000 → m < 4611686018427387904 → Ev (fun k => spec_rwMake.l0 k (j : Int) (m : Int) (up o)) (up (mk j m ++ o)) := by
  intro j
  induction j with
  | zero =>
    intro m o h hm
    refine Ev.succ ?_
    simp only [spec_rwMake.l0]
    exact Ev.neg (by omega) (Ev.now _)
  | succ j ih =>
    intro m o h hm
    have hs := up_size o
    refine Ev.succ ?_
    simp only [spec_rwMake.l0]
    rw [tmod_nn (by omega), tdiv_nn (by omega), show ((j + 1 : Nat) : Int) - 1 = (j : Int) by omega, wrap64_id (x := (j : Int)) (by omega) (by omega), wrap64_id (x := (m : Int) / 2) (by omega) (by omega), show (m : Int) / 2 = ((m / 2 : Nat) : Int) by omega]
    have e62 : (⟨#[62]⟩ : ByteArray) ++ up o = up (62 :: o) := up_app [62] o
    have e60 : (⟨#[60]⟩ : ByteArray) ++ up o = up (60 :: o) := up_app [60] o
    rw [e62, e60, mk, List.append_assoc]
    refine Ev.pos (by omega) (Ev.iff (fun hc => ?_) (fun hc => ?_))
    · have e : sgnOf (m % 2) = 62 := by unfold sgnOf; rw [if_pos (by omega)]
      rw [e]
      exact Ev.pos (by omega) (ih (m / 2) (62 :: o) (by simp; omega) (by omega))
    · have e : sgnOf (m % 2) = 60 := by unfold sgnOf; rw [if_neg (by omega)]
      rw [e]
      exact Ev.pos (by omega) (ih (m / 2) (60 :: o) (by simp; omega) (by omega))
theorem rwMake_ev (n m : Nat) (hn : n ≤ 60) (hm : m < 4611686018427387904) : Ev (fun k => spec_rwMake.f k (n : Int) (m : Int)) (up (mk n m)) := by
  unfold spec_rwMake.f
  have := rwMake_loop n m [] (by simp; omega) hm
  rw [List.append_nil] at this
  exact this
theorem rowOf_loop (n m : Nat) (hn : n ≤ 60) (hm : m < 4611686018427387904) : ∀ (d i : Nat), i + d = n → Ev (fun k => impl_rowOf.l0 k (n : Int) (m : Int) (cpy 0 (inums (mk n m)) i) (n : Int) (i : Int)) (up (mk n m)) := by
  have hl : (inums (mk n m)).length = n := by simp [inums, mk_len]
  intro d
  induction d with
  | zero =>
    intro i hi
    refine Ev.succ ?_
    simp only [impl_rowOf.l0]
    refine Ev.neg (by omega) (Ev.const ?_)
    rw [show i = (inums (mk n m)).length by omega, cpy_all, inums_str]
  | succ d ih =>
    intro i hi
    refine Ev.succ ?_
    simp only [impl_rowOf.l0, Option.bind_some]
    have hlt : i < (inums (mk n m)).length := by omega
    have hget : (inums (mk n m))[i] = if m / 2 ^ (n - 1 - i) % 2 = 1 then 62 else 60 := by
      have h1 := mk_get n m i (by omega)
      have h2 : (inums (mk n m))[i]? = some (((sgnOf (m / 2 ^ (n - 1 - i) % 2)).toNat : Nat) : Int) := by simp [inums, h1]
      rw [List.getElem?_eq_getElem hlt, Option.some.injEq] at h2
      rw [h2]
      unfold sgnOf
      split <;> rfl
    rw [wrap64_id (x := (n : Int) - 1) (by omega) (by omega), wrap64_id (x := (i : Int) + 1) (by omega) (by omega), wrap64_id (x := (n : Int) - 1 - (i : Int)) (by omega) (by omega), show (n : Int) - 1 - (i : Int) = ((n - 1 - i : Nat) : Int) by omega, shr_div m _ (by omega), and1 _ (Nat.lt_of_le_of_lt (Nat.div_le_self _ _) (by omega)), Int.toNat_natCast]
    have hs := cpy_succ 0 (inums (mk n m)) i hlt
    refine Ev.pos (by omega) (Ev.pos (by omega) (Ev.pos (by rw [cpy_len _ _ _ (by omega)]; omega) (Ev.pos (by omega) (Ev.iff (fun hc => ?_) (fun hc => ?_)))))
    · rw [hget, if_pos (by omega)] at hs
      rw [List.set_set, hs]
      exact ih (i + 1) (by omega)
    · rw [hget, if_neg (by omega)] at hs
      rw [hs]
      exact ih (i + 1) (by omega)
theorem rowOf_ev (n m : Nat) (hn : n ≤ 60) (hm : m < 4611686018427387904) : Ev (fun k => impl_rowOf.f k (n : Int) (m : Int)) (up (mk n m)) := by
  have hl : (inums (mk n m)).length = n := by simp [inums, mk_len]
  unfold impl_rowOf.f
  simp only [Option.bind_some, Int.toNat_natCast, List.length_replicate]
  refine Ev.pos (by omega) (Ev.pos (by omega) ?_)
  have := rowOf_loop n m hn hm n 0 (by omega)
  rw [cpy_zero, hl] at this
  exact this
def rdS (l : List ByteArray) (i : Int) : ByteArray := rdOf ByteArray.empty l i
theorem rdS_get {l : List ByteArray} {i : Nat} (h : i < l.length) : rdOf ByteArray.empty l (i : Int) = l[i] := by simp [rdOf, h]
theorem rdS_mem {l : List ByteArray} {j : Int} (h0 : 0 ≤ j) (h : j < l.length) : rdOf ByteArray.empty l j ∈ l := by
  have h' : j.toNat < l.length := by omega
  simp [rdOf, h']
theorem of_ok (code : List Int) (hc : ∀ x ∈ code, 0 ≤ x ∧ x ≤ 255) (p s : Int) (l : List ByteArray) (hl : 0 < l.length) (h0 : 0 ≤ p) (h1 : p ≤ 999990) : ∃ v p' s', spec_l1Cur_of.f code p s l = some (v, p', s') ∧ v ∈ l ∧ p ≤ p' ∧ p' ≤ p + 2 := by
  unfold spec_l1Cur_of.f
  obtain ⟨v, p', s', e, v0, v1, q0, q1⟩ := pick_ok code hc p s (l.length : Int) h0 h1
  rw [e]
  simp only [Option.bind_some]
  have hv : v < (l.length : Int) := by omega
  rw [if_pos v0, if_pos hv]
  exact ⟨_, _, _, rfl, rdS_mem v0 hv, q0, q1⟩
theorem sureRow_loop (code : List Int) (hc : ∀ x ∈ code, 0 ≤ x ∧ x ≤ 255) : ∀ (d : Nat) (acc : ByteArray) (p s : Int), acc.size + d ≤ 1000 → 0 ≤ p → p + 2 * d ≤ 900000 →
    ∃ r p' s', Ev (fun k => spec_l1Cur_sureRow.l0 k acc (d : Int) code p s) (r, p', s') ∧ r.size ≤ acc.size + d ∧ p ≤ p' ∧ p' ≤ p + 2 * d := by
  intro d
  induction d with
  | zero =>
    intro acc p s h h0 h1
    refine ⟨acc, p, s, Ev.succ ?_, by omega, by omega, by omega⟩
    simp only [spec_l1Cur_sureRow.l0]
    exact Ev.neg (by omega) (Ev.now _)
  | succ d ih =>
    intro acc p s h h0 h1
    obtain ⟨v, p1, s1, e1, hv, q0, q1⟩ := of_ok code hc p s [(⟨#[60]⟩ : ByteArray), (⟨#[62]⟩ : ByteArray)] (by simp) h0 (by omega)
    have hs : v.size = 1 := by
      simp only [List.mem_cons, List.not_mem_nil, or_false] at hv
      rcases hv with rfl | rfl <;> rfl
    have ha : (acc ++ v).size = acc.size + 1 := by rw [ByteArray.size_append, hs]
    obtain ⟨r, p2, s2, e2, b0, b1, b2⟩ := ih (acc ++ v) p1 s1 (by omega) (by omega) (by omega)
    refine ⟨r, p2, s2, Ev.succ ?_, by omega, by omega, by omega⟩
    simp only [spec_l1Cur_sureRow.l0]
    rw [e1, show ((d + 1 : Nat) : Int) - 1 = (d : Int) by omega, wrap64_id (x := (d : Int)) (by omega) (by omega)]
    simp only [Option.bind_some]
    exact Ev.pos (by omega) (Ev.pos (by omega) e2)
theorem sureRow_ok (code : List Int) (hc : ∀ x ∈ code, 0 ≤ x ∧ x ≤ 255) (p s n : Int) (hn : n ≤ 200) (h0 : 0 ≤ p) (h1 : p ≤ 800000) : ∃ r p' s', Ev (fun k => spec_l1Cur_sureRow.f k code p s n) (r, p', s') ∧ r.size ≤ 201 ∧ p ≤ p' ∧ p' ≤ p + 404 := by
  unfold spec_l1Cur_sureRow.f
  obtain ⟨v, p1, s1, e1, v0, v1, q0, q1⟩ := pick_ok code hc p s n h0 (by omega)
  rw [e1]
  simp only [Option.bind_some]
  rw [wrap64_id (x := 1 + v) (by omega) (by omega), show 1 + v = (((1 + v).toNat : Nat) : Int) by omega]
  have hz : (⟨#[]⟩ : ByteArray).size = 0 := rfl
  obtain ⟨r, p2, s2, e2, b0, b1, b2⟩ := sureRow_loop code hc (1 + v).toNat (⟨#[]⟩ : ByteArray) p1 s1 (by omega) (by omega) (by omega)
  exact ⟨r, p2, s2, e2, by omega, by omega, by omega⟩
theorem row_loop (code : List Int) (hc : ∀ x ∈ code, 0 ≤ x ∧ x ≤ 255) (n : Int) (hn : n ≤ 200) : ∀ (d : Nat) (acc : ByteArray) (p s : Int), acc.size + 2 * d ≤ 1000 → 0 ≤ p → p ≤ 700000 →
    ∃ r p' s', Ev (fun k => spec_l1Cur_row.l0 k n acc (d : Int) code p s) (r, p', s') ∧ r.size ≤ 1000 ∧ p ≤ p' ∧ p' ≤ p + 404 := by
  intro d
  induction d with
  | zero =>
    intro acc p s h h0 h1
    obtain ⟨r, p2, s2, e2, b0, b1, b2⟩ := sureRow_ok code hc p s n hn h0 (by omega)
    by_cases c : (acc.size : Int) ≤ n
    · refine ⟨acc, p, s, Ev.succ ?_, by omega, by omega, by omega⟩
      simp only [spec_l1Cur_row.l0]
      exact Ev.neg (by omega) (Ev.pos c (Ev.now _))
    · refine ⟨r, p2, s2, Ev.succ ?_, by omega, by omega, by omega⟩
      simp only [spec_l1Cur_row.l0]
      exact Ev.neg (by omega) (Ev.neg c (Ev.bind e2 (Ev.now _)))
  | succ d ih =>
    intro acc p s h h0 h1
    have z1 : (⟨#[62]⟩ : ByteArray).size = 1 := rfl
    have z2 : (⟨#[60]⟩ : ByteArray).size = 1 := rfl
    have hs : ((⟨#[62]⟩ : ByteArray) ++ acc).size = 1 + acc.size := by rw [ByteArray.size_append, z1]
    have hs2 : (((⟨#[62]⟩ : ByteArray) ++ acc) ++ (⟨#[60]⟩ : ByteArray)).size = 2 + acc.size := by rw [ByteArray.size_append, hs, z2]; omega
    obtain ⟨r, p2, s2, e2, b0, b1, b2⟩ := ih (((⟨#[62]⟩ : ByteArray) ++ acc) ++ (⟨#[60]⟩ : ByteArray)) p s (by omega) h0 h1
    refine ⟨r, p2, s2, Ev.succ ?_, b0, b1, b2⟩
    simp only [spec_l1Cur_row.l0]
    rw [show ((d + 1 : Nat) : Int) - 1 = (d : Int) by omega, wrap64_id (x := (d : Int)) (by omega) (by omega)]
    exact Ev.pos (by omega) (Ev.pos (by omega) (Ev.pos (by omega) e2))
theorem row_ok (code : List Int) (hc : ∀ x ∈ code, 0 ≤ x ∧ x ≤ 255) (p s n : Int) (hn : n ≤ 200) (h0 : 0 ≤ p) (h1 : p ≤ 600000) : ∃ r p' s', Ev (fun k => spec_l1Cur_row.f k code p s n) (r, p', s') ∧ r.size ≤ 1000 ∧ p ≤ p' ∧ p' ≤ p + 410 := by
  unfold spec_l1Cur_row.f
  obtain ⟨v, p1, s1, e1, v0, v1, q0, q1⟩ := pick_ok code hc p s 14 h0 (by omega)
  rw [e1]
  simp only [Option.bind_some]
  by_cases c0 : v = 0
  · obtain ⟨r, p2, s2, e2, hr, b0, b1⟩ := of_ok code hc p1 s1 [(⟨#[]⟩ : ByteArray), (⟨#[120]⟩ : ByteArray), (⟨#[60, 61]⟩ : ByteArray), (⟨#[62, 32]⟩ : ByteArray), (⟨#[60, 60, 60, 60, 60, 60, 60, 60, 60, 60, 60, 60, 60, 60, 60, 60, 60, 60, 60, 60, 60, 60, 60, 60, 60, 60, 60, 60, 60, 60, 60, 60, 60, 60, 60, 60, 60, 60, 60, 60, 60, 60, 60, 60, 60, 60, 60, 60, 60, 60, 60, 60, 60, 60, 60, 60, 60, 60, 60, 60, 60]⟩ : ByteArray), (⟨#[62, 62, 60, 60, 76, 82]⟩ : ByteArray)] (by simp) (by omega) (by omega)
    have hs : r.size ≤ 1000 := by
      simp only [List.mem_cons, List.not_mem_nil, or_false] at hr
      rcases hr with rfl | rfl | rfl | rfl | rfl | rfl <;> decide
    refine ⟨r, p2, s2, Ev.pos c0 ?_, hs, by omega, by omega⟩
    rw [e2]
    exact Ev.now _
  · by_cases c1 : v = 1
    · obtain ⟨u, p2, s2, e2, u0, u1, b0, b1⟩ := pick_ok code hc p1 s1 8 (by omega) (by omega)
      obtain ⟨r, p3, s3, e3, d0, d1, d2⟩ := row_loop code hc n hn (2 + u).toNat (⟨#[]⟩ : ByteArray) p2 s2 (by have : (⟨#[]⟩ : ByteArray).size = 0 := rfl; omega) (by omega) (by omega)
      refine ⟨r, p3, s3, Ev.neg c0 (Ev.pos c1 ?_), d0, by omega, by omega⟩
      rw [e2]
      simp only [Option.bind_some]
      rw [wrap64_id (x := 2 + u) (by omega) (by omega), show 2 + u = (((2 + u).toNat : Nat) : Int) by omega]
      exact e3
    · obtain ⟨r, p3, s3, e3, d0, d1, d2⟩ := sureRow_ok code hc p1 s1 n hn (by omega) (by omega)
      exact ⟨r, p3, s3, Ev.neg c0 (Ev.neg c1 (Ev.bind e3 (Ev.now _))), by omega, by omega, by omega⟩
theorem drawRB_ok (code : List Int) (hc : ∀ x ∈ code, 0 ≤ x ∧ x ≤ 255) : ∃ r, Ev (fun k => spec_DrawRowsBefore.f k code) r ∧ r.size ≤ 1000 := by
  unfold spec_DrawRowsBefore.f
  obtain ⟨v, p1, s1, e1, q0, q1⟩ := one_ok code hc 0 0 2 (by omega) (by omega)
  rw [e1]
  simp only [Option.bind_some]
  cases v with
  | true =>
    obtain ⟨r, p2, s2, e2, b0, _, _⟩ := sureRow_ok code hc p1 s1 8 (by omega) (by omega) (by omega)
    have e : r = up (L r) := up_L r
    have hl : (L r).length ≤ 1000 := by rw [← size_L]; omega
    have t := rwTick_ev (L r) hl
    rw [← e] at t
    exact ⟨up (twk (L r)), Ev.pos (by first | rfl | trivial) (Ev.bind e2 (Ev.bind t (Ev.now _))), by rw [up_size, twk_len]; exact hl⟩
  | false =>
    obtain ⟨r, p2, s2, e2, b0, _, _⟩ := row_ok code hc p1 s1 8 (by omega) (by omega) (by omega)
    exact ⟨r, Ev.neg (by decide) (Ev.bind e2 (Ev.now _)), b0⟩
theorem soldiers_ok (code : List Int) (hc : ∀ x ∈ code, 0 ≤ x ∧ x ≤ 255) (p s : Int) (h0 : 0 ≤ p) (h1 : p ≤ 999000) : ∃ v p' s', spec_l1Cur_soldiers.f code p s = some (v, p', s') ∧ -1 ≤ v ∧ v ≤ 13 ∧ p ≤ p' ∧ p' ≤ p + 2 := by
  unfold spec_l1Cur_soldiers.f
  obtain ⟨v, p', s', e, hv, q0, q1⟩ := among_ok code hc p s [1, 2, 3, 4, 5, 6, 7, 8, 13, 0, (-1)] (by simp) h0 (by omega)
  rw [e]
  simp at hv
  exact ⟨_, _, _, rfl, by omega, by omega, q0, q1⟩
theorem drawLT_ok (code : List Int) (hc : ∀ x ∈ code, 0 ≤ x ∧ x ≤ 255) : ∃ v, spec_DrawLongestTicks.f code = some v ∧ -1 ≤ v ∧ v ≤ 13 := by
  unfold spec_DrawLongestTicks.f
  obtain ⟨v, p', s', e, v0, v1, q0, q1⟩ := soldiers_ok code hc 0 0 (by omega) (by omega)
  rw [e]
  exact ⟨_, rfl, v0, v1⟩
theorem drawCBT_ok (code : List Int) (hc : ∀ x ∈ code, 0 ≤ x ∧ x ≤ 255) : ∃ m t, spec_DrawCountByTicks.f code = some (m, t) ∧ -1 ≤ m ∧ m ≤ 13 := by
  unfold spec_DrawCountByTicks.f
  obtain ⟨v, p', s', e, v0, v1, q0, q1⟩ := soldiers_ok code hc 0 0 (by omega) (by omega)
  obtain ⟨u, p2, s2, e2, hu, _, _⟩ := among_ok code hc p' s' [0, 1, 2, 3, 4, 5, 8, 1000, 1001, (-1)] (by simp) (by omega) (by omega)
  rw [e]
  simp only [Option.bind_some]
  rw [e2]
  exact ⟨_, _, rfl, v0, v1⟩
theorem drawCAR_ok (code : List Int) (hc : ∀ x ∈ code, 0 ≤ x ∧ x ≤ 255) : ∃ v, spec_DrawCountAtRest.f code = some v ∧ -1 ≤ v ∧ v ≤ 61 := by
  unfold spec_DrawCountAtRest.f
  obtain ⟨v, p', s', e, hv, q0, q1⟩ := among_ok code hc 0 0 [1, 2, 5, 12, 60, 61, 0, (-1)] (by simp) (by omega) (by omega)
  rw [e]
  simp at hv
  exact ⟨_, rfl, by omega, by omega⟩
theorem isTraced_eq (n : Int) : impl_isTraced.f n = some (decide (1 ≤ n ∧ n ≤ 12)) := by unfold impl_isTraced.f; rw [in_eq]; rfl
theorem rwFew_eq (n : Int) : spec_rwFew.f n = some (decide (1 ≤ n ∧ n ≤ 12)) := by unfold spec_rwFew.f; rw [l1In_eq]; rfl
def rbv (l : List UInt8) : List ByteArray × Bool := if rgood l = true ∧ l.length ≤ 12 then (bfr l.length l 0 (2 ^ l.length), true) else ([], false)
theorem imRB_loop (r : List UInt8) (hr : 1 ≤ r.length ∧ r.length ≤ 12) : ∀ (d m : Nat) (acc : List ByteArray), m + d = 2 ^ r.length → acc.length ≤ m → Ev (fun k => impl_RowsBefore.l0 k (up r) acc ((2 ^ r.length : Nat) : Int) (m : Int)) (acc ++ bfr r.length r m d, true) := by
  have h2 := two12 r.length hr.2
  intro d
  induction d with
  | zero =>
    intro m acc hm ha
    refine Ev.succ ?_
    simp only [impl_RowsBefore.l0]
    rw [bfr, List.append_nil]
    exact Ev.neg (by omega) (Ev.now _)
  | succ d ih =>
    intro m acc hm ha
    refine Ev.succ ?_
    simp only [impl_RowsBefore.l0, up_isize]
    rw [wrap64_id (x := (m : Int) + 1) (by omega) (by omega)]
    refine Ev.pos (by omega) (Ev.bind (rowOf_ev r.length m (by omega) (by omega)) ?_)
    rw [tick_eq (mk r.length m) (by rw [mk_len]; omega)]
    simp only [Option.bind_some, toList_L, L_mk]
    rw [bfr]
    refine Ev.iff (fun hc => ?_) (fun hc => ?_)
    · rw [if_pos hc]
      have := ih (m + 1) (acc ++ [up (mk r.length m)]) (by omega) (by simp; omega)
      rw [List.append_assoc] at this
      exact Ev.pos (by omega) this
    · rw [if_neg hc, List.nil_append]
      exact ih (m + 1) acc (by omega) (by omega)
theorem rgood_len {l : List UInt8} (h : rgood l = true) : 1 ≤ l.length ∧ l.length ≤ 60 := by
  unfold rgood at h
  simp only [Bool.and_eq_true, decide_eq_true_eq] at h
  exact h.1
theorem rgood_all {l : List UInt8} (h : rgood l = true) : l.all sgn = true := by
  unfold rgood at h
  simp only [Bool.and_eq_true, decide_eq_true_eq] at h
  exact h.2
theorem imRB_ev (s : ByteArray) (hs : s.size ≤ 1000000000) : Ev (fun k => impl_RowsBefore.f k s) (rbv (L s)) := by
  have hz := isize_L s
  have e0 : s = up (L s) := up_L s
  unfold impl_RowsBefore.f rbv
  simp only [isRow_eq s (by omega), isTraced_eq, Option.bind_some]
  by_cases hg : rgood (L s) = true
  · have hl := rgood_len hg
    refine Ev.pos hg (Ev.succ ?_)
    simp only [impl_RowsBefore.j0]
    by_cases h12 : (L s).length ≤ 12
    · rw [if_pos ⟨hg, h12⟩, decide_eq_true (show 1 ≤ (s.size : Int) ∧ (s.size : Int) ≤ 12 by omega), hz, shl_one _ (by omega)]
      have := imRB_loop (L s) ⟨hl.1, h12⟩ (2 ^ (L s).length) 0 [] (by omega) (by simp)
      rw [← e0, List.nil_append] at this
      exact Ev.neg (by decide) this
    · rw [if_neg (fun h => h12 h.2), decide_eq_false (show ¬ (1 ≤ (s.size : Int) ∧ (s.size : Int) ≤ 12) by omega)]
      exact Ev.pos (by first | rfl | trivial) (Ev.now _)
  · rw [if_neg (fun h => hg h.1)]
    refine Ev.neg hg (Ev.succ ?_)
    simp only [impl_RowsBefore.j0]
    exact Ev.pos (by first | rfl | trivial) (Ev.now _)
theorem spRB_loop (r : List UInt8) (hr : 1 ≤ r.length ∧ r.length ≤ 12) : ∀ (d m : Nat) (acc : List ByteArray), m + d = 2 ^ r.length → acc.length ≤ m → Ev (fun k => spec_rwBefore.l0 k (up r) acc (m : Int)) (acc ++ bfr r.length r m d) := by
  have h2 := two12 r.length hr.2
  intro d
  induction d with
  | zero =>
    intro m acc hm ha
    refine Ev.succ ?_
    simp only [spec_rwBefore.l0, up_isize]
    rw [shl_one _ (by omega), bfr, List.append_nil]
    exact Ev.neg (by omega) (Ev.now _)
  | succ d ih =>
    intro m acc hm ha
    refine Ev.succ ?_
    simp only [spec_rwBefore.l0, up_isize]
    rw [shl_one _ (by omega), wrap64_id (x := (m : Int) + 1) (by omega) (by omega)]
    refine Ev.pos (by omega) (Ev.bind (rwMake_ev r.length m (by omega) (by omega)) (Ev.bind (rwTick_ev (mk r.length m) (by rw [mk_len]; omega)) ?_))
    simp only [toList_L, L_mk]
    rw [bfr]
    refine Ev.iff (fun hc => ?_) (fun hc => ?_)
    · rw [if_pos hc]
      have := ih (m + 1) (acc ++ [up (mk r.length m)]) (by omega) (by simp; omega)
      rw [List.append_assoc] at this
      exact Ev.pos (by omega) this
    · rw [if_neg hc, List.nil_append]
      exact ih (m + 1) acc (by omega) (by omega)
theorem rwBefore_ev (s : ByteArray) (hl : 1 ≤ (L s).length ∧ (L s).length ≤ 12) : Ev (fun k => spec_rwBefore.f k s) (bfr (L s).length (L s) 0 (2 ^ (L s).length)) := by
  have e0 : s = up (L s) := up_L s
  unfold spec_rwBefore.f
  have := spRB_loop (L s) hl (2 ^ (L s).length) 0 [] (by omega) (by simp)
  rw [← e0, List.nil_append] at this
  exact this
theorem spRB_ev (s : ByteArray) (hs : s.size ≤ 1000000000) : Ev (fun k => spec_RowsBefore.f k s) (rbv (L s)) := by
  have hz := isize_L s
  unfold spec_RowsBefore.f rbv
  refine Ev.bind (rwGood_ev s (by omega)) ?_
  simp only [rwFew_eq, Option.bind_some]
  by_cases hg : rgood (L s) = true
  · have hl := rgood_len hg
    refine Ev.pos hg ?_
    by_cases h12 : (L s).length ≤ 12
    · rw [if_pos ⟨hg, h12⟩, decide_eq_true (show 1 ≤ (s.size : Int) ∧ (s.size : Int) ≤ 12 by omega)]
      exact Ev.pos (by first | rfl | trivial) (Ev.bind (rwBefore_ev s ⟨hl.1, h12⟩) (Ev.now _))
    · rw [if_neg (fun h => h12 h.2), decide_eq_false (show ¬ (1 ≤ (s.size : Int) ∧ (s.size : Int) ≤ 12) by omega)]
      exact Ev.neg (by decide) (Ev.now _)
  · rw [if_neg (fun h => hg h.1)]
    exact Ev.neg hg (Ev.now _)
theorem imHB_ev (s : ByteArray) (hs : s.size ≤ 1000000000) : Ev (fun k => impl_HasBefore.f k s) (decide (((rbv (L s)).1.length : Int) > 0), (rbv (L s)).2) := by
  unfold impl_HasBefore.f
  exact Ev.bind (imRB_ev s hs) (Ev.now _)
theorem spHB_ev (s : ByteArray) (hs : s.size ≤ 1000000000) : Ev (fun k => spec_HasBefore.f k s) (decide (((rbv (L s)).1.length : Int) > 0), (rbv (L s)).2) := by
  have hz := isize_L s
  unfold spec_HasBefore.f rbv
  refine Ev.bind (rwGood_ev s (by omega)) ?_
  simp only [rwFew_eq, Option.bind_some]
  by_cases hg : rgood (L s) = true
  · have hl := rgood_len hg
    refine Ev.pos hg ?_
    by_cases h12 : (L s).length ≤ 12
    · rw [if_pos ⟨hg, h12⟩, decide_eq_true (show 1 ≤ (s.size : Int) ∧ (s.size : Int) ≤ 12 by omega)]
      exact Ev.pos (by first | rfl | trivial) (Ev.bind (rwBefore_ev s ⟨hl.1, h12⟩) (Ev.now _))
    · rw [if_neg (fun h => h12 h.2), decide_eq_false (show ¬ (1 ≤ (s.size : Int) ∧ (s.size : Int) ≤ 12) by omega)]
      exact Ev.neg (by decide) (Ev.const (by simp))
  · rw [if_neg (fun h => hg h.1)]
    exact Ev.neg hg (Ev.const (by simp))
theorem mTexts_loop (l : List ByteArray) (hl : l.length ≤ 1000000000) : ∀ (d i : Nat), i + d = l.length → Ev (fun k => laws_mTexts.l0 k l l (l.length : Int) (i : Int)) true := by
  intro d
  induction d with
  | zero =>
    intro i h
    refine Ev.succ ?_
    simp only [laws_mTexts.l0]
    exact Ev.neg (by omega) (Ev.now _)
  | succ d ih =>
    intro i h
    refine Ev.succ ?_
    simp only [laws_mTexts.l0]
    rw [wrap64_id (x := (i : Int) + 1) (by omega) (by omega)]
    exact Ev.pos (by omega) (Ev.pos (by omega) (Ev.pos (by omega) (Ev.pos (by omega) (Ev.pos (by first | rfl | trivial) (ih (i + 1) (by omega))))))
theorem mTexts_ev (l : List ByteArray) (hl : l.length ≤ 1000000000) : Ev (fun k => laws_mTexts.f k l l) true := by
  unfold laws_mTexts.f
  exact Ev.pos (by first | rfl | trivial) (mTexts_loop l hl l.length 0 (by omega))
theorem mText_loop (s : ByteArray) (l : List ByteArray) (hl : l.length ≤ 1000000000) : ∀ (d i : Nat), i + d = l.length → s ∈ l.drop i → Ev (fun k => laws_mText.l0 k s l (l.length : Int) (i : Int)) true := by
  intro d
  induction d with
  | zero =>
    intro i h hm
    rw [List.drop_of_length_le (by omega)] at hm
    simp at hm
  | succ d ih =>
    intro i h hm
    have hlt : i < l.length := by omega
    rw [List.drop_eq_getElem_cons hlt] at hm
    refine Ev.succ ?_
    simp only [laws_mText.l0]
    rw [wrap64_id (x := (i : Int) + 1) (by omega) (by omega), rdS_get hlt]
    refine Ev.pos (by omega) (Ev.pos (by omega) (Ev.pos (by omega) (Ev.iff (fun _ => Ev.now _) (fun hc => ?_))))
    rcases List.mem_cons.1 hm with e | hm
    · exact absurd (by rw [e]) hc
    · exact ih (i + 1) (by omega) hm
theorem mText_ev (s : ByteArray) (l : List ByteArray) (hl : l.length ≤ 1000000000) (hm : s ∈ l) : Ev (fun k => laws_mText.f k l s) true := by
  unfold laws_mText.f
  exact mText_loop s l hl l.length 0 (by omega) (by simpa using hm)
theorem byTicks_loop (n : Nat) (hn : 1 ≤ n ∧ n ≤ 12) : ∀ (d m : Nat) (acc : List Int), m + d = 2 ^ n → acc.length ≤ m → Ev (fun k => impl_byTicks.l0 k (n : Int) acc ((2 ^ n : Nat) : Int) (m : Int)) (acc ++ tkl n m d) := by
  have h2 := two12 n hn.2
  intro d
  induction d with
  | zero =>
    intro m acc hm ha
    refine Ev.succ ?_
    simp only [impl_byTicks.l0]
    rw [tkl, List.append_nil]
    exact Ev.neg (by omega) (Ev.now _)
  | succ d ih =>
    intro m acc hm ha
    refine Ev.succ ?_
    simp only [impl_byTicks.l0]
    rw [wrap64_id (x := (m : Int) + 1) (by omega) (by omega)]
    refine Ev.pos (by omega) (Ev.bind (rowOf_ev n m (by omega) (by omega)) (Ev.bind (ticks_ev (mk n m) (by rw [mk_len]; omega)) (Ev.pos (by omega) ?_)))
    have := ih (m + 1) (acc ++ [(tk (mk n m) : Int)]) (by omega) (by simp; omega)
    rw [List.append_assoc] at this
    rw [tkl]
    exact this
theorem byTicks_ev (n : Nat) (hn : 1 ≤ n ∧ n ≤ 12) : Ev (fun k => impl_byTicks.f k (n : Int)) (tks n) := by
  unfold impl_byTicks.f
  rw [shl_one n (by omega)]
  have := byTicks_loop n hn (2 ^ n) 0 [] (by omega) (by simp)
  rw [List.nil_append] at this
  exact Ev.pos (by omega) this
theorem maxT_ev (n : Nat) (hn : 1 ≤ n ∧ n ≤ 12) : Ev (fun k => slices_Max_int_int.f k (tks n)) (mt n) := by
  have h2 := two12 n hn.2
  have := sMax_ev (tk (mk n 0) : Int) (tkl n 1 (2 ^ n - 1)) (by rw [tkl_len]; omega)
  rw [← tks_cons] at this
  exact this
theorem counts_loop (n : Nat) (hn : 1 ≤ n ∧ n ≤ 12) : ∀ (d m : Nat), m + d = 2 ^ n → Ev (fun k => spec_rwCounts.l0 k (n : Int) (cn (tkl n 0 m) (n + 1)) (m : Int)) (cn (tks n) (n + 1)) := by
  have h2 := two12 n hn.2
  intro d
  induction d with
  | zero =>
    intro m hm
    refine Ev.succ ?_
    simp only [spec_rwCounts.l0]
    rw [shl_one n (by omega)]
    refine Ev.pos (by omega) (Ev.neg (by omega) ?_)
    rw [show m = 2 ^ n by omega]
    exact Ev.now _
  | succ d ih =>
    intro m hm
    refine Ev.succ ?_
    simp only [spec_rwCounts.l0]
    rw [shl_one n (by omega)]
    refine Ev.pos (by omega) (Ev.pos (by omega) (Ev.bind (rwMake_ev n m (by omega) (by omega)) (Ev.bind (rwRest_ev (mk n m) (by rw [mk_len]; omega)) (Ev.succ ?_))))
    simp only [spec_rwCounts.l1, cn_len]
    have ht := tk_n (mk n m) (mk_all n m) (by rw [mk_len]; omega)
    rw [mk_len] at ht
    have e : ((rst 1000000 (mk n m)).2 : Int) = (tk (mk n m) : Int) := rfl
    have hcn := cn_rd (tkl n 0 m) (n + 1) (tk (mk n m) : Int) (by omega) (by omega)
    have hle := List.count_le_length (a := (tk (mk n m) : Int)) (l := tkl n 0 m)
    rw [tkl_len] at hle
    rw [e, wrap64_id (x := rd (cn (tkl n 0 m) (n + 1)) (tk (mk n m) : Int) + 1) (by omega) (by omega), cn_step _ _ _ (by omega) (by omega), wrap64_id (x := (m : Int) + 1) (by omega) (by omega)]
    refine Ev.neg (by omega) (Ev.pos (by omega) (Ev.pos (by omega) ?_))
    have := ih (m + 1) (by omega)
    rw [tkl_snoc, Nat.zero_add] at this
    exact this
theorem counts_ev (n : Nat) (hn : 1 ≤ n ∧ n ≤ 12) : Ev (fun k => spec_rwCounts.f k (n : Int)) (cn (tks n) (n + 1)) := by
  unfold spec_rwCounts.f
  rw [wrap64_id (x := (n : Int) + 1) (by omega) (by omega)]
  refine Ev.pos (by omega) (Ev.pos (by omega) ?_)
  have := counts_loop n hn (2 ^ n) 0 (by omega)
  rw [show tkl n 0 0 = [] from rfl, cn_nil] at this
  rw [show ((n : Int) + 1).toNat = n + 1 by omega]
  exact this
def okn (n : Int) : Prop := 1 ≤ n ∧ n ≤ 12
theorem okn_nat {n : Int} (h : okn n) : ∃ j : Nat, n = j ∧ 1 ≤ j ∧ j ≤ 12 := ⟨n.toNat, by unfold okn at h; omega, by unfold okn at h; omega, by unfold okn at h; omega⟩
instance (n : Int) : Decidable (okn n) := by unfold okn; exact inferInstance
/-- The most ticks. -/
def ltv (n : Int) : Int × Bool := if okn n then (mt n.toNat, true) else (0, false)
theorem imLT_ev (n : Int) : Ev (fun k => impl_LongestTicks.f k n) (ltv n) := by
  unfold impl_LongestTicks.f ltv
  simp only [isTraced_eq, Option.bind_some]
  by_cases h : okn n
  · obtain ⟨j, rfl, hj⟩ := okn_nat h
    rw [if_pos h, decide_eq_true (show 1 ≤ (j : Int) ∧ (j : Int) ≤ 12 from h)]
    exact Ev.pos (by first | rfl | trivial) (Ev.bind (byTicks_ev j hj) (Ev.bind (maxT_ev j hj) (Ev.now _)))
  · rw [if_neg h, decide_eq_false (show ¬ (1 ≤ n ∧ n ≤ 12) from h)]
    exact Ev.neg (by decide) (Ev.now _)
theorem cn_top (n : Nat) (hn : 1 ≤ n) (t : Int) (h0 : 0 ≤ t) (h : t < ((n + 1 : Nat) : Int)) : (t = mt n → rd (cn (tks n) (n + 1)) t > 0) ∧ (t > mt n → ¬ rd (cn (tks n) (n + 1)) t > 0) := by
  rw [cn_rd _ _ _ h0 h]
  refine ⟨fun e => ?_, fun e => ?_⟩
  · have := count_pos (mt_mem n)
    rw [e]; omega
  · have : t ∉ tks n := fun hm => by have := mt_top n t hm; omega
    rw [count_none this]; simp
theorem spLT_loop (n : Nat) (hn : 1 ≤ n ∧ n ≤ 12) : ∀ (d i : Nat) (x : Int), i + d = n + 1 → ((i : Int) > mt n → x = mt n) → Ev (fun k => spec_LongestTicks.l0 k x (cn (tks n) (n + 1)) ((cn (tks n) (n + 1)).length : Int) (i : Int)) (mt n, true) := by
  have hb := tks_bd n hn.1 (mt n) (mt_mem n)
  intro d
  induction d with
  | zero =>
    intro i x hi hx
    refine Ev.succ ?_
    simp only [spec_LongestTicks.l0, cn_len]
    rw [hx (by omega)]
    exact Ev.neg (by omega) (Ev.now _)
  | succ d ih =>
    intro i x hi hx
    have ht := cn_top n hn.1 (i : Int) (by omega) (by omega)
    refine Ev.succ ?_
    simp only [spec_LongestTicks.l0, cn_len]
    simp only [cn_len] at ih
    rw [wrap64_id (x := (i : Int) + 1) (by omega) (by omega)]
    refine Ev.pos (by omega) (Ev.pos (by omega) (Ev.pos (by omega) (Ev.iff (fun hc => ?_) (fun hc => ?_))))
    · exact ih (i + 1) (i : Int) (by omega) (fun h => by
        by_cases e : (i : Int) > mt n
        · exact absurd hc (ht.2 e)
        · omega)
    · exact ih (i + 1) x (by omega) (fun h => by
        by_cases e : (i : Int) = mt n
        · exact absurd (ht.1 e) hc
        · exact hx (by omega))
theorem spLT_ev (n : Int) : Ev (fun k => spec_LongestTicks.f k n) (ltv n) := by
  unfold spec_LongestTicks.f ltv
  simp only [rwFew_eq, Option.bind_some]
  by_cases h : okn n
  · obtain ⟨j, rfl, hj⟩ := okn_nat h
    have hb := tks_bd j hj.1 (mt j) (mt_mem j)
    rw [if_pos h, decide_eq_true (show 1 ≤ (j : Int) ∧ (j : Int) ≤ 12 from h)]
    exact Ev.pos (by first | rfl | trivial) (Ev.bind (counts_ev j hj) (spLT_loop j hj (j + 1) 0 0 (by omega) (fun h => by omega)))
  · rw [if_neg h, decide_eq_false (show ¬ (1 ≤ n ∧ n ≤ 12) from h)]
    exact Ev.neg (by decide) (Ev.now _)
theorem index_loop (n : Nat) (hn : n ≤ 12) (q : Nat) (hq : q < 2 ^ n) (h1 : (tk (mk n q) : Int) = mt n) (h2 : ∀ j, j < q → (tk (mk n j) : Int) ≠ mt n) : ∀ (d i : Nat), i + d = q → Ev (fun k => slices_Index_int_int.l0 k (tks n) (mt n) ((tks n).length : Int) (i : Int)) (q : Int) := by
  have hp := two12 n hn
  have hl := tks_len n
  intro d
  induction d with
  | zero =>
    intro i hi
    have hg := tkl_get n (2 ^ n) 0 i (by omega)
    rw [Nat.zero_add] at hg
    refine Ev.succ ?_
    simp only [slices_Index_int_int.l0]
    refine Ev.pos (by omega) (Ev.pos (by omega) (Ev.pos (by omega) (Ev.pos ?_ ?_)))
    · rw [show rd (tks n) (i : Int) = (tk (mk n i) : Int) from hg, show i = q by omega, h1]
    · rw [show i = q by omega]; exact Ev.now _
  | succ d ih =>
    intro i hi
    have hg := tkl_get n (2 ^ n) 0 i (by omega)
    rw [Nat.zero_add] at hg
    refine Ev.succ ?_
    simp only [slices_Index_int_int.l0]
    rw [wrap64_id (x := (i : Int) + 1) (by omega) (by omega)]
    refine Ev.pos (by omega) (Ev.pos (by omega) (Ev.pos (by omega) (Ev.neg ?_ (ih (i + 1) (by omega)))))
    rw [show rd (tks n) (i : Int) = (tk (mk n i) : Int) from hg]
    exact fun e => h2 i (by omega) e.symm
/-- The first row with the most ticks. -/
theorem firstL_ev (n : Int) : ∃ R : ByteArray × Bool, Ev (fun k => impl_FirstLongest.f k n) R ∧ Ev (fun k => spec_FirstLongest.f k n) R ∧ R.2 = (ltv n).2 ∧ (okn n → ∃ q, R.1 = up (mk n.toNat q) ∧ (tk (mk n.toNat q) : Int) = mt n.toNat) := by
  have hlt := spLT_ev n
  unfold impl_FirstLongest.f spec_FirstLongest.f
  simp only [isTraced_eq, Option.bind_some]
  by_cases h : okn n
  · have hv : ltv n = (mt n.toNat, true) := by unfold ltv; rw [if_pos h]
    rw [hv] at hlt ⊢
    obtain ⟨j, rfl, hj⟩ := okn_nat h
    have hp := two12 j hj.2
    rw [Int.toNat_natCast] at hlt ⊢
    obtain ⟨q, q1, q2, q3⟩ := mt_first j
    have hi := index_loop j hj.2 q q1 q2 q3 q 0 (by omega)
    have sp : ∀ (d i : Nat), i + d = q → Ev (fun k => spec_FirstLongest.l0 k (j : Int) (mt j) (i : Int)) (up (mk j q), true) := by
      intro d
      induction d with
      | zero =>
        intro i hi
        refine Ev.succ ?_
        simp only [spec_FirstLongest.l0]
        rw [shl_one j (by omega)]
        refine Ev.pos (by omega) (Ev.pos (by omega) (Ev.bind (rwMake_ev j i (by omega) (by omega)) (Ev.bind (rwRest_ev (mk j i) (by rw [mk_len]; omega)) (Ev.pos ?_ (Ev.bind (rwMake_ev j i (by omega) (by omega)) ?_)))))
        · show (tk (mk j i) : Int) = mt j
          rw [show i = q by omega]; exact q2
        · rw [show i = q by omega]; exact Ev.now _
      | succ d ih =>
        intro i hi
        refine Ev.succ ?_
        simp only [spec_FirstLongest.l0]
        rw [shl_one j (by omega), wrap64_id (x := (i : Int) + 1) (by omega) (by omega)]
        exact Ev.pos (by omega) (Ev.pos (by omega) (Ev.bind (rwMake_ev j i (by omega) (by omega)) (Ev.bind (rwRest_ev (mk j i) (by rw [mk_len]; omega)) (Ev.neg (q3 i (by omega)) (ih (i + 1) (by omega))))))
    refine ⟨(up (mk j q), true), ?_, Ev.bind hlt (Ev.pos (by first | rfl | trivial) (sp q 0 (by omega))), rfl, fun _ => ⟨q, rfl, q2⟩⟩
    rw [decide_eq_true (show 1 ≤ (j : Int) ∧ (j : Int) ≤ 12 from h)]
    refine Ev.pos (by first | rfl | trivial) (Ev.bind (byTicks_ev j hj) (Ev.bind (maxT_ev j hj) (Ev.bind ?_ (Ev.bind (rowOf_ev j q (by omega) (by omega)) (Ev.now _)))))
    unfold slices_Index_int_int.f
    exact hi
  · have hv : ltv n = (0, false) := by unfold ltv; rw [if_neg h]
    rw [hv] at hlt ⊢
    refine ⟨(⟨#[]⟩, false), ?_, Ev.bind hlt (Ev.neg (by decide) (Ev.now _)), rfl, fun h' => absurd h' h⟩
    rw [decide_eq_false (show ¬ (1 ≤ n ∧ n ≤ 12) from h)]
    exact Ev.neg (by decide) (Ev.now _)
def stv (n : Int) : Int × Bool := if okn n then ((tks n.toNat).sum, true) else (0, false)
theorem imST_loop (l : List Int) (hl : l.length ≤ 5000) (hb : ∀ x ∈ l, 0 ≤ x ∧ x ≤ 100) : ∀ (d i : Nat) (a : Int), i + d = l.length → 0 ≤ a → a ≤ 100 * i → Ev (fun k => impl_SumOfTicks.l0 k a l (l.length : Int) (i : Int)) (a + (l.drop i).sum, true) := by
  intro d
  induction d with
  | zero =>
    intro i a hi h0 h1
    refine Ev.succ ?_
    simp only [impl_SumOfTicks.l0]
    rw [List.drop_of_length_le (by omega)]
    exact Ev.neg (by omega) (Ev.const (by simp))
  | succ d ih =>
    intro i a hi h0 h1
    have hx := hb _ (rd_mem (l := l) (j := i) (by omega))
    refine Ev.succ ?_
    simp only [impl_SumOfTicks.l0]
    rw [wrap64_id (x := (i : Int) + 1) (by omega) (by omega), wrap64_id (x := a + rd l (i : Int)) (by omega) (by omega), rd_cons_drop (by omega), List.sum_cons, ← Int.add_assoc]
    exact Ev.pos (by omega) (Ev.pos (by omega) (Ev.pos (by omega) (ih (i + 1) (a + rd l (i : Int)) (by omega) (by omega) (by omega))))
theorem imST_ev (n : Int) : Ev (fun k => impl_SumOfTicks.f k n) (stv n) := by
  unfold impl_SumOfTicks.f stv
  simp only [isTraced_eq, Option.bind_some]
  by_cases h : okn n
  · obtain ⟨j, rfl, hj⟩ := okn_nat h
    have hp := two12 j hj.2
    have := imST_loop (tks j) (by rw [tks_len]; omega) (fun x hx => by have := tks_bd j hj.1 x hx; omega) (tks j).length 0 0 (by omega) (by omega) (by omega)
    rw [List.drop_zero, Int.zero_add] at this
    rw [if_pos h, decide_eq_true (show 1 ≤ (j : Int) ∧ (j : Int) ≤ 12 from h)]
    exact Ev.pos (by first | rfl | trivial) (Ev.bind (byTicks_ev j hj) this)
  · rw [if_neg h, decide_eq_false (show ¬ (1 ≤ n ∧ n ≤ 12) from h)]
    exact Ev.neg (by decide) (Ev.now _)
theorem spST_loop (n : Nat) (hn : 1 ≤ n ∧ n ≤ 12) : ∀ (d i : Nat), i + d = n + 1 → Ev (fun k => spec_SumOfTicks.l0 k (wsum (tks n) i) (cn (tks n) (n + 1)) ((cn (tks n) (n + 1)).length : Int) (i : Int)) (wsum (tks n) (n + 1), true) := by
  have hp := two12 n hn.2
  have hc : csum (tks n) (n + 1) = ((tks n).length : Int) := csum_all _ _ (fun x hx => by have := tks_bd n hn.1 x hx; omega)
  rw [tks_len] at hc
  intro d
  induction d with
  | zero =>
    intro i hi
    refine Ev.succ ?_
    simp only [spec_SumOfTicks.l0, cn_len]
    refine Ev.neg (by omega) ?_
    rw [show i = n + 1 by omega]; exact Ev.now _
  | succ d ih =>
    intro i hi
    have hm := csum_mono (tks n) i (n + 1 - i)
    have hm2 := csum_mono (tks n) (i + 1) (n + 1 - (i + 1))
    rw [show i + (n + 1 - i) = n + 1 by omega] at hm
    rw [show i + 1 + (n + 1 - (i + 1)) = n + 1 by omega] at hm2
    have hw := wsum_bd (tks n) 13 i (by omega)
    have hw2 := wsum_bd (tks n) 13 (i + 1) (by omega)
    have hcd := csum_bd (tks n) i
    have hcd2 := csum_bd (tks n) (i + 1)
    have e1 : rd (cn (tks n) (n + 1)) (i : Int) = ((tks n).count (i : Int) : Int) := cn_rd _ _ _ (by omega) (by omega)
    have hcl := List.count_le_length (a := (i : Int)) (l := tks n)
    rw [tks_len] at hcl
    have hmul : 0 ≤ (i : Int) * ((tks n).count (i : Int) : Int) := Int.mul_nonneg (by omega) (by omega)
    have hmul2 : (i : Int) * ((tks n).count (i : Int) : Int) ≤ 13 * ((tks n).count (i : Int) : Int) := Int.mul_le_mul_of_nonneg_right (by omega) (by omega)
    refine Ev.succ ?_
    simp only [spec_SumOfTicks.l0, cn_len]
    simp only [cn_len] at ih
    rw [e1, wrap64_id (x := (i : Int) + 1) (by omega) (by omega), wrap64_id (x := (i : Int) * ((tks n).count (i : Int) : Int)) (by omega) (by omega), wrap64_id (x := wsum (tks n) i + (i : Int) * ((tks n).count (i : Int) : Int)) (by omega) (by omega)]
    exact Ev.pos (by omega) (Ev.pos (by omega) (Ev.pos (by omega) (ih (i + 1) (by omega))))
theorem spST_ev (n : Int) : Ev (fun k => spec_SumOfTicks.f k n) (stv n) := by
  unfold spec_SumOfTicks.f stv
  simp only [rwFew_eq, Option.bind_some]
  by_cases h : okn n
  · obtain ⟨j, rfl, hj⟩ := okn_nat h
    have := spST_loop j hj (j + 1) 0 (by omega)
    rw [wsum_all (tks j) (j + 1) (fun x hx => by have := tks_bd j hj.1 x hx; omega)] at this
    rw [if_pos h, decide_eq_true (show 1 ≤ (j : Int) ∧ (j : Int) ≤ 12 from h)]
    exact Ev.pos (by first | rfl | trivial) (Ev.bind (counts_ev j hj) this)
  · rw [if_neg h, decide_eq_false (show ¬ (1 ≤ n ∧ n ≤ 12) from h)]
    exact Ev.neg (by decide) (Ev.now _)
def cbv (n t : Int) : Int × Bool := if okn n ∧ 0 ≤ t ∧ t ≤ 1000 then (((tks n.toNat).count t : Int), true) else (0, false)
theorem imCB_loop (t : Int) (l : List Int) (hl : l.length ≤ 5000) : ∀ (d i : Nat) (a : Int), i + d = l.length → 0 ≤ a → a ≤ i → Ev (fun k => impl_CountByTicks.l0 k t a l (l.length : Int) (i : Int)) (a + ((l.drop i).count t : Int), true) := by
  intro d
  induction d with
  | zero =>
    intro i a hi h0 h1
    refine Ev.succ ?_
    simp only [impl_CountByTicks.l0]
    rw [List.drop_of_length_le (by omega)]
    exact Ev.neg (by omega) (Ev.const (by simp))
  | succ d ih =>
    intro i a hi h0 h1
    refine Ev.succ ?_
    simp only [impl_CountByTicks.l0]
    rw [wrap64_id (x := (i : Int) + 1) (by omega) (by omega), wrap64_id (x := a + 1) (by omega) (by omega), rd_cons_drop (by omega), List.count_cons]
    refine Ev.pos (by omega) (Ev.pos (by omega) (Ev.pos (by omega) (Ev.iff (fun hc => ?_) (fun hc => ?_))))
    · have := ih (i + 1) (a + 1) (by omega) (by omega) (by omega)
      rw [if_pos (by simp [hc])]
      have e : a + (((l.drop (i + 1)).count t + 1 : Nat) : Int) = a + 1 + ((l.drop (i + 1)).count t : Int) := by omega
      rw [e]; exact this
    · rw [if_neg (by simpa using hc), Nat.add_zero]
      exact ih (i + 1) a (by omega) (by omega) (by omega)
theorem imCB_ev (n t : Int) : Ev (fun k => impl_CountByTicks.f k n t) (cbv n t) := by
  unfold impl_CountByTicks.f cbv
  simp only [isTraced_eq, in_eq, Option.bind_some]
  by_cases h : okn n
  · obtain ⟨j, rfl, hj⟩ := okn_nat h
    have hp := two12 j hj.2
    rw [decide_eq_true (show 1 ≤ (j : Int) ∧ (j : Int) ≤ 12 from h)]
    refine Ev.pos (by first | rfl | trivial) (Ev.succ ?_)
    simp only [impl_CountByTicks.j0]
    by_cases ht : 0 ≤ t ∧ t ≤ 1000
    · rw [if_pos ⟨h, ht⟩, decide_eq_true ht]
      have := imCB_loop t (tks j) (by rw [tks_len]; omega) (tks j).length 0 0 (by omega) (by omega) (by omega)
      rw [List.drop_zero, Int.zero_add] at this
      exact Ev.neg (by decide) (Ev.bind (byTicks_ev j hj) this)
    · rw [if_neg (fun h => ht h.2), decide_eq_false ht]
      exact Ev.pos (by first | rfl | trivial) (Ev.now _)
  · rw [if_neg (fun h' => h h'.1), decide_eq_false (show ¬ (1 ≤ n ∧ n ≤ 12) from h)]
    refine Ev.neg (by decide) (Ev.succ ?_)
    simp only [impl_CountByTicks.j0]
    exact Ev.pos (by first | rfl | trivial) (Ev.now _)
theorem spCB_ev (n t : Int) : Ev (fun k => spec_CountByTicks.f k n t) (cbv n t) := by
  unfold spec_CountByTicks.f cbv
  simp only [rwFew_eq, l1In_eq, Option.bind_some]
  by_cases h : okn n
  · obtain ⟨j, rfl, hj⟩ := okn_nat h
    rw [decide_eq_true (show 1 ≤ (j : Int) ∧ (j : Int) ≤ 12 from h)]
    refine Ev.pos (by first | rfl | trivial) (Ev.succ ?_)
    simp only [spec_CountByTicks.j0]
    by_cases ht : 0 ≤ t ∧ t ≤ 1000
    · rw [if_pos ⟨h, ht⟩, decide_eq_true ht]
      refine Ev.neg (by decide) (Ev.bind (counts_ev j hj) ?_)
      simp only [cn_len]
      refine Ev.iff (fun hc => ?_) (fun hc => ?_)
      · have : t ∉ tks j := fun hm => by have := tks_bd j hj.1 t hm; omega
        rw [Int.toNat_natCast, count_none this]
        exact Ev.now _
      · refine Ev.pos ht.1 (Ev.pos (by omega) ?_)
        rw [cn_rd _ _ _ ht.1 (by omega)]
        exact Ev.now _
    · rw [if_neg (fun h => ht h.2), decide_eq_false ht]
      exact Ev.pos (by first | rfl | trivial) (Ev.now _)
  · rw [if_neg (fun h' => h h'.1), decide_eq_false (show ¬ (1 ≤ n ∧ n ≤ 12) from h)]
    refine Ev.neg (by decide) (Ev.succ ?_)
    simp only [spec_CountByTicks.j0]
    exact Ev.pos (by first | rfl | trivial) (Ev.now _)
def crv (n : Int) : Int × Bool := if 1 ≤ n ∧ n ≤ 60 then (n + 1, true) else (0, false)
theorem imCR_eq (n : Int) : impl_CountAtRest.f n = some (crv n) := by
  unfold impl_CountAtRest.f crv
  simp only [in_eq, Option.bind_some, decide_eq_true_eq]
  by_cases h : 1 ≤ n ∧ n ≤ 60
  · rw [if_pos h, if_pos h, wrap64_id (by omega) (by omega)]
  · rw [if_neg h, if_neg h]
theorem spCR_eq (n : Int) : spec_CountAtRest.f n = some (crv n) := by
  unfold spec_CountAtRest.f crv
  simp only [l1In_eq, Option.bind_some, decide_eq_true_eq]
  by_cases h : 1 ≤ n ∧ n ≤ 60
  · rw [if_pos h, if_pos h, wrap64_id (by omega) (by omega)]
  · rw [if_neg h, if_neg h]
theorem imTR_up (l : List UInt8) (hg : rgood l = true) : Ev (fun k => impl_TicksToRest.f k (up l)) ((tk l : Int), true) := by
  have hl := rgood_len hg
  have hs := up_size l
  unfold impl_TicksToRest.f
  simp only [isRow_eq (up l) (by omega), Option.bind_some, L_mk]
  exact Ev.pos hg (Ev.bind (ticks_ev l (by omega)) (Ev.now _))
theorem imRest_eq (s : ByteArray) (hs : s.size ≤ 1000000000) (hg : rgood (L s) = true) : impl_IsAtRest.f s = some (!fac (L s), true) := by
  have hl := rgood_len hg
  have e0 : s = up (L s) := up_L s
  unfold impl_IsAtRest.f
  rw [isRow_eq s (by omega)]
  simp only [Option.bind_some]
  rw [if_pos hg, e0, isAtRest_eq (L s) (by omega), L_mk]
  rfl
theorem imTick_up (l : List UInt8) (hg : rgood l = true) : impl_TickRow.f (up l) = some (up (twk l), true) := by
  have hl := rgood_len hg
  have hs := up_size l
  unfold impl_TickRow.f
  rw [isRow_eq (up l) (by omega)]
  simp only [Option.bind_some, L_mk]
  rw [if_pos hg, tick_eq l (by omega)]
  rfl
theorem rb_l1 (n : Nat) (hn : 1 ≤ n ∧ n ≤ 12) (fr : ByteArray) (hf : fr.size = n) : ∀ (d i : Nat), i + d = n + 1 →
    Ev (fun k => laws_FnRowsBefore.l1 k (n : Int) (mt n) fr (tks n).sum (mt n) true (csum (tks n) i) (wsum (tks n) i) (i : Int)) true := by
  have hp := two12 n hn.2
  have hb := tks_bd n hn.1 (mt n) (mt_mem n)
  have hall : ∀ x ∈ tks n, 0 ≤ x ∧ x < ((n + 1 : Nat) : Int) := fun x hx => by have := tks_bd n hn.1 x hx; omega
  have hc : csum (tks n) (n + 1) = ((2 ^ n : Nat) : Int) := by rw [csum_all _ _ hall, tks_len]
  have hw : wsum (tks n) (n + 1) = (tks n).sum := wsum_all _ _ hall
  intro d
  induction d with
  | zero =>
    intro i hi
    refine Ev.succ ?_
    simp only [laws_FnRowsBefore.l1]
    rw [shl_one n (by omega), show i = n + 1 by omega, hc, hw]
    exact Ev.neg (by omega) (Ev.pos (by first | rfl | trivial) (Ev.pos (by first | rfl | trivial) (Ev.pos (by omega) (Ev.pos (by omega) (Ev.pos (by first | rfl | trivial) (Ev.pos (by first | rfl | trivial) (Ev.neg (by omega) (Ev.now _))))))))
  | succ d ih =>
    intro i hi
    have hm := csum_mono (tks n) i (n + 1 - i)
    have hm2 := csum_mono (tks n) (i + 1) (n + 1 - (i + 1))
    rw [show i + (n + 1 - i) = n + 1 by omega] at hm
    rw [show i + 1 + (n + 1 - (i + 1)) = n + 1 by omega] at hm2
    have hw1 := wsum_bd (tks n) 13 i (by omega)
    have hw2 := wsum_bd (tks n) 13 (i + 1) (by omega)
    have hcd := csum_bd (tks n) i
    have hcd2 := csum_bd (tks n) (i + 1)
    have hmul : 0 ≤ (i : Int) * ((tks n).count (i : Int) : Int) := Int.mul_nonneg (by omega) (by omega)
    have hcl := List.count_le_length (a := (i : Int)) (l := tks n)
    rw [tks_len] at hcl
    have hmul2 : (i : Int) * ((tks n).count (i : Int) : Int) ≤ 13 * ((tks n).count (i : Int) : Int) := Int.mul_le_mul_of_nonneg_right (by omega) (by omega)
    have hcb := imCB_ev (n : Int) (i : Int)
    have hv : cbv (n : Int) (i : Int) = (((tks n).count (i : Int) : Int), true) := by
      unfold cbv okn; rw [if_pos ⟨by omega, by omega, by omega⟩, Int.toNat_natCast]
    rw [hv] at hcb
    have hz : i = 0 → ((tks n).count (i : Int) : Int) = (n : Int) + 1 := by
      rintro rfl
      have := tkl_zero n (2 ^ n) 0
      rw [rc_all] at this
      show ((tkl n 0 (2 ^ n)).count 0 : Int) = _
      rw [this]; push_cast; rfl
    have hgt : (i : Int) > mt n → ((tks n).count (i : Int) : Int) = 0 := fun h => by
      have : (i : Int) ∉ tks n := fun hm => by have := mt_top n _ hm; omega
      rw [count_none this]; rfl
    have heq : (i : Int) = mt n → ¬ ((tks n).count (i : Int) : Int) < 1 := fun h => by
      have := count_pos (mt_mem n)
      rw [h]; omega
    refine Ev.succ ?_
    simp only [laws_FnRowsBefore.l1]
    have hnext := ih (i + 1) (by omega)
    rw [csum, wsum] at hnext
    rw [csum] at hm2 hcd2
    rw [wsum, csum] at hw2
    refine Ev.pos (by omega) (Ev.bind hcb (Ev.pos (by first | rfl | trivial) ?_))
    simp only
    rw [wrap64_id (x := (i : Int) + 1) (by omega) (by omega), wrap64_id (x := (n : Int) + 1) (by omega) (by omega), wrap64_id (x := (i : Int) * ((tks n).count (i : Int) : Int)) (by omega) (by omega), wrap64_id (x := csum (tks n) i + ((tks n).count (i : Int) : Int)) (by omega) (by omega), wrap64_id (x := wsum (tks n) i + (i : Int) * ((tks n).count (i : Int) : Int)) (by omega) (by omega)]
    have last : Ev (fun k => if (i : Int) = 0 then (if ((tks n).count (i : Int) : Int) = (n : Int) + 1 then laws_FnRowsBefore.l1 k (n : Int) (mt n) fr (tks n).sum (mt n) true (csum (tks n) i + ((tks n).count (i : Int) : Int)) (wsum (tks n) i + (i : Int) * ((tks n).count (i : Int) : Int)) ((i : Int) + 1) else some false) else laws_FnRowsBefore.l1 k (n : Int) (mt n) fr (tks n).sum (mt n) true (csum (tks n) i + ((tks n).count (i : Int) : Int)) (wsum (tks n) i + (i : Int) * ((tks n).count (i : Int) : Int)) ((i : Int) + 1)) true :=
      Ev.iff (fun h => Ev.pos (hz (by omega)) hnext) (fun _ => hnext)
    refine Ev.iff (fun h => Ev.pos (hgt h) (Ev.iff (fun h2 => Ev.neg (heq h2) last) (fun _ => last))) (fun _ => Ev.iff (fun h2 => Ev.neg (heq h2) last) (fun _ => last))
theorem rb_j2 (more : List Int) (hm : ∀ x ∈ more, 0 ≤ x ∧ x ≤ 255) : Ev (fun k => laws_FnRowsBefore.j2 k more) true := by
  obtain ⟨n, e1, n0, n1⟩ := drawLT_ok more hm
  obtain ⟨m, t, e2, m0, m1⟩ := drawCBT_ok more hm
  obtain ⟨r, e3, r0, r1⟩ := drawCAR_ok more hm
  obtain ⟨R, f1, f2, f3, f4⟩ := firstL_ev n
  obtain ⟨R1, R2⟩ := R
  simp only at f3 f4
  refine Ev.succ ?_
  simp only [laws_FnRowsBefore.j2]
  rw [e1, e2, e3]
  simp only [Option.bind_some, imCR_eq, spCR_eq]
  refine Ev.bind (imLT_ev n) (Ev.bind (spLT_ev n) (Ev.bind f1 (Ev.bind f2 (Ev.bind (imST_ev n) (Ev.bind (spST_ev n) (Ev.bind (imCB_ev m t) (Ev.bind (spCB_ev m t) ?_)))))))
  have hst : (stv n).2 = (ltv n).2 := by unfold stv ltv; split <;> rfl
  refine Ev.neg (by simp) (Ev.pos (by first | rfl | trivial) (Ev.neg (by simp) (Ev.pos (by first | rfl | trivial) (Ev.neg (by simp) (Ev.pos (by first | rfl | trivial) (Ev.neg (by simp) (Ev.pos (by first | rfl | trivial) (Ev.neg (by simp) (Ev.pos (by first | rfl | trivial) (Ev.neg (by simp [f3]) (Ev.neg (by simp [hst]) ?_)))))))))))
  have j3 : Ev (fun k => laws_FnRowsBefore.j3 k n (ltv n).1 (ltv n).2 R1 (stv n).1 false) true := by
    refine Ev.succ ?_
    simp only [laws_FnRowsBefore.j3]
    refine Ev.neg (by decide) ?_
    by_cases h : okn n
    · obtain ⟨q, q1, q2⟩ := f4 h
      obtain ⟨j, rfl, hj⟩ := okn_nat h
      have a1 : ltv (j : Int) = (mt j, true) := by unfold ltv; rw [if_pos h, Int.toNat_natCast]
      have a2 : stv (j : Int) = ((tks j).sum, true) := by unfold stv; rw [if_pos h, Int.toNat_natCast]
      rw [Int.toNat_natCast] at q1 q2
      rw [a1, a2, q1]
      have tr := imTR_up (mk j q) (mk_good j q (by omega))
      rw [q2] at tr
      refine Ev.pos (by first | rfl | trivial) (Ev.bind tr ?_)
      exact rb_l1 j hj (up (mk j q)) (by rw [up_size, mk_len]) (j + 1) 0 (by omega)
    · have a1 : ltv n = (0, false) := by unfold ltv; rw [if_neg h]
      rw [a1]
      exact Ev.neg (by decide) (Ev.now _)
  refine Ev.iff (fun h => ?_) (fun _ => j3)
  have : ((crv r).1 != wrap64 (r + 1)) = false := by
    rw [wrap64_id (by omega) (by omega)]
    unfold crv at h ⊢
    split at h
    · next hr => rw [if_pos hr]; simp
    · cases h
  rw [this]
  exact j3
theorem rb_l0 (more : List Int) (hm : ∀ x ∈ more, 0 ≤ x ∧ x ≤ 255) (r : ByteArray) (n : Nat) (hn : 1 ≤ n ∧ n ≤ 12) (B : List ByteArray) (hB : B.length ≤ 5000) (hx : ∀ x ∈ B, ∃ q, x = up (mk n q) ∧ twk (mk n q) = L r) (hr : B.Pairwise (fun a b => Op.bytesLess a.toList b.toList = true)) :
    ∀ (d i : Nat), i + d = B.length → Ev (fun k => laws_FnRowsBefore.l0 k more r B B (B.length : Int) (i : Int)) true := by
  intro d
  induction d with
  | zero =>
    intro i hi
    refine Ev.succ ?_
    simp only [laws_FnRowsBefore.l0]
    exact Ev.neg (by omega) (rb_j2 more hm)
  | succ d ih =>
    intro i hi
    have hlt : i < B.length := by omega
    obtain ⟨q, q1, q2⟩ := hx B[i] (List.getElem_mem hlt)
    have e := rdS_get hlt
    refine Ev.succ ?_
    simp only [laws_FnRowsBefore.l0]
    rw [e]
    have ht : impl_TickRow.f B[i] = some (up (L r), true) := by rw [q1, imTick_up _ (mk_good n q (by omega)), q2]
    rw [ht]
    simp only [Option.bind_some]
    rw [wrap64_id (x := (i : Int) + 1) (by omega) (by omega), wrap64_id (x := (i : Int) - 1) (by omega) (by omega)]
    refine Ev.pos (by omega) (Ev.pos (by omega) (Ev.pos (by omega) (Ev.pos (by first | rfl | trivial) (Ev.pos (by first | rfl | trivial) (Ev.iff (fun h => ?_) (fun _ => ih (i + 1) (by omega)))))))
    obtain ⟨j, rfl⟩ : ∃ j, i = j + 1 := ⟨i - 1, by omega⟩
    have e2 : rdOf ByteArray.empty B (((j + 1 : Nat) : Int) - 1) = B[j] := by rw [show (((j + 1 : Nat) : Int) - 1) = (j : Int) by omega]; exact rdS_get (by omega)
    rw [e2]
    refine Ev.pos (by omega) (Ev.pos (by omega) (Ev.pos ?_ (ih (j + 1 + 1) (by omega))))
    exact List.pairwise_iff_getElem.1 hr j (j + 1) (by omega) hlt (by omega)
theorem FnRowsBefore : StatFnRowsBefore := by
  intro code more hl0 hc hl1 hm
  refine Ev.get ?_
  unfold laws_FnRowsBefore.f laws_big.f
  obtain ⟨r, e1, hs⟩ := drawRB_ok code hc
  have j2 := rb_j2 more hm
  by_cases hb : (code.length : Int) > 1048576
  · simp only [if_pos hb, Option.bind_some]
    exact Ev.pos (by first | rfl | trivial) (Ev.now _)
  simp only [if_neg hb, Option.bind_some]
  refine Ev.iff (fun _ => Ev.now _) (fun _ => Ev.bind e1 ?_)
  have h1 := imRB_ev r (by omega)
  have h2 := spRB_ev r (by omega)
  have h3 := imHB_ev r (by omega)
  have h4 := spHB_ev r (by omega)
  refine Ev.bind h1 (Ev.bind h2 (Ev.bind h3 (Ev.bind h4 ?_)))
  have hz := isize_L r
  by_cases hg : rgood (L r) = true ∧ (L r).length ≤ 12
  · have hl := rgood_len hg.1
    have hv : rbv (L r) = (bfr (L r).length (L r) 0 (2 ^ (L r).length), true) := by unfold rbv; rw [if_pos hg]
    rw [hv]
    have hlen := bfr_len (L r).length (L r) (2 ^ (L r).length) 0
    have hp := two12 (L r).length hg.2
    have hlen' : (bfr (L r).length (L r) 0 (2 ^ (L r).length)).length ≤ 1000000000 := by omega
    refine Ev.neg (by simp) (Ev.bind (mTexts_ev _ hlen') (Ev.pos (by first | rfl | trivial) (Ev.neg (by simp) (Ev.neg (by simp) (Ev.neg (by simp) (Ev.pos (by first | rfl | trivial) ?_))))))
    rw [imRest_eq r (by omega) hg.1]
    simp only [Option.bind_some]
    refine Ev.neg (by simp) (Ev.pos (by first | rfl | trivial) ?_)
    have j0 : Ev (fun k => laws_FnRowsBefore.j0 k more r (bfr (L r).length (L r) 0 (2 ^ (L r).length)) false) true := by
      refine Ev.succ ?_
      simp only [laws_FnRowsBefore.j0]
      refine Ev.neg (by decide) (rb_l0 more hm r (L r).length ⟨hl.1, hg.2⟩ _ (by omega) (fun x hx => ?_) (bfr_ris _ _ _ _ (by omega)) (bfr (L r).length (L r) 0 (2 ^ (L r).length)).length 0 (by omega))
      obtain ⟨q, _, _, q3, q4⟩ := (bfr_mem _ _ _ _ _).1 hx
      exact ⟨q, q4, q3⟩
    refine Ev.iff (fun h => ?_) (fun _ => j0)
    have hf : fac (L r) = false := by simpa using h
    obtain ⟨q, q1, q2⟩ := mk_surj (L r).length (L r) rfl (rgood_all hg.1)
    have hmem : r ∈ bfr (L r).length (L r) 0 (2 ^ (L r).length) := (bfr_mem _ _ _ _ _).2 ⟨q, by omega, by omega, by rw [q2]; exact twk_rest _ hf, by rw [q2, ← up_L]⟩
    exact Ev.bind (mText_ev r _ (by omega) hmem) j0
  · have hv : rbv (L r) = ([], false) := by unfold rbv; rw [if_neg hg]
    rw [hv]
    exact Ev.neg (by simp) (Ev.bind (mTexts_ev [] (by simp)) (Ev.pos (by first | rfl | trivial) (Ev.neg (by simp) (Ev.neg (by simp) (Ev.neg (by simp) (Ev.neg (by decide) j2))))))

end Go.Proofs.YtgfoookdmcffpaaDoor.Pure
