/- The law FnRowsRest, pure: what the printed functions answer, and that it is what the law asks. No condition. -/
import Derived.Test.YtolalphffodkdaaGreatDoorStatFnRowsRest
import Derived.Test.YtolalphffodkdaaGreatDoorPlAllFnRowsRest
namespace Go.Proofs.YtolalphffodkdaaGreatDoor.Pure
open Go.RowKit Go.Proofs.YtolalphffodkdaaGreatDoor.PFnRowsRest Go.Proofs.YtolalphffodkdaaGreatDoorW.PrintWords Go.Proofs.YtolalphffodkdaaGreatDoorW.PrintMore Go.Proofs.YtolalphffodkdaaGreatDoor.Opn Go.Proofs.YtolalphffodkdaaGreatDoor.Pl
set_option linter.unusedVariables false
set_option linter.unusedSimpArgs false
theorem in_eq (a b c : Int) : impl_in.f a b c = some (decide (b ≤ a ∧ a ≤ c)) := by
  unfold impl_in.f; by_cases h : b ≤ a <;> simp [h]
theorem l1In_eq (a b c : Int) : spec_l1In.f a b c = some (decide (b ≤ a ∧ a ≤ c)) := by
  unfold spec_l1In.f; by_cases h : b ≤ a <;> simp [h]
theorem low8 (y : Int) : 0 ≤ wrap64 (Go.bits .and .u64 ((IntKind.u64.wrap y) / 1099511627776) 255) ∧ wrap64 (Go.bits .and .u64 ((IntKind.u64.wrap y) / 1099511627776) 255) ≤ 255 := by
  have hw : IntKind.u64.wrap y = y % 18446744073709551616 := by simp [IntKind.wrap, IntKind.bits, IntKind.signed]
  rw [hw]
  have hx0 : 0 ≤ y % 18446744073709551616 / 1099511627776 := by omega
  have hx1 : y % 18446744073709551616 / 1099511627776 < 2 ^ 24 := by omega
  have hm := bits_mask .u64 24 (by decide) (fun n h0 h1 => by simp [IntKind.wrap, IntKind.bits, IntKind.signed]; omega) 8 (by decide) _ hx0 hx1
  have e : (2 : Int) ^ 8 - 1 = 255 := by decide
  simp only [e] at hm
  rw [hm, wrap64_id (by omega) (by omega)]
  omega
theorem next_ok (code : List Int) (hc : ∀ x ∈ code, 0 ≤ x ∧ x ≤ 255) (p s : Int) (h0 : 0 ≤ p) (h1 : p ≤ 1000000) : ∃ v s', spec_l1Cur_next.f code p s = some (v, p + 1, s') ∧ 0 ≤ v ∧ v ≤ 255 := by
  unfold spec_l1Cur_next.f
  rw [wrap64_id (x := p + 1) (by omega) (by omega)]
  by_cases c1 : p < (code.length : Int)
  · have hm := hc _ (rd_mem (l := code) (j := p.toNat) (by omega))
    rw [show ((p.toNat : Nat) : Int) = p by omega] at hm
    rw [if_pos c1, if_pos h0, wrap64_id (x := rd code p) (by omega) (by omega)]
    by_cases c2 : p + 1 ≤ (code.length : Int)
    · rw [if_pos c2]; exact ⟨_, _, rfl, hm.1, hm.2⟩
    · rw [if_neg c2]; exact ⟨_, _, rfl, (low8 _).1, (low8 _).2⟩
  · rw [if_neg c1]
    by_cases c2 : p + 1 ≤ (code.length : Int)
    · rw [if_pos c2]; exact ⟨_, _, rfl, by omega, by omega⟩
    · rw [if_neg c2]; exact ⟨_, _, rfl, (low8 _).1, (low8 _).2⟩
theorem pick_ok (code : List Int) (hc : ∀ x ∈ code, 0 ≤ x ∧ x ≤ 255) (p s n : Int) (h0 : 0 ≤ p) (h1 : p ≤ 999990) : ∃ v p' s', spec_l1Cur_pick.f code p s n = some (v, p', s') ∧ 0 ≤ v ∧ (v < n ∨ v = 0) ∧ p ≤ p' ∧ p' ≤ p + 2 := by
  unfold spec_l1Cur_pick.f
  by_cases c1 : n ≤ 1
  · rw [if_pos c1]; exact ⟨0, p, s, rfl, by omega, .inr rfl, by omega, by omega⟩
  · rw [if_neg c1]
    obtain ⟨v, s1, e1, v0, v1⟩ := next_ok code hc p s h0 (by omega)
    rw [e1]
    simp only [Option.bind_some]
    by_cases c2 : n > 200
    · rw [if_pos c2]
      obtain ⟨u, s2, e2, u0, u1⟩ := next_ok code hc (p + 1) s1 (by omega) (by omega)
      rw [e2]
      simp only [Option.bind_some]
      rw [if_neg (show ¬ n = 0 by omega), wrap64_id (x := v * 256) (by omega) (by omega), wrap64_id (x := v * 256 + u) (by omega) (by omega), tmod_nn (by omega)]
      exact ⟨_, _, _, rfl, Int.emod_nonneg _ (by omega), .inl (Int.emod_lt_of_pos _ (by omega)), by omega, by omega⟩
    · rw [if_neg c2, if_neg (show ¬ n = 0 by omega), tmod_nn (by omega)]
      exact ⟨_, _, _, rfl, Int.emod_nonneg _ (by omega), .inl (Int.emod_lt_of_pos _ (by omega)), by omega, by omega⟩
theorem among_ok (code : List Int) (hc : ∀ x ∈ code, 0 ≤ x ∧ x ≤ 255) (p s : Int) (l : List Int) (hl : 0 < l.length) (h0 : 0 ≤ p) (h1 : p ≤ 999990) : ∃ v p' s', spec_l1Cur_among.f code p s l = some (v, p', s') ∧ v ∈ l ∧ p ≤ p' ∧ p' ≤ p + 2 := by
  unfold spec_l1Cur_among.f
  obtain ⟨v, p', s', e, v0, v1, q0, q1⟩ := pick_ok code hc p s (l.length : Int) h0 h1
  rw [e]
  simp only [Option.bind_some]
  have hv : v < (l.length : Int) := by omega
  rw [if_pos v0, if_pos hv]
  have := rd_mem (l := l) (j := v.toNat) (by omega)
  rw [show ((v.toNat : Nat) : Int) = v by omega] at this
  exact ⟨_, _, _, rfl, this, q0, q1⟩
theorem one_ok (code : List Int) (hc : ∀ x ∈ code, 0 ≤ x ∧ x ≤ 255) (p s n : Int) (h0 : 0 ≤ p) (h1 : p ≤ 999990) : ∃ v p' s', spec_l1Cur_one.f code p s n = some (v, p', s') ∧ p ≤ p' ∧ p' ≤ p + 2 := by
  unfold spec_l1Cur_one.f
  obtain ⟨v, p', s', e, _, _, q0, q1⟩ := pick_ok code hc p s n h0 h1
  rw [e]
  exact ⟨_, _, _, rfl, q0, q1⟩
theorem rwGood_loop (s : ByteArray) (hs : s.size ≤ 140737488351232) : ∀ (d i : Nat), i + d = (L s).length → Ev (fun k => spec_rwGood.l0 k s (i : Int)) (((L s).drop i).all sgn) := by
  have hl := size_L s
  intro d
  induction d with
  | zero =>
    intro i hi
    refine Ev.succ ?_
    simp only [spec_rwGood.l0]
    refine Ev.neg (by omega) (Ev.const ?_)
    rw [List.drop_of_length_le (by omega)]; rfl
  | succ d ih =>
    intro i hi
    have hlt : i < (L s).length := by omega
    refine Ev.succ ?_
    simp only [spec_rwGood.l0]
    rw [List.drop_eq_getElem_cons hlt, List.all_cons, wrap64_id (x := (i : Int) + 1) (by omega) (by omega)]
    refine Ev.pos (by omega) (Ev.pos (by omega) ?_)
    refine Ev.iff (fun hc => ?_) (fun hc => Ev.iff (fun hd => ?_) (fun hd => ?_))
    · rw [bt60 s i hlt] at hc
      rw [hc]; exact ih (i + 1) (by omega)
    · rw [bt62 s i hlt] at hd
      rw [hd]; exact ih (i + 1) (by omega)
    · rw [bt60 s i hlt] at hc
      rw [bt62 s i hlt] at hd
      have e : sgn (L s)[i] = false := by unfold sgn; rw [beq_eq_false_iff_ne.2 hc, beq_eq_false_iff_ne.2 hd]; rfl
      rw [e]; exact Ev.now _
theorem rwGood_ev (s : ByteArray) (hs : s.size ≤ 140737488351232) : Ev (fun k => spec_rwGood.f k s) (rgood (L s)) := by
  have hl := size_L s
  unfold spec_rwGood.f rgood
  simp only [l1In_eq, Option.bind_some]
  refine Ev.iff (fun hc => ?_) (fun hc => ?_)
  · rw [decide_eq_true_eq] at hc
    rw [decide_eq_true (by omega), Bool.true_and]
    have := rwGood_loop s hs (L s).length 0 (by omega)
    rw [List.drop_zero] at this
    exact this
  · rw [decide_eq_true_eq] at hc
    rw [decide_eq_false (by omega), Bool.false_and]
    exact Ev.now _
theorem isRow_eq (s : ByteArray) (hs : s.size ≤ 140737488351232) : impl_isRow.f s = some (rgood (L s)) := by
  have hl := size_L s
  unfold impl_isRow.f rgood strings_Trim.f
  simp only [in_eq, Option.bind_some]
  by_cases h : 1 ≤ (L s).length ∧ (L s).length ≤ 60
  · rw [if_pos (by rw [decide_eq_true_eq]; omega), if_pos ⟨by omega, by decide, by decide⟩, decide_eq_true h, Bool.true_and, Option.bind_some, toList_L, L_mk]
    congr 1
    by_cases ha : (L s).all sgn = true
    · rw [ha]
      exact beq_iff_eq.2 ((trim_sgn (L s)).2 ha)
    · rw [Bool.not_eq_true] at ha
      rw [ha, beq_eq_false_iff_ne]
      intro e
      have := (trim_sgn (L s)).1 e
      rw [ha] at this
      exact absurd this (by decide)
  · rw [if_neg (by rw [decide_eq_true_eq]; omega), decide_eq_false h, Bool.false_and]
theorem isAtRest_eq (l : List UInt8) (h : l.length ≤ 1000) : impl_isAtRest.f (up l) = some (!fac l) := by
  have hs := up_size l
  unfold impl_isAtRest.f strings_Contains.f
  rw [if_pos (by omega), Option.bind_some]
  show some (!(Lib.contains (L (up l)) [62, 60])) = _
  rw [L_mk, fac_index]
theorem tick_eq (l : List UInt8) (h : l.length ≤ 1000) : impl_tick.f (up l) = some (up (twk l)) := by
  have hs := up_size l
  unfold impl_tick.f strings_ReplaceAll.f
  have hc : Lib.countB (up l) ⟨#[62, 60]⟩ ≤ l.length + 1 := by
    have := Lib.count_le (L (up l)) [62, 60]
    rw [L_mk] at this
    exact Nat.le_trans (by rw [Lib.countB]; show Lib.count (L (up l)) [62, 60] ≤ _; rw [L_mk]; exact Nat.le_refl _) this
  have e2 : (⟨#[60, 62]⟩ : ByteArray).size = 2 := rfl
  rw [if_pos ⟨by omega, by decide, by rw [e2]; omega⟩, Option.bind_some]
  show some (up (Lib.replaceAll (L (up l)) [62, 60] [60, 62])) = _
  rw [L_mk, replaceAll_twk]
theorem rwPairs_loop (l : List UInt8) (h : l.length ≤ 1000) : ∀ (d i : Nat) (acc : List Int), i + d = l.length → acc.length ≤ i → Ev (fun k => spec_rwPairs.l0 k (up l) acc (i : Int)) (acc ++ prs i (l.drop i)) := by
  intro d
  induction d with
  | zero =>
    intro i acc hi ha
    refine Ev.succ ?_
    simp only [spec_rwPairs.l0, up_isize]
    rw [wrap64_id (x := (i : Int) + 1) (by omega) (by omega), prs_one l i (by omega), List.append_nil]
    exact Ev.neg (by omega) (Ev.now _)
  | succ d ih =>
    intro i acc hi ha
    refine Ev.succ ?_
    simp only [spec_rwPairs.l0, up_isize]
    rw [wrap64_id (x := (i : Int) + 1) (by omega) (by omega)]
    refine Ev.iff (fun h1 => ?_) (fun h1 => ?_)
    · rw [prs_two l i (by omega)]
      refine Ev.pos (by omega) (Ev.pos (by omega) ?_)
      have h2 : i + 1 < l.length := by omega
      have e1 := ih (i + 1) acc (by omega) (by omega)
      refine Ev.iff (fun c1 => ?_) (fun c1 => ?_)
      · rw [up62 l i (by omega)] at c1
        refine Ev.pos (by omega) (Ev.iff (fun c2 => ?_) (fun c2 => ?_))
        · rw [show ((i : Int) + 1) = ((i + 1 : Nat) : Int) by omega, up60 l (i + 1) h2] at c2
          refine Ev.pos (by omega) ?_
          rw [if_pos ⟨c1, c2⟩]
          have := ih (i + 1) (acc ++ [(i : Int)]) (by omega) (by simp; omega)
          rw [← List.append_assoc]; exact this
        · rw [show ((i : Int) + 1) = ((i + 1 : Nat) : Int) by omega, up60 l (i + 1) h2] at c2
          rw [if_neg (fun c => c2 c.2), List.nil_append]; exact e1
      · rw [up62 l i (by omega)] at c1
        rw [if_neg (fun c => c1 c.1), List.nil_append]; exact e1
    · rw [prs_one l i (by omega), List.append_nil]; exact Ev.now _
theorem rwPairs_ev (l : List UInt8) (h : l.length ≤ 1000) : Ev (fun k => spec_rwPairs.f k (up l)) (prs 0 l) := by
  unfold spec_rwPairs.f
  have := rwPairs_loop l h l.length 0 [] (by omega) (by simp)
  simpa using this
theorem facing_loop (l : List UInt8) (h : l.length ≤ 1000) : ∀ (d i : Nat) (acc : List Int), i + d + 1 = l.length → acc.length ≤ i → Ev (fun k => impl_facing.l0 k (up l) acc ((l.length : Int) - 1) (i : Int)) (acc ++ prs i (l.drop i)) := by
  intro d
  induction d with
  | zero =>
    intro i acc hi ha
    refine Ev.succ ?_
    simp only [impl_facing.l0, up_isize]
    rw [prs_one l i (by omega), List.append_nil]
    exact Ev.neg (by omega) (Ev.now _)
  | succ d ih =>
    intro i acc hi ha
    refine Ev.succ ?_
    simp only [impl_facing.l0, up_isize]
    rw [wrap64_id (x := (i : Int) + 1) (by omega) (by omega)]
    refine Ev.pos (by omega) ?_
    rw [prs_two l i (by omega)]
    refine Ev.pos (by omega) (Ev.pos (by omega) ?_)
    have h2 : i + 1 < l.length := by omega
    have e1 := ih (i + 1) acc (by omega) (by omega)
    refine Ev.iff (fun c1 => ?_) (fun c1 => ?_)
    · rw [up62 l i (by omega)] at c1
      refine Ev.pos (by omega) (Ev.pos (by omega) (Ev.iff (fun c2 => ?_) (fun c2 => ?_)))
      · rw [show ((i : Int) + 1) = ((i + 1 : Nat) : Int) by omega, up60 l (i + 1) h2] at c2
        refine Ev.pos (by omega) ?_
        rw [if_pos ⟨c1, c2⟩]
        have := ih (i + 1) (acc ++ [(i : Int)]) (by omega) (by simp; omega)
        rw [← List.append_assoc]; exact this
      · rw [show ((i : Int) + 1) = ((i + 1 : Nat) : Int) by omega, up60 l (i + 1) h2] at c2
        rw [if_neg (fun c => c2 c.2), List.nil_append]; exact e1
    · rw [up62 l i (by omega)] at c1
      rw [if_neg (fun c => c1 c.1), List.nil_append]; exact e1
theorem facing_ev (l : List UInt8) (h1 : 1 ≤ l.length) (h : l.length ≤ 1000) : Ev (fun k => impl_facing.f k (up l)) (prs 0 l) := by
  unfold impl_facing.f
  rw [up_isize, wrap64_id (x := (l.length : Int) - 1) (by omega) (by omega)]
  have := facing_loop l h (l.length - 1) 0 [] (by omega) (by simp)
  simpa using this
theorem rwTick_loop (ps : List Int) (hps : ps.length ≤ 1000) (n : Nat) (hn : n ≤ 1000) (hp : ∀ p ∈ ps, 0 ≤ p ∧ p + 1 < n) : ∀ (d i : Nat) (c : List UInt8), i + d = ps.length → c.length = n → Ev (fun k => spec_rwTick.l0 k (up c) ps (ps.length : Int) (i : Int)) (up ((ps.drop i).foldl trn c)) := by
  intro d
  induction d with
  | zero =>
    intro i c hi hc
    refine Ev.succ ?_
    simp only [spec_rwTick.l0]
    rw [List.drop_of_length_le (by omega)]
    exact Ev.neg (by omega) (Ev.now _)
  | succ d ih =>
    intro i c hi hc
    have hlt : i < ps.length := by omega
    have hm := hp (rd ps (i : Int)) (rd_mem hlt)
    obtain ⟨q, hq⟩ : ∃ q : Nat, rd ps (i : Int) = q := ⟨(rd ps (i : Int)).toNat, by omega⟩
    refine Ev.succ ?_
    simp only [spec_rwTick.l0, hq]
    rw [rd_cons_drop hlt, List.foldl_cons, wrap64_id (x := (i : Int) + 1) (by omega) (by omega), wrap64_id (x := (q : Int) + 2) (by omega) (by omega), Int.toNat_natCast, show ((q : Int) + 2).toNat = q + 2 by omega, up_take, up_drop]
    have e1 : up (c.take q) ++ (⟨#[60, 62]⟩ : ByteArray) = up (c.take q ++ [60, 62]) := up_app _ [60, 62]
    simp only [e1, up_app, up_isize]
    have e2 : (up (List.take q c)).size ≤ 1000 := by rw [up_size]; simp; omega
    have e3 : (up (List.take q c ++ [60, 62])).size ≤ 1002 := by rw [up_size]; simp; omega
    have e4 : (up (List.drop (q + 2) c)).size ≤ 1000 := by rw [up_size]; simp; omega
    refine Ev.pos (by omega) (Ev.pos (by omega) (Ev.pos (by omega) (Ev.pos (by omega) (Ev.pos (by omega) (Ev.pos (by omega) (Ev.pos (by omega) (Ev.pos (by omega) (Ev.pos (by omega) ?_))))))))
    have e5 : List.take q c ++ [60, 62] ++ List.drop (q + 2) c = trn c (rd ps (i : Int)) := by rw [hq]; rfl
    rw [e5]
    exact ih (i + 1) _ (by omega) (by rw [trn_len _ _ (by omega) (by omega)]; exact hc)
theorem rwTick_ev (l : List UInt8) (h : l.length ≤ 1000) : Ev (fun k => spec_rwTick.f k (up l)) (up (twk l)) := by
  unfold spec_rwTick.f
  refine Ev.bind (rwPairs_ev l h) ?_
  have hl := prs_len l 0
  have := rwTick_loop (prs 0 l) (by omega) l.length h (fun p hp => by have := prs_ge l 0 p hp; omega) (prs 0 l).length 0 l (by omega) rfl
  rw [List.drop_zero, fold_tick] at this
  exact this
theorem wt_1000 (l : List UInt8) (h : l.length ≤ 1000) : wt l ≤ 1000000 := Nat.le_trans (wt_sq l) (Nat.mul_le_mul h h)
theorem fac_prs (l : List UInt8) : (((prs 0 l).length : Int) > 0) ↔ fac l = true := by
  have := prs_nil l 0
  constructor
  · intro h
    rw [← Bool.not_eq_false, ← this]
    intro e; rw [e] at h; simp at h
  · intro h
    have : prs 0 l ≠ [] := by rw [Ne, this]; simp [h]
    have := List.length_pos_iff.2 this
    omega
theorem rwRest_loop : ∀ (f : Nat) (l : List UInt8) (n : Int), l.length ≤ 1000 → wt l ≤ f → 0 ≤ n → n + f ≤ 1000000000 → Ev (fun k => spec_rwRest.l0 k (up l) n) (up (rst f l).1, n + ((rst f l).2 : Int)) := by
  intro f
  induction f with
  | zero =>
    intro l n hl hw h0 h1
    have hf : fac l = false := by
      rw [← Bool.not_eq_true]; intro hf; have := (wt_le l).2 hf; omega
    refine Ev.succ ?_
    simp only [spec_rwRest.l0]
    refine Ev.bind (rwPairs_ev l hl) (Ev.neg (by rw [fac_prs, hf]; decide) ?_)
    simp only [rst]
    refine Ev.const ?_
    simp
  | succ f ih =>
    intro l n hl hw h0 h1
    refine Ev.succ ?_
    simp only [spec_rwRest.l0]
    refine Ev.bind (rwPairs_ev l hl) ?_
    rw [rst]
    by_cases hf : fac l = true
    · rw [if_pos hf]
      refine Ev.pos ((fac_prs l).2 hf) (Ev.bind (rwTick_ev l hl) ?_)
      have := (wt_le l).2 hf
      rw [wrap64_id (x := n + 1) (by omega) (by omega)]
      have := ih (twk l) (n + 1) (by rw [twk_len]; exact hl) (by omega) (by omega) (by omega)
      have e : (n + 1) + ((rst f (twk l)).2 : Int) = n + (((rst f (twk l)).2 + 1 : Nat) : Int) := by omega
      rw [e] at this
      exact this
    · rw [if_neg hf]
      refine Ev.neg (by rw [fac_prs]; exact hf) (Ev.const ?_)
      simp
theorem rwRest_ev (l : List UInt8) (hl : l.length ≤ 1000) : Ev (fun k => spec_rwRest.f k (up l)) (up (rst 1000000 l).1, ((rst 1000000 l).2 : Int)) := by
  have := rwRest_loop 1000000 l 0 hl (wt_1000 l hl) (by omega) (by omega)
  unfold spec_rwRest.f
  simpa using this
theorem ticks_loop : ∀ (f : Nat) (l : List UInt8) (n : Int), l.length ≤ 1000 → wt l ≤ f → 0 ≤ n → n + f ≤ 1000000000 → Ev (fun k => impl_ticksToRest.l0 k (up l) n) (n + ((rst f l).2 : Int)) := by
  intro f
  induction f with
  | zero =>
    intro l n hl hw h0 h1
    have hf : fac l = false := by
      rw [← Bool.not_eq_true]; intro hf; have := (wt_le l).2 hf; omega
    refine Ev.succ ?_
    simp only [impl_ticksToRest.l0, isAtRest_eq l hl, Option.bind_some, hf, rst]
    exact Ev.const (by simp)
  | succ f ih =>
    intro l n hl hw h0 h1
    refine Ev.succ ?_
    simp only [impl_ticksToRest.l0, isAtRest_eq l hl, tick_eq l hl, Option.bind_some]
    rw [rst]
    by_cases hf : fac l = true
    · rw [if_pos hf]
      refine Ev.neg (by simp [hf]) ?_
      have := (wt_le l).2 hf
      rw [wrap64_id (x := n + 1) (by omega) (by omega)]
      have := ih (twk l) (n + 1) (by rw [twk_len]; exact hl) (by omega) (by omega) (by omega)
      have e : (n + 1) + ((rst f (twk l)).2 : Int) = n + (((rst f (twk l)).2 + 1 : Nat) : Int) := by omega
      rw [e] at this
      exact this
    · rw [if_neg hf]
      exact Ev.pos (by simp [hf]) (Ev.const (by simp))
theorem ticks_ev (l : List UInt8) (hl : l.length ≤ 1000) : Ev (fun k => impl_ticksToRest.f k (up l)) ((rst 1000000 l).2 : Int) := by
  have := ticks_loop 1000000 l 0 hl (wt_1000 l hl) (by omega) (by omega)
  unfold impl_ticksToRest.f
  simpa using this
theorem after_loop : ∀ (t : Nat) (l : List UInt8), l.length ≤ 1000 → t ≤ 1000000000 → Ev (fun k => impl_RowAfter.l0 k (up l) (t : Int)) (up (twn t l), true) := by
  intro t
  induction t with
  | zero =>
    intro l hl ht
    refine Ev.succ ?_
    simp only [impl_RowAfter.l0]
    exact Ev.neg (by omega) (Ev.now _)
  | succ t ih =>
    intro l hl ht
    refine Ev.succ ?_
    simp only [impl_RowAfter.l0, isAtRest_eq l hl, tick_eq l hl, Option.bind_some]
    refine Ev.pos (by omega) ?_
    by_cases hf : fac l = true
    · refine Ev.neg (by simp [hf]) ?_
      rw [show ((t + 1 : Nat) : Int) - 1 = (t : Int) by omega, wrap64_id (x := (t : Int)) (by omega) (by omega), twn]
      exact ih (twk l) (by rw [twk_len]; exact hl) (by omega)
    · rw [Bool.not_eq_true] at hf
      rw [twn_rest _ _ hf]
      exact Ev.pos (by simp [hf]) (Ev.now _)
theorem after_ev (l : List UInt8) (t : Int) (hg : rgood l = true) (h0 : 0 ≤ t) (h1 : t ≤ 1000000) : Ev (fun k => impl_RowAfter.f k (up l) t) (up (twn t.toNat l), true) := by
  have hlen : 1 ≤ l.length ∧ l.length ≤ 60 := by
    unfold rgood at hg
    rw [Bool.and_eq_true, decide_eq_true_eq] at hg
    exact hg.1
  unfold impl_RowAfter.f
  rw [isRow_eq (up l) (by rw [up_size]; omega), L_mk, hg]
  simp only [Option.bind_some, if_true, in_eq]
  refine Ev.succ ?_
  simp only [impl_RowAfter.j0]
  refine Ev.neg (by simp; omega) ?_
  have := after_loop t.toNat l (by omega) (by omega)
  rw [Int.toNat_of_nonneg h0] at this
  exact this
theorem clo_loop (ps : List Int) (hps : ps.length ≤ 1000000) : ∀ (d i : Nat) (o : List Int), i + d = ps.length → (∀ p ∈ ps, 0 ≤ p ∧ p + 1 < (o.length : Int)) → Ev (fun k => impl_TurnsOfEach_clo.l0 k ps (i : Int) o) ((ps.drop i).foldl bump o) := by
  intro d
  induction d with
  | zero =>
    intro i o hi hp
    refine Ev.succ ?_
    simp only [impl_TurnsOfEach_clo.l0]
    rw [List.drop_of_length_le (by omega)]
    exact Ev.neg (by omega) (Ev.now _)
  | succ d ih =>
    intro i o hi hp
    have hlt : i < ps.length := by omega
    have hm := hp (rd ps (i : Int)) (rd_mem hlt)
    refine Ev.succ ?_
    simp only [impl_TurnsOfEach_clo.l0]
    rw [rd_cons_drop hlt, List.foldl_cons, wrap64_id (x := (i : Int) + 1) (by omega) (by omega)]
    refine Ev.pos (by omega) (Ev.pos (by omega) (Ev.pos (by omega) (Ev.pos (by omega) ?_)))
    exact ih (i + 1) (bump o (rd ps (i : Int))) (by omega) (fun p hp' => by rw [bump_len]; exact hp p hp')
theorem clo_ev (l : List UInt8) (o : List Int) (h1 : 1 ≤ l.length) (hl : l.length ≤ 1000) (ho : o.length = l.length) : Ev (fun k => impl_TurnsOfEach_clo.f k (up l) o) ((prs 0 l).foldl bump o) := by
  unfold impl_TurnsOfEach_clo.f
  refine Ev.bind (facing_ev l h1 hl) ?_
  have hle := prs_len l 0
  have := clo_loop (prs 0 l) (by omega) (prs 0 l).length 0 o (by omega) (fun p hp => by have := prs_ge l 0 p hp; omega)
  rw [List.drop_zero] at this
  exact this
theorem rwMake_loop : ∀ (j m : Nat) (o : List UInt8), j + o.length ≤ 1000 → m < 4611686018427387904 → Ev (fun k => spec_rwMake.l0 k (j : Int) (m : Int) (up o)) (up (mk j m ++ o)) := by
  intro j
  induction j with
  | zero =>
    intro m o h hm
    refine Ev.succ ?_
    simp only [spec_rwMake.l0]
    exact Ev.neg (by omega) (Ev.now _)
  | succ j ih =>
    intro m o h hm
    have hs := up_size o
    refine Ev.succ ?_
    simp only [spec_rwMake.l0]
    rw [tmod_nn (by omega), tdiv_nn (by omega), show ((j + 1 : Nat) : Int) - 1 = (j : Int) by omega, wrap64_id (x := (j : Int)) (by omega) (by omega), wrap64_id (x := (m : Int) / 2) (by omega) (by omega), show (m : Int) / 2 = ((m / 2 : Nat) : Int) by omega]
    have e62 : (⟨#[62]⟩ : ByteArray) ++ up o = up (62 :: o) := up_app [62] o
    have e60 : (⟨#[60]⟩ : ByteArray) ++ up o = up (60 :: o) := up_app [60] o
    rw [e62, e60, mk, List.append_assoc]
    refine Ev.pos (by omega) (Ev.iff (fun hc => ?_) (fun hc => ?_))
    · have e : sgnOf (m % 2) = 62 := by unfold sgnOf; rw [if_pos (by omega)]
      rw [e]
      exact Ev.pos (by omega) (ih (m / 2) (62 :: o) (by simp; omega) (by omega))
    · have e : sgnOf (m % 2) = 60 := by unfold sgnOf; rw [if_neg (by omega)]
      rw [e]
      exact Ev.pos (by omega) (ih (m / 2) (60 :: o) (by simp; omega) (by omega))
theorem rwMake_ev (n m : Nat) (hn : n ≤ 60) (hm : m < 4611686018427387904) : Ev (fun k => spec_rwMake.f k (n : Int) (m : Int)) (up (mk n m)) := by
  unfold spec_rwMake.f
  have := rwMake_loop n m [] (by simp; omega) hm
  rw [List.append_nil] at this
  exact this
theorem rowOf_loop (n m : Nat) (hn : n ≤ 60) (hm : m < 4611686018427387904) : ∀ (d i : Nat), i + d = n → Ev (fun k => impl_rowOf.l0 k (n : Int) (m : Int) (cpy 0 (inums (mk n m)) i) (n : Int) (i : Int)) (up (mk n m)) := by
  have hl : (inums (mk n m)).length = n := by simp [inums, mk_len]
  intro d
  induction d with
  | zero =>
    intro i hi
    refine Ev.succ ?_
    simp only [impl_rowOf.l0]
    refine Ev.neg (by omega) (Ev.const ?_)
    rw [show i = (inums (mk n m)).length by omega, cpy_all, inums_str]
  | succ d ih =>
    intro i hi
    refine Ev.succ ?_
    simp only [impl_rowOf.l0, Option.bind_some]
    have hlt : i < (inums (mk n m)).length := by omega
    have hget : (inums (mk n m))[i] = if m / 2 ^ (n - 1 - i) % 2 = 1 then 62 else 60 := by
      have h1 := mk_get n m i (by omega)
      have h2 : (inums (mk n m))[i]? = some (((sgnOf (m / 2 ^ (n - 1 - i) % 2)).toNat : Nat) : Int) := by simp [inums, h1]
      rw [List.getElem?_eq_getElem hlt, Option.some.injEq] at h2
      rw [h2]
      unfold sgnOf
      split <;> rfl
    rw [wrap64_id (x := (n : Int) - 1) (by omega) (by omega), wrap64_id (x := (i : Int) + 1) (by omega) (by omega), wrap64_id (x := (n : Int) - 1 - (i : Int)) (by omega) (by omega), show (n : Int) - 1 - (i : Int) = ((n - 1 - i : Nat) : Int) by omega, shr_div m _ (by omega), and1 _ (Nat.lt_of_le_of_lt (Nat.div_le_self _ _) (by omega)), Int.toNat_natCast]
    have hs := cpy_succ 0 (inums (mk n m)) i hlt
    refine Ev.pos (by omega) (Ev.pos (by omega) (Ev.pos (by rw [cpy_len _ _ _ (by omega)]; omega) (Ev.pos (by omega) (Ev.iff (fun hc => ?_) (fun hc => ?_)))))
    · rw [hget, if_pos (by omega)] at hs
      rw [List.set_set, hs]
      exact ih (i + 1) (by omega)
    · rw [hget, if_neg (by omega)] at hs
      rw [hs]
      exact ih (i + 1) (by omega)
theorem rowOf_ev (n m : Nat) (hn : n ≤ 60) (hm : m < 4611686018427387904) : Ev (fun k => impl_rowOf.f k (n : Int) (m : Int)) (up (mk n m)) := by
  have hl : (inums (mk n m)).length = n := by simp [inums, mk_len]
  unfold impl_rowOf.f
  simp only [Option.bind_some, Int.toNat_natCast, List.length_replicate]
  refine Ev.pos (by omega) (Ev.pos (by omega) ?_)
  have := rowOf_loop n m hn hm n 0 (by omega)
  rw [cpy_zero, hl] at this
  exact this
theorem rdS_mem {l : List ByteArray} {j : Int} (h0 : 0 ≤ j) (h : j < l.length) : rdOf ByteArray.empty l j ∈ l := by
  have h' : j.toNat < l.length := by omega
  simp [rdOf, h']
theorem of_ok (code : List Int) (hc : ∀ x ∈ code, 0 ≤ x ∧ x ≤ 255) (p s : Int) (l : List ByteArray) (hl : 0 < l.length) (h0 : 0 ≤ p) (h1 : p ≤ 999990) : ∃ v p' s', spec_l1Cur_of.f code p s l = some (v, p', s') ∧ v ∈ l ∧ p ≤ p' ∧ p' ≤ p + 2 := by
  unfold spec_l1Cur_of.f
  obtain ⟨v, p', s', e, v0, v1, q0, q1⟩ := pick_ok code hc p s (l.length : Int) h0 h1
  rw [e]
  simp only [Option.bind_some]
  have hv : v < (l.length : Int) := by omega
  rw [if_pos v0, if_pos hv]
  exact ⟨_, _, _, rfl, rdS_mem v0 hv, q0, q1⟩
theorem sureRow_loop (code : List Int) (hc : ∀ x ∈ code, 0 ≤ x ∧ x ≤ 255) : ∀ (d : Nat) (acc : ByteArray) (p s : Int), acc.size + d ≤ 1000 → 0 ≤ p → p + 2 * d ≤ 900000 →
    ∃ r p' s', Ev (fun k => spec_l1Cur_sureRow.l0 k acc (d : Int) code p s) (r, p', s') ∧ r.size ≤ acc.size + d ∧ p ≤ p' ∧ p' ≤ p + 2 * d := by
  intro d
  induction d with
  | zero =>
    intro acc p s h h0 h1
    refine ⟨acc, p, s, Ev.succ ?_, by omega, by omega, by omega⟩
    simp only [spec_l1Cur_sureRow.l0]
    exact Ev.neg (by omega) (Ev.now _)
  | succ d ih =>
    intro acc p s h h0 h1
    obtain ⟨v, p1, s1, e1, hv, q0, q1⟩ := of_ok code hc p s [(⟨#[60]⟩ : ByteArray), (⟨#[62]⟩ : ByteArray)] (by simp) h0 (by omega)
    have hs : v.size = 1 := by
      simp only [List.mem_cons, List.not_mem_nil, or_false] at hv
      rcases hv with rfl | rfl <;> rfl
    have ha : (acc ++ v).size = acc.size + 1 := by rw [ByteArray.size_append, hs]
    obtain ⟨r, p2, s2, e2, b0, b1, b2⟩ := ih (acc ++ v) p1 s1 (by omega) (by omega) (by omega)
    refine ⟨r, p2, s2, Ev.succ ?_, by omega, by omega, by omega⟩
    simp only [spec_l1Cur_sureRow.l0]
    rw [e1, show ((d + 1 : Nat) : Int) - 1 = (d : Int) by omega, wrap64_id (x := (d : Int)) (by omega) (by omega)]
    simp only [Option.bind_some]
    exact Ev.pos (by omega) (Ev.pos (by omega) e2)
theorem sureRow_ok (code : List Int) (hc : ∀ x ∈ code, 0 ≤ x ∧ x ≤ 255) (p s n : Int) (hn : n ≤ 200) (h0 : 0 ≤ p) (h1 : p ≤ 800000) : ∃ r p' s', Ev (fun k => spec_l1Cur_sureRow.f k code p s n) (r, p', s') ∧ r.size ≤ 201 ∧ p ≤ p' ∧ p' ≤ p + 404 := by
  unfold spec_l1Cur_sureRow.f
  obtain ⟨v, p1, s1, e1, v0, v1, q0, q1⟩ := pick_ok code hc p s n h0 (by omega)
  rw [e1]
  simp only [Option.bind_some]
  rw [wrap64_id (x := 1 + v) (by omega) (by omega), show 1 + v = (((1 + v).toNat : Nat) : Int) by omega]
  have hz : (⟨#[]⟩ : ByteArray).size = 0 := rfl
  obtain ⟨r, p2, s2, e2, b0, b1, b2⟩ := sureRow_loop code hc (1 + v).toNat (⟨#[]⟩ : ByteArray) p1 s1 (by omega) (by omega) (by omega)
  exact ⟨r, p2, s2, e2, by omega, by omega, by omega⟩
theorem row_loop (code : List Int) (hc : ∀ x ∈ code, 0 ≤ x ∧ x ≤ 255) (n : Int) (hn : n ≤ 200) : ∀ (d : Nat) (acc : ByteArray) (p s : Int), acc.size + 2 * d ≤ 1000 → 0 ≤ p → p ≤ 700000 →
    ∃ r p' s', Ev (fun k => spec_l1Cur_row.l0 k n acc (d : Int) code p s) (r, p', s') ∧ r.size ≤ 1000 ∧ p ≤ p' ∧ p' ≤ p + 404 := by
  intro d
  induction d with
  | zero =>
    intro acc p s h h0 h1
    obtain ⟨r, p2, s2, e2, b0, b1, b2⟩ := sureRow_ok code hc p s n hn h0 (by omega)
    by_cases c : (acc.size : Int) ≤ n
    · refine ⟨acc, p, s, Ev.succ ?_, by omega, by omega, by omega⟩
      simp only [spec_l1Cur_row.l0]
      exact Ev.neg (by omega) (Ev.pos c (Ev.now _))
    · refine ⟨r, p2, s2, Ev.succ ?_, by omega, by omega, by omega⟩
      simp only [spec_l1Cur_row.l0]
      exact Ev.neg (by omega) (Ev.neg c (Ev.bind e2 (Ev.now _)))
  | succ d ih =>
    intro acc p s h h0 h1
    have z1 : (⟨#[62]⟩ : ByteArray).size = 1 := rfl
    have z2 : (⟨#[60]⟩ : ByteArray).size = 1 := rfl
    have hs : ((⟨#[62]⟩ : ByteArray) ++ acc).size = 1 + acc.size := by rw [ByteArray.size_append, z1]
    have hs2 : (((⟨#[62]⟩ : ByteArray) ++ acc) ++ (⟨#[60]⟩ : ByteArray)).size = 2 + acc.size := by rw [ByteArray.size_append, hs, z2]; omega
    obtain ⟨r, p2, s2, e2, b0, b1, b2⟩ := ih (((⟨#[62]⟩ : ByteArray) ++ acc) ++ (⟨#[60]⟩ : ByteArray)) p s (by omega) h0 h1
    refine ⟨r, p2, s2, Ev.succ ?_, b0, b1, b2⟩
    simp only [spec_l1Cur_row.l0]
    rw [show ((d + 1 : Nat) : Int) - 1 = (d : Int) by omega, wrap64_id (x := (d : Int)) (by omega) (by omega)]
    exact Ev.pos (by omega) (Ev.pos (by omega) (Ev.pos (by omega) e2))
theorem row_ok (code : List Int) (hc : ∀ x ∈ code, 0 ≤ x ∧ x ≤ 255) (p s n : Int) (hn : n ≤ 200) (h0 : 0 ≤ p) (h1 : p ≤ 600000) : ∃ r p' s', Ev (fun k => spec_l1Cur_row.f k code p s n) (r, p', s') ∧ r.size ≤ 1000 ∧ p ≤ p' ∧ p' ≤ p + 410 := by
  unfold spec_l1Cur_row.f
  obtain ⟨v, p1, s1, e1, v0, v1, q0, q1⟩ := pick_ok code hc p s 14 h0 (by omega)
  rw [e1]
  simp only [Option.bind_some]
  by_cases c0 : v = 0
  · obtain ⟨r, p2, s2, e2, hr, b0, b1⟩ := of_ok code hc p1 s1 [(⟨#[]⟩ : ByteArray), (⟨#[120]⟩ : ByteArray), (⟨#[60, 61]⟩ : ByteArray), (⟨#[62, 32]⟩ : ByteArray), (⟨#[60, 60, 60, 60, 60, 60, 60, 60, 60, 60, 60, 60, 60, 60, 60, 60, 60, 60, 60, 60, 60, 60, 60, 60, 60, 60, 60, 60, 60, 60, 60, 60, 60, 60, 60, 60, 60, 60, 60, 60, 60, 60, 60, 60, 60, 60, 60, 60, 60, 60, 60, 60, 60, 60, 60, 60, 60, 60, 60, 60, 60]⟩ : ByteArray), (⟨#[62, 62, 60, 60, 76, 82]⟩ : ByteArray)] (by simp) (by omega) (by omega)
    have hs : r.size ≤ 1000 := by
      simp only [List.mem_cons, List.not_mem_nil, or_false] at hr
      rcases hr with rfl | rfl | rfl | rfl | rfl | rfl <;> decide
    refine ⟨r, p2, s2, Ev.pos c0 ?_, hs, by omega, by omega⟩
    rw [e2]
    exact Ev.now _
  · by_cases c1 : v = 1
    · obtain ⟨u, p2, s2, e2, u0, u1, b0, b1⟩ := pick_ok code hc p1 s1 8 (by omega) (by omega)
      obtain ⟨r, p3, s3, e3, d0, d1, d2⟩ := row_loop code hc n hn (2 + u).toNat (⟨#[]⟩ : ByteArray) p2 s2 (by have : (⟨#[]⟩ : ByteArray).size = 0 := rfl; omega) (by omega) (by omega)
      refine ⟨r, p3, s3, Ev.neg c0 (Ev.pos c1 ?_), d0, by omega, by omega⟩
      rw [e2]
      simp only [Option.bind_some]
      rw [wrap64_id (x := 2 + u) (by omega) (by omega), show 2 + u = (((2 + u).toNat : Nat) : Int) by omega]
      exact e3
    · obtain ⟨r, p3, s3, e3, d0, d1, d2⟩ := sureRow_ok code hc p1 s1 n hn (by omega) (by omega)
      exact ⟨r, p3, s3, Ev.neg c0 (Ev.neg c1 (Ev.bind e3 (Ev.now _))), by omega, by omega, by omega⟩
theorem mSame_loop (l : List Int) (hl : l.length ≤ 1000000) : ∀ (d i : Nat), i + d = l.length → Ev (fun k => laws_mSame.l0 k l l (l.length : Int) (i : Int)) true := by
  intro d
  induction d with
  | zero =>
    intro i h
    refine Ev.succ ?_
    simp only [laws_mSame.l0]
    exact Ev.neg (by omega) (Ev.now _)
  | succ d ih =>
    intro i h
    refine Ev.succ ?_
    simp only [laws_mSame.l0]
    rw [show (i : Int) + 1 = ((i + 1 : Nat) : Int) by omega, wrap64_id (x := ((i + 1 : Nat) : Int)) (by omega) (by omega)]
    exact Ev.pos (by omega) (Ev.pos (by omega) (Ev.pos (by omega) (Ev.pos (by omega) (Ev.pos (by first | rfl | trivial) (ih (i + 1) (by omega))))))
theorem mSame_ev (l : List Int) (hl : l.length ≤ 1000000) : Ev (fun k => laws_mSame.f k l l) true := by
  unfold laws_mSame.f
  exact Ev.pos rfl (mSame_loop l hl l.length 0 (by omega))
theorem mRises_loop (l : List Int) (hl : l.length ≤ 1000000) (hp : l.Pairwise (· < ·)) : ∀ (d i : Nat), i + 1 + d = l.length → Ev (fun k => laws_mRises.l0 k l ((i + 1 : Nat) : Int)) true := by
  intro d
  induction d with
  | zero =>
    intro i h
    refine Ev.succ ?_
    simp only [laws_mRises.l0]
    exact Ev.neg (by omega) (Ev.now _)
  | succ d ih =>
    intro i h
    refine Ev.succ ?_
    simp only [laws_mRises.l0]
    have := List.pairwise_iff_getElem.1 hp i (i + 1) (by omega) (by omega) (by omega)
    have e0 : ∀ (j : Nat) (h : j < l.length), rd l (j : Int) = l[j] := fun j h => by simp [rd, h]
    have e1 := e0 i (by omega)
    have e2 := e0 (i + 1) (by omega)
    rw [wrap64_id (x := ((i + 1 : Nat) : Int) - 1) (by omega) (by omega), show ((i + 1 : Nat) : Int) - 1 = (i : Int) by omega, e1, e2, show ((i + 1 : Nat) : Int) + 1 = ((i + 1 + 1 : Nat) : Int) by omega, wrap64_id (x := ((i + 1 + 1 : Nat) : Int)) (by omega) (by omega)]
    exact Ev.pos (by omega) (Ev.pos (by omega) (Ev.pos (by omega) (Ev.pos (by omega) (Ev.neg (by omega) (ih (i + 1) (by omega))))))
theorem mRises_ev (l : List Int) (hl : l.length ≤ 1000000) (hp : l.Pairwise (· < ·)) : Ev (fun k => laws_mRises.f k l) true := by
  unfold laws_mRises.f
  by_cases c : l.length = 0
  · refine Ev.succ ?_
    simp only [laws_mRises.l0]
    exact Ev.neg (by omega) (Ev.now _)
  · exact mRises_loop l hl hp (l.length - 1) 0 (by omega)
theorem mHas_loop (l : List Int) (x : Int) (hl : l.length ≤ 1000000) : ∀ (d i : Nat), i + d = l.length → Ev (fun k => laws_mHas.l0 k x l (l.length : Int) (i : Int)) (decide (x ∈ l.drop i)) := by
  intro d
  induction d with
  | zero =>
    intro i h
    refine Ev.succ ?_
    simp only [laws_mHas.l0]
    rw [List.drop_of_length_le (by omega)]
    exact Ev.neg (by omega) (Ev.const (by simp))
  | succ d ih =>
    intro i h
    refine Ev.succ ?_
    simp only [laws_mHas.l0]
    rw [rd_cons_drop (show i < l.length by omega), show (i : Int) + 1 = ((i + 1 : Nat) : Int) by omega, wrap64_id (x := ((i + 1 : Nat) : Int)) (by omega) (by omega)]
    refine Ev.pos (by omega) (Ev.pos (by omega) (Ev.pos (by omega) (Ev.iff (fun c => ?_) (fun c => ?_))))
    · rw [decide_eq_true (by rw [c]; simp)]; exact Ev.now _
    · have := ih (i + 1) (by omega)
      rw [show decide (x ∈ rd l (i : Int) :: l.drop (i + 1)) = decide (x ∈ l.drop (i + 1)) from decide_eq_decide.2 (by rw [List.mem_cons]; exact ⟨fun h => h.resolve_left (fun e => c e.symm), .inr⟩)]
      exact this
theorem mHas_ev (l : List Int) (x : Int) (hl : l.length ≤ 1000000) : Ev (fun k => laws_mHas.f k l x) (decide (x ∈ l)) := by
  unfold laws_mHas.f
  have := mHas_loop l x hl l.length 0 (by omega)
  rw [List.drop_zero] at this
  exact this
theorem rs_isRow (l : List UInt8) (h : l.length ≤ 1000) : impl_isRow.f (up l) = some (rgood l) := by
  rw [isRow_eq (up l) (by rw [up_size]; omega), L_mk]
theorem rs_rwGood (l : List UInt8) (h : l.length ≤ 1000) : Ev (fun k => spec_rwGood.f k (up l)) (rgood l) := by
  have := rwGood_ev (up l) (by rw [up_size]; omega)
  rw [L_mk] at this
  exact this
def vTk (l : List UInt8) : Int × Bool := if rgood l = true then (((rst 1000000 l).2 : Int), true) else (0, false)
theorem imTk (l : List UInt8) (hl : l.length ≤ 1000) : Ev (fun k => impl_TicksToRest.f k (up l)) (vTk l) := by
  unfold impl_TicksToRest.f
  rw [rs_isRow l hl]
  simp only [Option.bind_some]
  by_cases c : rgood l = true
  · simp only [vTk, if_pos c]; exact Ev.bind (ticks_ev l hl) (Ev.now _)
  · simp only [vTk, if_neg c]; exact Ev.now _
theorem spTk (l : List UInt8) (hl : l.length ≤ 1000) : Ev (fun k => spec_TicksToRest.f k (up l)) (vTk l) := by
  unfold spec_TicksToRest.f
  refine Ev.bind (rs_rwGood l hl) ?_
  by_cases c : rgood l = true
  · simp only [vTk, if_pos c]; exact Ev.bind (rwRest_ev l hl) (Ev.now _)
  · simp only [vTk, if_neg c]; exact Ev.now _
def vRs (l : List UInt8) : ByteArray × Bool := if rgood l = true then (up (rst 1000000 l).1, true) else (up [], false)
theorem history_loop : ∀ (f : Nat) (l : List UInt8), l.length ≤ 1000 → wt l ≤ f → Ev (fun k => impl_history.l0 k (up l)) (up (rst f l).1) := by
  intro f
  induction f with
  | zero =>
    intro l hl hw
    have hf : fac l = false := by
      rw [← Bool.not_eq_true]; intro hf; have := (wt_le l).2 hf; omega
    refine Ev.succ ?_
    simp only [impl_history.l0, isAtRest_eq l hl, Option.bind_some, hf, rst]
    exact Ev.now _
  | succ f ih =>
    intro l hl hw
    refine Ev.succ ?_
    simp only [impl_history.l0, isAtRest_eq l hl, tick_eq l hl, Option.bind_some]
    rw [rst]
    by_cases hf : fac l = true
    · rw [if_pos hf]
      refine Ev.neg (by simp [hf]) ?_
      have := (wt_le l).2 hf
      exact ih (twk l) (by rw [twk_len]; exact hl) (by omega)
    · rw [if_neg hf]
      exact Ev.pos (by simp [hf]) (Ev.now _)
theorem imRs (l : List UInt8) (hl : l.length ≤ 1000) : Ev (fun k => impl_RestOf.f k (up l)) (vRs l) := by
  unfold impl_RestOf.f
  rw [rs_isRow l hl]
  simp only [Option.bind_some]
  by_cases c : rgood l = true
  · simp only [vRs, if_pos c]; exact Ev.bind (history_loop 1000000 l hl (wt_1000 l hl)) (Ev.now _)
  · simp only [vRs, if_neg c]; exact Ev.now _
theorem spRs (l : List UInt8) (hl : l.length ≤ 1000) : Ev (fun k => spec_RestOf.f k (up l)) (vRs l) := by
  unfold spec_RestOf.f
  refine Ev.bind (rs_rwGood l hl) ?_
  by_cases c : rgood l = true
  · simp only [vRs, if_pos c]; exact Ev.bind (rwRest_ev l hl) (Ev.now _)
  · simp only [vRs, if_neg c]; exact Ev.now _
def vCt (l : List UInt8) : Int × Bool := if rgood l = true then ((ttl 1000000 l : Int), true) else (0, false)
theorem imCt_loop : ∀ (f : Nat) (l : List UInt8) (n : Int), 1 ≤ l.length → l.length ≤ 1000 → wt l ≤ f → 0 ≤ n → n + 1000 * (f : Int) ≤ 1000000000000 → Ev (fun k => impl_CountTurns.l0 k (up l) n) (n + (ttl f l : Int)) := by
  intro f
  induction f with
  | zero =>
    intro l n h1 hl hw h0 hn
    have hf : fac l = false := by
      rw [← Bool.not_eq_true]; intro hf; have := (wt_le l).2 hf; omega
    refine Ev.succ ?_
    simp only [impl_CountTurns.l0, isAtRest_eq l hl, Option.bind_some, hf, ttl]
    exact Ev.const (by simp)
  | succ f ih =>
    intro l n h1 hl hw h0 hn
    refine Ev.succ ?_
    simp only [impl_CountTurns.l0, impl_CountTurns_clo.f, isAtRest_eq l hl, tick_eq l hl, Option.bind_some]
    rw [ttl]
    by_cases hf : fac l = true
    · rw [if_pos hf]
      refine Ev.neg (by simp [hf]) ?_
      have := (wt_le l).2 hf
      have hp := prs_len l 0
      refine Ev.bind (Ev.bind (facing_ev l h1 hl) (Ev.now _)) ?_
      rw [wrap64_id (x := n + ((prs 0 l).length : Int)) (by omega) (by omega)]
      have := ih (twk l) (n + ((prs 0 l).length : Int)) (by rw [twk_len]; exact h1) (by rw [twk_len]; exact hl) (by omega) (by omega) (by push_cast at hn; omega)
      have e : n + ((prs 0 l).length : Int) + (ttl f (twk l) : Int) = n + (((prs 0 l).length + ttl f (twk l) : Nat) : Int) := by push_cast; omega
      rw [e] at this
      exact this
    · rw [if_neg hf]
      exact Ev.pos (by simp [hf]) (Ev.const (by simp))
theorem imCt (l : List UInt8) (hl : l.length ≤ 1000) : Ev (fun k => impl_CountTurns.f k (up l)) (vCt l) := by
  unfold impl_CountTurns.f
  rw [rs_isRow l hl]
  simp only [Option.bind_some]
  by_cases c : rgood l = true
  · simp only [vCt, if_pos c]
    have := imCt_loop 1000000 l 0 (rg_len c).1 hl (wt_1000 l hl) (by omega) (by omega)
    rw [Int.zero_add] at this
    exact Ev.bind this (Ev.now _)
  · simp only [vCt, if_neg c]; exact Ev.now _
theorem spCt_loop : ∀ (f : Nat) (l : List UInt8) (n : Int), l.length ≤ 1000 → wt l ≤ f → 0 ≤ n → n + 1000 * (f : Int) ≤ 1000000000000 → Ev (fun k => spec_CountTurns.l0 k (up l) n) (n + (ttl f l : Int), true) := by
  intro f
  induction f with
  | zero =>
    intro l n hl hw h0 hn
    have hf : fac l = false := by
      rw [← Bool.not_eq_true]; intro hf; have := (wt_le l).2 hf; omega
    refine Ev.succ ?_
    simp only [spec_CountTurns.l0]
    refine Ev.bind (rwPairs_ev l hl) (Ev.neg (by rw [fac_prs, hf]; decide) ?_)
    simp only [ttl]
    exact Ev.const (by simp)
  | succ f ih =>
    intro l n hl hw h0 hn
    refine Ev.succ ?_
    simp only [spec_CountTurns.l0]
    refine Ev.bind (rwPairs_ev l hl) ?_
    rw [ttl]
    by_cases hf : fac l = true
    · rw [if_pos hf]
      have := (wt_le l).2 hf
      have hp := prs_len l 0
      refine Ev.pos ((fac_prs l).2 hf) (Ev.bind (rwPairs_ev l hl) (Ev.bind (rwTick_ev l hl) ?_))
      rw [wrap64_id (x := n + ((prs 0 l).length : Int)) (by omega) (by omega)]
      have := ih (twk l) (n + ((prs 0 l).length : Int)) (by rw [twk_len]; exact hl) (by omega) (by omega) (by push_cast at hn; omega)
      have e : n + ((prs 0 l).length : Int) + (ttl f (twk l) : Int) = n + (((prs 0 l).length + ttl f (twk l) : Nat) : Int) := by push_cast; omega
      rw [e] at this
      exact this
    · rw [if_neg hf]
      exact Ev.neg (by rw [fac_prs]; exact hf) (Ev.const (by simp))
theorem spCt (l : List UInt8) (hl : l.length ≤ 1000) : Ev (fun k => spec_CountTurns.f k (up l)) (vCt l) := by
  unfold spec_CountTurns.f
  refine Ev.bind (rs_rwGood l hl) ?_
  by_cases c : rgood l = true
  · simp only [vCt, if_pos c]
    have := spCt_loop 1000000 l 0 hl (wt_1000 l hl) (by omega) (by omega)
    rw [Int.zero_add] at this
    exact this
  · simp only [vCt, if_neg c]; exact Ev.now _
def vEa (l : List UInt8) : List Int × Bool := if rgood l = true then (tof 1000000 l (List.replicate l.length 0), true) else ([], false)
theorem imEa_loop : ∀ (f : Nat) (l : List UInt8) (o : List Int), 1 ≤ l.length → l.length ≤ 1000 → wt l ≤ f → o.length = l.length → Ev (fun k => impl_TurnsOfEach.l0 k (up l) o) (tof f l o) := by
  intro f
  induction f with
  | zero =>
    intro l o h1 hl hw ho
    have hf : fac l = false := by
      rw [← Bool.not_eq_true]; intro hf; have := (wt_le l).2 hf; omega
    refine Ev.succ ?_
    simp only [impl_TurnsOfEach.l0, isAtRest_eq l hl, Option.bind_some, hf, tof]
    exact Ev.now _
  | succ f ih =>
    intro l o h1 hl hw ho
    refine Ev.succ ?_
    simp only [impl_TurnsOfEach.l0, isAtRest_eq l hl, tick_eq l hl, Option.bind_some]
    rw [tof]
    by_cases hf : fac l = true
    · rw [if_pos hf]
      have := (wt_le l).2 hf
      refine Ev.neg (by simp [hf]) (Ev.bind (clo_ev l o h1 hl ho) ?_)
      exact ih (twk l) _ (by rw [twk_len]; exact h1) (by rw [twk_len]; exact hl) (by omega) (by rw [fold_len, twk_len]; exact ho)
    · rw [if_neg hf]
      exact Ev.pos (by simp [hf]) (Ev.now _)
theorem imEa (l : List UInt8) (hl : l.length ≤ 1000) : Ev (fun k => impl_TurnsOfEach.f k (up l)) (vEa l) := by
  unfold impl_TurnsOfEach.f
  rw [rs_isRow l hl]
  simp only [Option.bind_some]
  by_cases c : rgood l = true
  · simp only [vEa, if_pos c]
    refine Ev.pos (by rw [up_size]; omega) ?_
    rw [up_size]
    exact Ev.bind (imEa_loop 1000000 l _ (rg_len c).1 hl (wt_1000 l hl) (by simp)) (Ev.now _)
  · simp only [vEa, if_neg c]; exact Ev.now _
theorem spEa_l1 (l : List UInt8) (ps : List Int) (hps : ps.length ≤ 1000000) (R : List Int × Bool) : ∀ (d i : Nat) (o : List Int), i + d = ps.length → (∀ p ∈ ps, 0 ≤ p ∧ p + 1 < (o.length : Int)) → o.length ≤ 1000 → l.length ≤ 1000 →
    Ev (fun k => spec_TurnsOfEach.l0 k (up (twk l)) ((ps.drop i).foldl bump o)) R → Ev (fun k => spec_TurnsOfEach.l1 k (up l) o ps (ps.length : Int) (i : Int)) R := by
  intro d
  induction d with
  | zero =>
    intro i o hi hp ho hl hR
    refine Ev.succ ?_
    simp only [spec_TurnsOfEach.l1]
    rw [List.drop_of_length_le (by omega)] at hR
    exact Ev.neg (by omega) (Ev.bind (rwTick_ev l hl) hR)
  | succ d ih =>
    intro i o hi hp ho hl hR
    have hlt : i < ps.length := by omega
    have hm := hp (rd ps (i : Int)) (rd_mem hlt)
    refine Ev.succ ?_
    simp only [spec_TurnsOfEach.l1, Option.bind_some]
    rw [rd_cons_drop hlt, List.foldl_cons] at hR
    rw [wrap64_id (x := (i : Int) + 1) (by omega) (by omega), wrap64_id (x := rd ps (i : Int) + 1) (by omega) (by omega)]
    refine Ev.pos (by omega) (Ev.pos (by omega) (Ev.pos (by omega) (Ev.pos (by omega) (Ev.pos (by omega) (Ev.pos (by omega) (Ev.pos (by omega) ?_))))))
    exact ih (i + 1) (bump o (rd ps (i : Int))) (by omega) (fun p hp' => by rw [bump_len]; exact hp p hp') (by rw [bump_len]; exact ho) hl hR
theorem spEa_loop : ∀ (f : Nat) (l : List UInt8) (o : List Int), l.length ≤ 1000 → wt l ≤ f → o.length = l.length → Ev (fun k => spec_TurnsOfEach.l0 k (up l) o) (tof f l o, true) := by
  intro f
  induction f with
  | zero =>
    intro l o hl hw ho
    have hf : fac l = false := by
      rw [← Bool.not_eq_true]; intro hf; have := (wt_le l).2 hf; omega
    refine Ev.succ ?_
    simp only [spec_TurnsOfEach.l0]
    refine Ev.bind (rwPairs_ev l hl) (Ev.neg (by rw [fac_prs, hf]; decide) ?_)
    exact Ev.now _
  | succ f ih =>
    intro l o hl hw ho
    refine Ev.succ ?_
    simp only [spec_TurnsOfEach.l0]
    refine Ev.bind (rwPairs_ev l hl) ?_
    rw [tof]
    by_cases hf : fac l = true
    · rw [if_pos hf]
      have := (wt_le l).2 hf
      have hp := prs_len l 0
      refine Ev.pos ((fac_prs l).2 hf) (Ev.bind (rwPairs_ev l hl) ?_)
      refine spEa_l1 l (prs 0 l) (by omega) _ (prs 0 l).length 0 o (by omega) (fun p hp => by have := prs_ge l 0 p hp; omega) (by omega) hl ?_
      rw [List.drop_zero]
      exact ih (twk l) _ (by rw [twk_len]; exact hl) (by omega) (by rw [fold_len, twk_len]; exact ho)
    · rw [if_neg hf]
      exact Ev.neg (by rw [fac_prs]; exact hf) (Ev.now _)
theorem spEa (l : List UInt8) (hl : l.length ≤ 1000) : Ev (fun k => spec_TurnsOfEach.f k (up l)) (vEa l) := by
  unfold spec_TurnsOfEach.f
  refine Ev.bind (rs_rwGood l hl) ?_
  by_cases c : rgood l = true
  · simp only [vEa, if_pos c, up_size, Int.toNat_natCast]
    refine Ev.pos (by omega) (Ev.pos (by omega) ?_)
    exact spEa_loop 1000000 l _ hl (wt_1000 l hl) (by simp)
  · simp only [vEa, if_neg c]; exact Ev.now _
def vFp (l : List UInt8) : List Int × Bool := if rgood l = true then (prs 0 l, true) else ([], false)
def vTi (l : List UInt8) : ByteArray × Bool := if rgood l = true then (up (twk l), true) else (up [], false)
def vAt (l : List UInt8) : Bool × Bool := if rgood l = true then (!fac l, true) else (false, false)
theorem imFp (l : List UInt8) (hl : l.length ≤ 1000) : Ev (fun k => impl_FacingPairs.f k (up l)) (vFp l) := by
  unfold impl_FacingPairs.f
  rw [rs_isRow l hl]
  simp only [Option.bind_some]
  by_cases c : rgood l = true
  · simp only [vFp, if_pos c]; exact Ev.bind (facing_ev l (rg_len c).1 hl) (Ev.now _)
  · simp only [vFp, if_neg c]; exact Ev.now _
theorem spFp (l : List UInt8) (hl : l.length ≤ 1000) : Ev (fun k => spec_FacingPairs.f k (up l)) (vFp l) := by
  unfold spec_FacingPairs.f
  refine Ev.bind (rs_rwGood l hl) ?_
  by_cases c : rgood l = true
  · simp only [vFp, if_pos c]; exact Ev.bind (rwPairs_ev l hl) (Ev.now _)
  · simp only [vFp, if_neg c]; exact Ev.now _
theorem imTi (l : List UInt8) (hl : l.length ≤ 1000) : impl_TickRow.f (up l) = some (vTi l) := by
  unfold impl_TickRow.f
  rw [rs_isRow l hl]
  simp only [Option.bind_some]
  by_cases c : rgood l = true
  · simp only [vTi, if_pos c, tick_eq l hl, Option.bind_some]
  · simp only [vTi, if_neg c]
theorem spTi (l : List UInt8) (hl : l.length ≤ 1000) : Ev (fun k => spec_TickRow.f k (up l)) (vTi l) := by
  unfold spec_TickRow.f
  refine Ev.bind (rs_rwGood l hl) ?_
  by_cases c : rgood l = true
  · simp only [vTi, if_pos c]; exact Ev.bind (rwTick_ev l hl) (Ev.now _)
  · simp only [vTi, if_neg c]; exact Ev.now _
theorem imAt (l : List UInt8) (hl : l.length ≤ 1000) : impl_IsAtRest.f (up l) = some (vAt l) := by
  unfold impl_IsAtRest.f
  rw [rs_isRow l hl]
  simp only [Option.bind_some]
  by_cases c : rgood l = true
  · simp only [vAt, if_pos c, isAtRest_eq l hl, Option.bind_some]
  · simp only [vAt, if_neg c]
theorem len_fac (l : List UInt8) : (((prs 0 l).length : Int) == 0) = !fac l := by
  have h := fac_prs l
  cases hf : fac l
  · rw [hf] at h
    have : ¬ ((prs 0 l).length : Int) > 0 := fun c => absurd (h.1 c) (by decide)
    exact beq_iff_eq.2 (by omega)
  · have := h.2 hf
    exact beq_eq_false_iff_ne.2 (by omega)
theorem spAt (l : List UInt8) (hl : l.length ≤ 1000) : Ev (fun k => spec_IsAtRest.f k (up l)) (vAt l) := by
  unfold spec_IsAtRest.f
  refine Ev.bind (rs_rwGood l hl) ?_
  by_cases c : rgood l = true
  · simp only [vAt, if_pos c]
    refine Ev.bind (rwPairs_ev l hl) ?_
    rw [len_fac]; exact Ev.now _
  · simp only [vAt, if_neg c]; exact Ev.now _
def vMi (l : List UInt8) : ByteArray × Bool := if rgood l = true then (up (mir l), true) else (up [], false)
def vTu (l : List UInt8) : ByteArray × Bool := if rgood l = true then (up (l.map flp), true) else (up [], false)
theorem rs_other (b : UInt8) (h : sgn b = true) : spec_rwOther.f (b.toNat : Int) = some (up [flp b]) := by
  unfold spec_rwOther.f
  rcases sgn_is h with rfl | rfl <;> rfl
theorem rs_turned (l : List UInt8) (hg : l.all sgn = true) (hl : l.length ≤ 1000) : impl_turned.f (up l) = some (up (l.map flp)) := by
  unfold impl_turned.f
  have e : (up l).data.toList = l := L_mk l
  rw [if_pos (by rw [up_size]; omega), e, map_flp l hg]
theorem imMi (l : List UInt8) (hl : l.length ≤ 1000) : impl_MirrorRow.f (up l) = some (vMi l) := by
  unfold impl_MirrorRow.f
  rw [rs_isRow l hl]
  simp only [Option.bind_some]
  by_cases c : rgood l = true
  · simp only [vMi, if_pos c, rs_turned l (rg_all c) hl, Option.bind_some]
    rw [if_pos (by rw [up_size]; simp; omega)]
    simp [mir]
  · simp only [vMi, if_neg c]
theorem imTu (l : List UInt8) (hl : l.length ≤ 1000) : impl_TurnedRow.f (up l) = some (vTu l) := by
  unfold impl_TurnedRow.f
  rw [rs_isRow l hl]
  simp only [Option.bind_some]
  by_cases c : rgood l = true
  · simp only [vTu, if_pos c, rs_turned l (rg_all c) hl, Option.bind_some]
  · simp only [vTu, if_neg c]
theorem spMi_loop (l : List UInt8) (hg : l.all sgn = true) (hl : l.length ≤ 1000) : ∀ (m : Nat), m ≤ l.length → Ev (fun k => spec_MirrorRow.l0 k (up l) (up ((l.drop m).map flp).reverse) ((m : Int) - 1)) (up (mir l), true) := by
  intro m
  induction m with
  | zero =>
    intro h
    refine Ev.succ ?_
    simp only [spec_MirrorRow.l0]
    refine Ev.neg (by omega) (Ev.const ?_)
    rfl
  | succ m ih =>
    intro h
    have hm : m < l.length := by omega
    refine Ev.succ ?_
    simp only [spec_MirrorRow.l0]
    have eb : bt (up l) (m : Int) = ((l[m].toNat : Nat) : Int) := by
      have := bt_nat (up l) m (by rw [L_mk]; exact hm)
      rw [this]
    rw [show ((m + 1 : Nat) : Int) - 1 = (m : Int) by omega, eb, rs_other _ (List.all_eq_true.1 hg _ (List.getElem_mem hm)), wrap64_id (x := (m : Int) - 1) (by omega) (by omega), up_isize]
    simp only [Option.bind_some, up_app, up_size]
    have e : ((l.drop (m + 1)).map flp).reverse ++ [flp l[m]] = ((l.drop m).map flp).reverse := by
      rw [List.drop_eq_getElem_cons hm, List.map_cons, List.reverse_cons]
    rw [e]
    exact Ev.pos (by omega) (Ev.pos (by omega) (Ev.pos (by omega) (Ev.pos (by simp; omega) (ih (by omega)))))
theorem spMi (l : List UInt8) (hl : l.length ≤ 1000) : Ev (fun k => spec_MirrorRow.f k (up l)) (vMi l) := by
  unfold spec_MirrorRow.f
  refine Ev.bind (rs_rwGood l hl) ?_
  by_cases c : rgood l = true
  · simp only [vMi, if_pos c, up_isize]
    have h1 := rg_len c
    rw [wrap64_id (x := (l.length : Int) - 1) (by omega) (by omega)]
    have := spMi_loop l (rg_all c) hl l.length (Nat.le_refl _)
    rw [List.drop_of_length_le (Nat.le_refl _)] at this
    exact this
  · simp only [vMi, if_neg c]; exact Ev.now _
theorem spTu_loop (l : List UInt8) (hg : l.all sgn = true) (hl : l.length ≤ 1000) : ∀ (d i : Nat), i + d = l.length → Ev (fun k => spec_TurnedRow.l0 k (up l) (up ((l.take i).map flp)) (i : Int)) (up (l.map flp), true) := by
  intro d
  induction d with
  | zero =>
    intro i h
    refine Ev.succ ?_
    simp only [spec_TurnedRow.l0, up_isize]
    refine Ev.neg (by omega) (Ev.const ?_)
    rw [List.take_of_length_le (by omega)]
  | succ d ih =>
    intro i h
    have hm : i < l.length := by omega
    refine Ev.succ ?_
    simp only [spec_TurnedRow.l0]
    have eb : bt (up l) (i : Int) = ((l[i].toNat : Nat) : Int) := by
      have := bt_nat (up l) i (by rw [L_mk]; exact hm)
      rw [this]
    rw [eb, rs_other _ (List.all_eq_true.1 hg _ (List.getElem_mem hm)), wrap64_id (x := (i : Int) + 1) (by omega) (by omega), up_isize]
    simp only [Option.bind_some, up_app, up_size]
    have e : (l.take i).map flp ++ [flp l[i]] = (l.take (i + 1)).map flp := by
      rw [List.take_succ_eq_append_getElem hm, List.map_append]; rfl
    rw [e]
    have := ih (i + 1) (by omega)
    exact Ev.pos (by omega) (Ev.pos (by omega) (Ev.pos (by simp; omega) this))
theorem spTu (l : List UInt8) (hl : l.length ≤ 1000) : Ev (fun k => spec_TurnedRow.f k (up l)) (vTu l) := by
  unfold spec_TurnedRow.f
  refine Ev.bind (rs_rwGood l hl) ?_
  by_cases c : rgood l = true
  · simp only [vTu, if_pos c]
    have := spTu_loop l (rg_all c) hl l.length 0 (by omega)
    exact this
  · simp only [vTu, if_neg c]; exact Ev.now _
def vNu (l : List UInt8) : Int × Bool := if rgood l = true then ((num l 0 : Int), true) else (0, false)
def vRn (n m : Int) : ByteArray × Bool := if (1 ≤ n ∧ n ≤ 60) ∧ 0 ≤ m ∧ m ≤ ((2 ^ n.toNat : Nat) : Int) - 1 then (up (mk n.toNat m.toNat), true) else (up [], false)
theorem num_split (l : List UInt8) (i : Nat) (h : i < l.length) (a : Nat) : num (l.drop i) a = num (l.drop (i + 1)) (2 * a + if l[i] = 62 then 1 else 0) := by
  rw [List.drop_eq_getElem_cons h, num]
theorem imNu_loop (l : List UInt8) (hl : l.length ≤ 60) : ∀ (d i a : Nat), i + d = l.length → a < 2 ^ i → Ev (fun k => impl_NumberOfRow.l0 k (up l) (a : Int) (l.length : Int) (i : Int)) ((num (l.drop i) a : Int), true) := by
  intro d
  induction d with
  | zero =>
    intro i a h ha
    refine Ev.succ ?_
    simp only [impl_NumberOfRow.l0]
    rw [List.drop_of_length_le (by omega)]
    exact Ev.neg (by omega) (Ev.now _)
  | succ d ih =>
    intro i a h ha
    have hi : i < l.length := by omega
    have h60 := two60 (n := i) (by omega)
    refine Ev.succ ?_
    simp only [impl_NumberOfRow.l0, up_isize]
    rw [wrap64_id (x := (a : Int) * 2) (by omega) (by omega), wrap64_id (x := (a : Int) * 2 + 1) (by omega) (by omega), wrap64_id (x := (i : Int) + 1) (by omega) (by omega), num_split l i hi]
    refine Ev.pos (by omega) (Ev.pos (by omega) (Ev.pos (by omega) (Ev.iff (fun c => ?_) (fun c => ?_))))
    · rw [up62 l i hi] at c
      rw [if_pos c, show (a : Int) * 2 + 1 = ((2 * a + 1 : Nat) : Int) by omega]
      exact ih (i + 1) (2 * a + 1) (by omega) (by rw [Nat.pow_succ]; omega)
    · rw [up62 l i hi] at c
      rw [if_neg c, show (a : Int) * 2 = ((2 * a + 0 : Nat) : Int) by omega]
      exact ih (i + 1) (2 * a + 0) (by omega) (by rw [Nat.pow_succ]; omega)
theorem imNu (l : List UInt8) (hl : l.length ≤ 1000) : Ev (fun k => impl_NumberOfRow.f k (up l)) (vNu l) := by
  unfold impl_NumberOfRow.f
  rw [rs_isRow l hl]
  simp only [Option.bind_some]
  by_cases c : rgood l = true
  · simp only [vNu, if_pos c, up_isize]
    have := imNu_loop l (rg_len c).2 l.length 0 0 (by omega) (by decide)
    exact this
  · simp only [vNu, if_neg c]; exact Ev.now _
theorem spNu_loop (l : List UInt8) (hl : l.length ≤ 60) : ∀ (d i a : Nat), i + d = l.length → a < 2 ^ i → Ev (fun k => spec_NumberOfRow.l0 k (up l) (a : Int) (i : Int)) ((num (l.drop i) a : Int), true) := by
  intro d
  induction d with
  | zero =>
    intro i a h ha
    refine Ev.succ ?_
    simp only [spec_NumberOfRow.l0, up_isize]
    rw [List.drop_of_length_le (by omega)]
    exact Ev.neg (by omega) (Ev.now _)
  | succ d ih =>
    intro i a h ha
    have hi : i < l.length := by omega
    have h60 := two60 (n := i) (by omega)
    refine Ev.succ ?_
    simp only [spec_NumberOfRow.l0, up_isize]
    rw [wrap64_id (x := (a : Int) * 2) (by omega) (by omega), wrap64_id (x := (a : Int) * 2 + 1) (by omega) (by omega), wrap64_id (x := (i : Int) + 1) (by omega) (by omega), num_split l i hi]
    refine Ev.pos (by omega) (Ev.pos (by omega) (Ev.iff (fun c => ?_) (fun c => ?_)))
    · rw [up62 l i hi] at c
      rw [if_pos c, show (a : Int) * 2 + 1 = ((2 * a + 1 : Nat) : Int) by omega]
      exact ih (i + 1) (2 * a + 1) (by omega) (by rw [Nat.pow_succ]; omega)
    · rw [up62 l i hi] at c
      rw [if_neg c, show (a : Int) * 2 = ((2 * a + 0 : Nat) : Int) by omega]
      exact ih (i + 1) (2 * a + 0) (by omega) (by rw [Nat.pow_succ]; omega)
theorem spNu (l : List UInt8) (hl : l.length ≤ 1000) : Ev (fun k => spec_NumberOfRow.f k (up l)) (vNu l) := by
  unfold spec_NumberOfRow.f
  refine Ev.bind (rs_rwGood l hl) ?_
  by_cases c : rgood l = true
  · simp only [vNu, if_pos c]
    have := spNu_loop l (rg_len c).2 l.length 0 0 (by omega) (by decide)
    exact this
  · simp only [vNu, if_neg c]; exact Ev.now _
theorem top_eq (n : Int) (h : 1 ≤ n ∧ n ≤ 60) : wrap64 (shl .i64 1 n - 1) = ((2 ^ n.toNat : Nat) : Int) - 1 := by
  have e : n = ((n.toNat : Nat) : Int) := by omega
  have := two60 (n := n.toNat) (by omega)
  have hs := shl_one n.toNat (by omega)
  rw [← e] at hs
  have hp : 0 < 2 ^ n.toNat := Nat.pow_pos (by decide)
  rw [hs]
  generalize 2 ^ n.toNat = q at *
  exact wrap64_id (by omega) (by omega)
theorem imRn (n m : Int) : Ev (fun k => impl_RowOfNumber.f k n m) (vRn n m) := by
  unfold impl_RowOfNumber.f
  rw [in_eq]
  simp only [Option.bind_some, decide_eq_true_eq]
  by_cases c : 1 ≤ n ∧ n ≤ 60
  · have hp := two60 (n := n.toNat) (by omega)
    refine Ev.pos c (Ev.pos (by omega) ?_)
    rw [in_eq, top_eq n c]
    simp only [Option.bind_some, decide_eq_true_eq]
    by_cases c2 : 0 ≤ m ∧ m ≤ ((2 ^ n.toNat : Nat) : Int) - 1
    · simp only [vRn, if_pos c2, if_pos (And.intro c c2)]
      have := rowOf_ev n.toNat m.toNat (by omega) (by omega)
      rw [Int.toNat_of_nonneg (by omega), Int.toNat_of_nonneg c2.1] at this
      exact Ev.bind this (Ev.now _)
    · simp only [vRn, if_neg c2, if_neg (fun h : (1 ≤ n ∧ n ≤ 60) ∧ 0 ≤ m ∧ m ≤ ((2 ^ n.toNat : Nat) : Int) - 1 => c2 h.2)]; exact Ev.now _
  · simp only [vRn, if_neg c, if_neg (fun h : (1 ≤ n ∧ n ≤ 60) ∧ 0 ≤ m ∧ m ≤ ((2 ^ n.toNat : Nat) : Int) - 1 => c h.1)]; exact Ev.now _
theorem spRn (n m : Int) : Ev (fun k => spec_RowOfNumber.f k n m) (vRn n m) := by
  unfold spec_RowOfNumber.f
  rw [l1In_eq]
  simp only [Option.bind_some, decide_eq_true_eq]
  by_cases c : 1 ≤ n ∧ n ≤ 60
  · have hp := two60 (n := n.toNat) (by omega)
    refine Ev.pos c (Ev.pos (by omega) ?_)
    rw [l1In_eq, top_eq n c]
    simp only [Option.bind_some, decide_eq_true_eq]
    by_cases c2 : 0 ≤ m ∧ m ≤ ((2 ^ n.toNat : Nat) : Int) - 1
    · simp only [vRn, if_pos c2, if_pos (And.intro c c2)]
      have := rwMake_ev n.toNat m.toNat (by omega) (by omega)
      rw [Int.toNat_of_nonneg (by omega), Int.toNat_of_nonneg c2.1] at this
      exact Ev.bind this (Ev.now _)
    · simp only [vRn, if_neg c2, if_neg (fun h : (1 ≤ n ∧ n ≤ 60) ∧ 0 ≤ m ∧ m ≤ ((2 ^ n.toNat : Nat) : Int) - 1 => c2 h.2)]; exact Ev.now _
  · simp only [vRn, if_neg c, if_neg (fun h : (1 ≤ n ∧ n ≤ 60) ∧ 0 ≤ m ∧ m ≤ ((2 ^ n.toNat : Nat) : Int) - 1 => c h.1)]; exact Ev.now _
def vRa (l : List UInt8) (t : Int) : ByteArray × Bool := if rgood l = true ∧ 0 ≤ t ∧ t ≤ 1000000 then (up (twn t.toNat l), true) else (up [], false)
theorem spRa_loop : ∀ (t : Nat) (l : List UInt8), l.length ≤ 1000 → t ≤ 1000000000 → Ev (fun k => spec_RowAfter.l0 k (up l) (t : Int)) (up (twn t l), true) := by
  intro t
  induction t with
  | zero =>
    intro l hl ht
    refine Ev.succ ?_
    simp only [spec_RowAfter.l0]
    exact Ev.neg (by omega) (Ev.now _)
  | succ t ih =>
    intro l hl ht
    refine Ev.succ ?_
    simp only [spec_RowAfter.l0]
    refine Ev.pos (by omega) (Ev.bind (rwPairs_ev l hl) ?_)
    by_cases hf : fac l = true
    · refine Ev.pos ((fac_prs l).2 hf) (Ev.bind (rwTick_ev l hl) ?_)
      rw [show ((t + 1 : Nat) : Int) - 1 = (t : Int) by omega, wrap64_id (x := (t : Int)) (by omega) (by omega), twn]
      exact ih (twk l) (by rw [twk_len]; exact hl) (by omega)
    · have hf' := hf
      rw [Bool.not_eq_true] at hf'
      rw [twn_rest _ _ hf']
      exact Ev.neg (by rw [fac_prs]; exact hf) (Ev.now _)
theorem imRa (l : List UInt8) (t : Int) (hl : l.length ≤ 1000) : Ev (fun k => impl_RowAfter.f k (up l) t) (vRa l t) := by
  by_cases c : rgood l = true ∧ 0 ≤ t ∧ t ≤ 1000000
  · simp only [vRa, if_pos c]; exact after_ev l t c.1 c.2.1 c.2.2
  · simp only [vRa, if_neg c]
    unfold impl_RowAfter.f
    rw [rs_isRow l hl]
    simp only [Option.bind_some]
    refine Ev.iff (fun h => ?_) (fun _ => ?_)
    · rw [in_eq]
      simp only [Option.bind_some]
      rw [decide_eq_false (fun h2 => c ⟨h, h2⟩)]
      refine Ev.succ ?_
      simp only [impl_RowAfter.j0]
      exact Ev.pos (by first | rfl | trivial) (Ev.now _)
    · refine Ev.succ ?_
      simp only [impl_RowAfter.j0]
      exact Ev.pos (by first | rfl | trivial) (Ev.now _)
theorem spRa (l : List UInt8) (t : Int) (hl : l.length ≤ 1000) : Ev (fun k => spec_RowAfter.f k (up l) t) (vRa l t) := by
  unfold spec_RowAfter.f
  refine Ev.bind (rs_rwGood l hl) ?_
  refine Ev.iff (fun h => ?_) (fun h => ?_)
  · rw [l1In_eq]
    simp only [Option.bind_some]
    refine Ev.succ ?_
    simp only [spec_RowAfter.j0]
    by_cases c : 0 ≤ t ∧ t ≤ 1000000
    · rw [decide_eq_true c]
      refine Ev.neg (by decide) ?_
      simp only [vRa, if_pos (And.intro h c)]
      have := spRa_loop t.toNat l hl (by omega)
      rw [Int.toNat_of_nonneg c.1] at this
      exact this
    · rw [decide_eq_false c]
      simp only [vRa, if_neg (fun h2 : rgood l = true ∧ 0 ≤ t ∧ t ≤ 1000000 => c h2.2)]
      exact Ev.pos (by first | rfl | trivial) (Ev.now _)
  · refine Ev.succ ?_
    simp only [spec_RowAfter.j0, vRa, if_neg (fun h2 : rgood l = true ∧ 0 ≤ t ∧ t ≤ 1000000 => h h2.1)]
    exact Ev.pos (by first | rfl | trivial) (Ev.now _)
theorem mSum_loop (o : List Int) (hl : o.length ≤ 1000) (hb : ∀ x ∈ o, 0 ≤ x ∧ x ≤ 4000000000000) : ∀ (d i : Nat) (a : Int), i + d = o.length → 0 ≤ a → a ≤ 4000000000000 * (i : Int) → Ev (fun k => laws_mSum.l0 k a o (o.length : Int) (i : Int)) (a + (o.drop i).sum) := by
  intro d
  induction d with
  | zero =>
    intro i a h h0 h1
    refine Ev.succ ?_
    simp only [laws_mSum.l0]
    rw [List.drop_of_length_le (by omega)]
    exact Ev.neg (by omega) (Ev.const (by simp))
  | succ d ih =>
    intro i a h h0 h1
    have hi : i < o.length := by omega
    have hm := hb _ (rd_mem hi)
    refine Ev.succ ?_
    simp only [laws_mSum.l0]
    rw [rd_cons_drop hi, List.sum_cons, wrap64_id (x := a + rd o (i : Int)) (by omega) (by omega), wrap64_id (x := (i : Int) + 1) (by omega) (by omega), ← Int.add_assoc]
    exact Ev.pos (by omega) (Ev.pos (by omega) (Ev.pos (by omega) (ih (i + 1) (a + rd o (i : Int)) (by omega) (by omega) (by push_cast; omega))))
theorem mSum_ev (o : List Int) (hl : o.length ≤ 1000) (hb : ∀ x ∈ o, 0 ≤ x ∧ x ≤ 4000000000000) : Ev (fun k => laws_mSum.f k o) o.sum := by
  unfold laws_mSum.f
  have := mSum_loop o hl hb o.length 0 0 (by omega) (by omega) (by omega)
  rw [List.drop_zero, Int.zero_add] at this
  exact this
theorem drawRow_rs (code : List Int) (hc : ∀ x ∈ code, 0 ≤ x ∧ x ≤ 255) : ∃ l : List UInt8, l.length ≤ 1000 ∧ Ev (fun k => spec_DrawIsRow.f k code) (up l) := by
  obtain ⟨r, p, s, e, hr, _, _⟩ := row_ok code hc 0 0 20 (by omega) (by omega) (by omega)
  refine ⟨L r, by rw [← size_L]; exact hr, ?_⟩
  unfold spec_DrawIsRow.f
  rw [← up_L]
  exact Ev.bind e (Ev.now _)
theorem drawTk (code : List Int) (hc : ∀ x ∈ code, 0 ≤ x ∧ x ≤ 255) : ∃ l : List UInt8, l.length ≤ 1000 ∧ Ev (fun k => spec_DrawTicksToRest.f k code) (up l) := by
  obtain ⟨l, hl, e⟩ := drawRow_rs code hc
  refine ⟨l, hl, ?_⟩
  unfold spec_DrawTicksToRest.f
  exact Ev.bind e (Ev.now _)
theorem drawNu (code : List Int) (hc : ∀ x ∈ code, 0 ≤ x ∧ x ≤ 255) : ∃ l : List UInt8, l.length ≤ 1000 ∧ Ev (fun k => spec_DrawNumberOfRow.f k code) (up l) := by
  obtain ⟨l, hl, e⟩ := drawRow_rs code hc
  refine ⟨l, hl, ?_⟩
  unfold spec_DrawNumberOfRow.f
  exact Ev.bind e (Ev.now _)
theorem drawRa (code : List Int) (hc : ∀ x ∈ code, 0 ≤ x ∧ x ≤ 255) : ∃ (l : List UInt8) (t : Int), l.length ≤ 1000 ∧ Ev (fun k => spec_DrawRowAfter.f k code) (up l, t) := by
  obtain ⟨r, p, s, e, hr, h0, h1⟩ := row_ok code hc 0 0 20 (by omega) (by omega) (by omega)
  obtain ⟨t, p2, s2, e2, _, _, _⟩ := among_ok code hc p s [0, 1, 2, 3, 5, 8, 30, 1000000, 1000001, -1] (by simp) (by omega) (by omega)
  refine ⟨L r, t, by rw [← size_L]; exact hr, ?_⟩
  unfold spec_DrawRowAfter.f
  rw [← up_L]
  refine Ev.bind e ?_
  dsimp only
  rw [e2]
  exact Ev.now _
theorem drawRn (code : List Int) (hc : ∀ x ∈ code, 0 ≤ x ∧ x ≤ 255) : ∃ n m : Int, spec_DrawRowOfNumber.f code = some (n, m) := by
  unfold spec_DrawRowOfNumber.f
  obtain ⟨b, p, s, e, h0, h1⟩ := one_ok code hc 0 0 5 (by omega) (by omega)
  rw [e]
  simp only [Option.bind_some]
  cases b with
  | true =>
    rw [if_pos rfl]
    obtain ⟨n, p2, s2, e2, _, h2, h3⟩ := among_ok code hc p s [0, 1, 60, 61, 3] (by simp) (by omega) (by omega)
    rw [e2]
    simp only [Option.bind_some]
    obtain ⟨m, p3, s3, e3, _, _, _⟩ := among_ok code hc p2 s2 [0, -1, 576460752303423488, 1152921504606846976, 4611686018427387904, 8] (by simp) (by omega) (by omega)
    rw [e3]
    exact ⟨_, _, rfl⟩
  | false =>
    rw [if_neg (by decide)]
    obtain ⟨n, p2, s2, e2, _, _, h2, h3⟩ := pick_ok code hc p s 12 (by omega) (by omega)
    rw [e2]
    simp only [Option.bind_some]
    obtain ⟨m, p3, s3, e3, _, _, _, _⟩ := pick_ok code hc p2 s2 300 (by omega) (by omega)
    rw [e3]
    exact ⟨_, _, rfl⟩
theorem rr_bne (b : Bool) : ¬ ((b != b) = true) := by simp
theorem rr_tail (n m : Int) : Ev (fun k => if (vRn n m).2 = true then ((impl_NumberOfRow.f k (vRn n m).1).bind fun bt => (if bt.2 = true then (if bt.1 = m then (some (((vRn n m).1.size : Int) == n)) else (some false)) else (some false))) else (some true)) true := by
  by_cases c : (1 ≤ n ∧ n ≤ 60) ∧ 0 ≤ m ∧ m ≤ ((2 ^ n.toNat : Nat) : Int) - 1
  · have hv : vRn n m = (up (mk n.toNat m.toNat), true) := by simp only [vRn, if_pos c]
    rw [hv]
    have hlen := mk_len n.toNat m.toNat
    have hg := mk_good n.toNat m.toNat (by omega)
    refine Ev.pos rfl (Ev.bind (imNu (mk n.toNat m.toNat) (by omega)) ?_)
    have hn : vNu (mk n.toNat m.toNat) = (m, true) := by
      simp only [vNu, if_pos hg]
      rw [num_mk n.toNat m.toNat (by omega)]
      rw [Int.toNat_of_nonneg c.2.1]
    rw [hn]
    refine Ev.pos rfl (Ev.pos rfl (Ev.const ?_))
    rw [up_isize, hlen, Int.toNat_of_nonneg (by omega)]
    simp
  · have hv : vRn n m = (up [], false) := by simp only [vRn, if_neg c]
    rw [hv]
    exact Ev.neg (by decide) (Ev.now _)
theorem rr_l4 (n m : Int) (t : Nat) (ht : t ≤ 30) (R : List UInt8) : ∀ (d i : Nat) (c : List UInt8), i + d = t → rgood c = true → twn d c = R →
    Ev (fun k => laws_FnRowsRest.l4 k (t : Int) (up R) n m (vRn n m).1 (vRn n m).2 (up c) (i : Int)) true := by
  intro d
  induction d with
  | zero =>
    intro i c hi hg hR
    refine Ev.succ ?_
    simp only [laws_FnRowsRest.l4]
    rw [twn] at hR
    refine Ev.neg (by omega) (Ev.pos (by rw [hR]) ?_)
    exact rr_tail n m
  | succ d ih =>
    intro i c hi hg hR
    have hl := rg_len hg
    refine Ev.succ ?_
    simp only [laws_FnRowsRest.l4]
    rw [imTi c (by omega)]
    simp only [Option.bind_some, vTi, if_pos hg]
    rw [wrap64_id (x := (i : Int) + 1) (by omega) (by omega)]
    exact Ev.pos (by omega) (Ev.pos (by first | rfl | trivial) (ih (i + 1) (twk c) (by omega) (rg_twk hg) hR))
theorem rr_j7 (l : List UInt8) (t n m : Int) (b : Bool) (h : b = true → rgood l = true ∧ 0 ≤ t ∧ t ≤ 30) : Ev (fun k => laws_FnRowsRest.j7 k (up l) t (vRa l t).1 n m (vRn n m).1 (vRn n m).2 b) true := by
  refine Ev.succ ?_
  simp only [laws_FnRowsRest.j7]
  refine Ev.iff (fun hb => ?_) (fun _ => rr_tail n m)
  obtain ⟨h1, h2, h3⟩ := h hb
  simp only [vRa, if_pos (show rgood l = true ∧ 0 ≤ t ∧ t ≤ 1000000 from ⟨h1, h2, by omega⟩)]
  have := rr_l4 n m t.toNat (by omega) (twn t.toNat l) t.toNat 0 l (by omega) h1 rfl
  rw [Int.toNat_of_nonneg h2] at this
  exact this
theorem rr_j6 (more : List Int) (hm : ∀ x ∈ more, 0 ≤ x ∧ x ≤ 255) : Ev (fun k => laws_FnRowsRest.j6 k more) true := by
  obtain ⟨l, t, hl, e1⟩ := drawRa more hm
  obtain ⟨n, m, e2⟩ := drawRn more hm
  obtain ⟨b, hb, e3⟩ := drawNu more hm
  refine Ev.succ ?_
  simp only [laws_FnRowsRest.j6]
  refine Ev.bind e1 (Ev.bind (imRa l t hl) (Ev.bind (spRa l t hl) ?_))
  rw [e2]
  simp only [Option.bind_some]
  refine Ev.bind (imRn n m) (Ev.bind (spRn n m) (Ev.bind e3 (Ev.bind (imNu b hb) (Ev.bind (spNu b hb) ?_))))
  refine Ev.neg (rr_bne _) (Ev.pos (by first | rfl | trivial) (Ev.neg (rr_bne _) (Ev.pos (by first | rfl | trivial) (Ev.neg (rr_bne _) (Ev.pos (by first | rfl | trivial) ?_)))))
  refine Ev.iff (fun h => ?_) (fun _ => rr_j7 l t n m false (fun h => absurd h (by decide)))
  refine rr_j7 l t n m _ (fun h2 => ?_)
  have h3 := of_decide_eq_true h2
  by_cases c : rgood l = true ∧ 0 ≤ t ∧ t ≤ 1000000
  · exact ⟨c.1, c.2.1, h3⟩
  · simp only [vRa, if_neg c] at h; exact absurd h (by decide)
theorem rr_j5 (more : List Int) (l : List UInt8) (hg : rgood l = true) (h6 : Ev (fun k => laws_FnRowsRest.j6 k more) true) : Ev (fun k => laws_FnRowsRest.j5 k more (up l) false) true := by
  have hl := rg_len hg
  refine Ev.succ ?_
  simp only [laws_FnRowsRest.j5]
  refine Ev.neg (by decide) (Ev.bind (imNu l (by omega)) ?_)
  have hn : vNu l = ((num l 0 : Int), true) := by simp only [vNu, if_pos hg]
  rw [hn]
  dsimp only
  rw [up_isize]
  refine Ev.bind (imRn (l.length : Int) (num l 0 : Int)) ?_
  have hlt := num_lt l 0 0 (by decide)
  rw [Nat.zero_add] at hlt
  have hv : vRn (l.length : Int) (num l 0 : Int) = (up l, true) := by
    simp only [vRn, Int.toNat_natCast]
    rw [if_pos ⟨by omega, by omega, by omega⟩]
    have := mk_num l 0 0 (rg_all hg)
    rw [Nat.zero_add] at this
    rw [this]; rfl
  rw [hv]
  exact Ev.pos (by first | rfl | trivial) (Ev.pos (by first | rfl | trivial) (Ev.pos (by first | rfl | trivial) h6))
theorem up_btn (l : List UInt8) (i : Nat) (h : i < l.length) : bt (up l) (i : Int) = ((l[i].toNat : Nat) : Int) := by
  have := bt_nat (up l) i (by rw [L_mk]; exact h)
  rw [this]
theorem bt_ne (a b : List UInt8) (i : Nat) (h : i < a.length) (h' : i < b.length) : (bt (up a) (i : Int) != bt (up b) (i : Int)) = decide (a[i] ≠ b[i]) := by
  rw [up_btn a i h, up_btn b i h']
  by_cases c : a[i] = b[i]
  · rw [c]; simp
  · rw [decide_eq_true c]
    exact bne_iff_ne.2 (fun e => c ((u8_eq _ _).1 e))
theorem bt_asc (l : List UInt8) (hs : l.all sgn = true) (i : Nat) (h : i < l.length) : bt (up l) (i : Int) < 128 := by
  rw [up_btn l i h]
  rcases sgn_or (List.all_eq_true.1 hs _ (List.getElem_mem h)) with e | e <;> rw [e] <;> decide
theorem rr_l3 (more : List Int) (l : List UInt8) (hg : rgood l = true) (h6 : Ev (fun k => laws_FnRowsRest.j6 k more) true) : ∀ (d i : Nat), i + d = l.length →
    Ev (fun k => laws_FnRowsRest.l3 k more (up l) ((rst 1000000 l).2 : Int) (prs 0 l) (up (twk l)) (up (mir l)) (up (l.map flp)) (i : Int) (up l)) true := by
  have hl := rg_len hg
  have hs := rg_all hg
  have hw := wt_1000 l (by omega)
  intro d
  induction d with
  | zero =>
    intro i hi
    have hgm := rg_mir hg
    have hgt := rg_twk hg
    have hml := mir_len l
    have htl := twk_len l
    refine Ev.succ ?_
    simp only [laws_FnRowsRest.l3]
    rw [imMi (mir l) (by omega)]
    simp only [Option.bind_some, up_isize]
    refine Ev.neg (by omega) (Ev.bind (imTk (mir l) (by omega)) (Ev.bind (imTk (twk l) (by omega)) ?_))
    simp only [vTk, vMi, if_pos hgm, if_pos hgt]
    rw [rst_mir 1000000 l hs, mir_mir l hs]
    refine Ev.pos (by first | rfl | trivial) (Ev.pos (by first | rfl | trivial) (Ev.pos (by first | rfl | trivial) (Ev.pos (by first | rfl | trivial) (Ev.pos (by first | rfl | trivial) ?_))))
    have h5 := rr_j5 more l hg h6
    have hle := rst_le 1000000 l
    by_cases hf : fac l = true
    · have hn := rst_next 1000000 l hw hf
      refine Ev.pos (by omega) (Ev.pos ?_ (Ev.neg (by omega) h5))
      rw [wrap64_id (by omega) (by omega)]; omega
    · rw [Bool.not_eq_true] at hf
      have hz := (rst_zero 1000000 l hw).2 hf
      refine Ev.neg (by omega) (Ev.pos (by omega) ?_)
      rw [twk_rest l hf]
      have e : ((up l).toList != (up l).toList) = false := by simp
      rw [e]; exact h5
  | succ d ih =>
    intro i hi
    have h := ih (i + 1) (by omega)
    have hlt : i < l.length := by omega
    have htl : (twk l).length = l.length := twk_len l
    have hml : (mir l).length = l.length := mir_len l
    have hfl : (l.map flp).length = l.length := by simp
    have hpl := prs_len l 0
    have hasc := bt_asc l hs i hlt
    have hat := tick_at l hs i hlt (by omega)
    rw [← bt_ne (twk l) l i (by omega) hlt] at hat
    have hne : ¬ (bt (up (l.map flp)) (i : Int) = bt (up l) (i : Int)) := by
      rw [up_btn _ i (by omega), up_btn l i hlt, u8_eq, List.getElem_map]
      exact flp_ne (List.all_eq_true.1 hs _ (List.getElem_mem hlt))
    have hmi : bt (up (mir l)) (i : Int) = bt (up (l.map flp)) ((l.length - 1 - i : Nat) : Int) := by
      rw [up_btn _ i (by omega), up_btn _ (l.length - 1 - i) (by omega), u8_eq, List.getElem_map]
      have := mir_at l i hlt
      rw [List.getElem?_eq_getElem (by omega), List.getElem?_eq_getElem (by omega)] at this
      exact Option.some.inj this
    refine Ev.succ ?_
    simp only [laws_FnRowsRest.l3, up_isize]
    rw [wrap64_id (x := (l.length : Int) - 1) (by omega) (by omega), wrap64_id (x := (l.length : Int) - 1 - (i : Int)) (by omega) (by omega), wrap64_id (x := (i : Int) - 1) (by omega) (by omega), show (l.length : Int) - 1 - (i : Int) = ((l.length - 1 - i : Nat) : Int) by omega, show (i : Int) + 1 = ((i + 1 : Nat) : Int) by omega]
    refine Ev.pos (by omega) (Ev.pos (by omega) (Ev.pos hasc (Ev.pos (by omega) (Ev.pos (by omega) (Ev.bind (mHas_ev (prs 0 l) (i : Int) (by omega)) ?_)))))
    refine Ev.iff (fun c => ?_) (fun c => ?_)
    · rw [c, Bool.true_or] at hat
      rw [hat]
      exact Ev.neg (by decide) (Ev.pos (by omega) (Ev.neg hne (Ev.pos (by omega) (Ev.pos (by omega) (Ev.pos (by omega) (Ev.pos hmi h))))))
    · rw [Bool.not_eq_true] at c
      rw [c, Bool.false_or] at hat
      refine Ev.bind (mHas_ev (prs 0 l) ((i : Int) - 1) (by omega)) ?_
      rw [hat]
      exact Ev.neg (rr_bne _) (Ev.pos (by omega) (Ev.neg hne (Ev.pos (by omega) (Ev.pos (by omega) (Ev.pos (by omega) (Ev.pos hmi h))))))
theorem rr_l2 (more : List Int) (l : List UInt8) (hg : rgood l = true) (h6 : Ev (fun k => laws_FnRowsRest.j6 k more) true) : ∀ (d i : Nat), i + d = (prs 0 l).length →
    Ev (fun k => laws_FnRowsRest.l2 k more (up l) ((rst 1000000 l).2 : Int) (prs 0 l) (up (twk l)) (up (mir l)) (up (l.map flp)) (prs 0 l) ((prs 0 l).length : Int) (i : Int)) true := by
  have hl := rg_len hg
  have hpl := prs_len l 0
  intro d
  induction d with
  | zero =>
    intro i hi
    refine Ev.succ ?_
    simp only [laws_FnRowsRest.l2]
    exact Ev.neg (by omega) (rr_l3 more l hg h6 l.length 0 (by omega))
  | succ d ih =>
    intro i hi
    have hlt : i < (prs 0 l).length := by omega
    obtain ⟨q, hq, hql, h1, h2⟩ := prs_get l _ (rd_mem hlt)
    have ht := prs_twk l q hql h1 h2
    have htl : (twk l).length = l.length := twk_len l
    refine Ev.succ ?_
    simp only [laws_FnRowsRest.l2, up_isize, hq]
    rw [show (q : Int) + 1 = ((q + 1 : Nat) : Int) by omega, wrap64_id (x := ((q + 1 : Nat) : Int)) (by omega) (by omega), wrap64_id (x := (i : Int) + 1) (by omega) (by omega)]
    exact Ev.pos (by omega) (Ev.pos (by omega) (Ev.pos (by omega) (Ev.pos (by omega) (Ev.pos (by omega) (Ev.pos ((up62 l q (by omega)).2 h1) (Ev.pos (by omega) (Ev.pos (by omega) (Ev.pos ((up60 l (q + 1) hql).2 h2) (Ev.pos (by omega) (Ev.pos ((up60 (twk l) q (by omega)).2 ht.1) (Ev.pos (by omega) (Ev.pos ((up62 (twk l) (q + 1) (by omega)).2 ht.2) (ih (i + 1) (by omega))))))))))))))
theorem rr_l1 (more : List Int) (l : List UInt8) (hg : rgood l = true) (h6 : Ev (fun k => laws_FnRowsRest.j6 k more) true) : ∀ (d i : Nat), i + d = l.length →
    Ev (fun k => laws_FnRowsRest.l1 k more (up l) ((rst 1000000 l).2 : Int) (up (rst 1000000 l).1) (ttl 1000000 l : Int) (tof 1000000 l (List.replicate l.length 0)) (prs 0 l) (up (twk l)) (!fac l) (up (mir l)) (up (l.map flp)) (inv l : Int) (l.count 62 : Int) (up ((gl l).take i)) (i : Int) (up l)) true := by
  have hl := rg_len hg
  have hs := rg_all hg
  have hw := wt_1000 l (by omega)
  have hcl := List.count_le_length (l := l) (a := (62 : UInt8))
  have hgl := gl_len l
  intro d
  induction d with
  | zero =>
    intro i hi
    have hz : ∀ q : Int, rd (List.replicate l.length (0 : Int)) q = 0 := fun q => by simp [rd, List.getElem?_replicate]; split <;> rfl
    have hsum := sum_tof 1000000 l (List.replicate l.length 0) 0 (by omega) (by simp) (by omega) (fun q => by rw [hz q]; omega)
    have hel := tof_len 1000000 l (List.replicate l.length 0)
    rw [List.length_replicate] at hel
    have hti := ttl_inv 1000000 l hs hw
    have hil := inv_le l
    have hiq : l.length * l.length ≤ 3600 := Nat.mul_le_mul hl.2 hl.2
    have hrn := rst_n 1000000 l hs hl.1
    have hrt := rst_ttl 1000000 l
    have hs0 : (List.replicate l.length (0 : Int)).sum = 0 := by simp
    have hev := mSum_ev (tof 1000000 l (List.replicate l.length 0)) (by omega) (fun x hx => by
      obtain ⟨j, hj, rfl⟩ := List.getElem_of_mem hx
      have := hsum.2 (j : Int)
      have e : rd (tof 1000000 l (List.replicate l.length 0)) (j : Int) = (tof 1000000 l (List.replicate l.length 0))[j] := by simp [rd, hj]
      rw [e] at this; omega)
    have hpl := prs_len l 0
    have hj2 : Ev (fun k => laws_FnRowsRest.j2 k more (up l) ((rst 1000000 l).2 : Int) (prs 0 l) (up (twk l)) (up (mir l)) (up (l.map flp)) (!true)) true := by
      refine Ev.succ ?_
      simp only [laws_FnRowsRest.j2]
      exact Ev.neg (by decide) (rr_l2 more l hg h6 (prs 0 l).length 0 (by omega))
    refine Ev.succ ?_
    simp only [laws_FnRowsRest.l1, up_isize]
    rw [List.take_of_length_le (by omega), gl_rest 1000000 l hs hw, hti]
    refine Ev.neg (by omega) (Ev.pos (by first | rfl | trivial) (Ev.pos (by first | rfl | trivial) (Ev.bind hev (Ev.pos ?_ (Ev.neg ?_ (Ev.neg ?_ (Ev.neg ?_ (Ev.neg ?_ (Ev.neg (by omega) (Ev.bind (mRises_ev (prs 0 l) (by omega) (prs_lt l 0)) hj2))))))))))
    · rw [hsum.1, hs0, hti, wrap64_id (by omega) (by omega)]; omega
    · have := rst_zero 1000000 l hw
      cases hf : fac l
      · rw [this.2 hf]; simp
      · have : ¬ (rst 1000000 l).2 = 0 := fun c => by rw [this.1 c] at hf; exact absurd hf (by decide)
        have e : (((rst 1000000 l).2 : Int) == 0) = false := beq_eq_false_iff_ne.2 (by omega)
        rw [e]; decide
    · rw [len_fac]; exact rr_bne _
    · have hfx := rst_fix 1000000 l hw
      rw [gl_rest 1000000 l hs hw] at hfx
      cases hf : fac l
      · rw [← hfx.1 hf]; simp
      · have : ¬ (up l).toList = (up (gl l)).toList := fun c => by
          rw [toList_L, toList_L, L_mk, L_mk] at c
          rw [hfx.2 c] at hf; exact absurd hf (by decide)
        have e : ((up l).toList == (up (gl l)).toList) = false := beq_eq_false_iff_ne.2 this
        rw [e]; decide
    · rw [wrap64_id (by omega) (by omega)]; omega
  | succ d ih =>
    intro i hi
    have hlt : i < l.length := by omega
    have h := ih (i + 1) (by omega)
    have hasc := bt_asc l hs i hlt
    have hget := gl_get l i (by omega)
    have htk : (gl l).take (i + 1) = (gl l).take i ++ [(gl l)[i]'(by omega)] := List.take_succ_eq_append_getElem (by omega)
    refine Ev.succ ?_
    simp only [laws_FnRowsRest.l1, up_isize, up_size]
    have e60 : up ((gl l).take i) ++ (⟨#[60]⟩ : ByteArray) = up ((gl l).take i ++ [60]) := up_app _ [60]
    have e62 : up ((gl l).take i) ++ (⟨#[62]⟩ : ByteArray) = up ((gl l).take i ++ [62]) := up_app _ [62]
    have htl : ((gl l).take i).length ≤ 60 := by rw [List.length_take]; omega
    rw [e60, e62, wrap64_id (x := (l.length : Int) - (l.count 62 : Int)) (by omega) (by omega)]
    refine Ev.pos (by omega) (Ev.pos (by omega) (Ev.pos hasc (Ev.iff (fun c => ?_) (fun c => ?_))))
    · rw [if_pos (by omega)] at hget
      rw [htk, hget] at h
      exact Ev.pos (by omega) h
    · rw [if_neg (by omega)] at hget
      rw [htk, hget] at h
      exact Ev.pos (by omega) h
theorem rr_l0 (more : List Int) (l : List UInt8) (hg : rgood l = true) (h6 : Ev (fun k => laws_FnRowsRest.j6 k more) true) : ∀ (d i c r : Nat), i + d = l.length → c + r * (l.drop i).count 60 + inv (l.drop i) = inv l → r + (l.drop i).count 62 = l.count 62 →
    Ev (fun k => laws_FnRowsRest.l0 k more (up l) ((rst 1000000 l).2 : Int) (up (rst 1000000 l).1) (ttl 1000000 l : Int) (tof 1000000 l (List.replicate l.length 0)) (prs 0 l) (up (twk l)) (!fac l) (up (mir l)) (up (l.map flp)) (c : Int) (r : Int) (i : Int) (up l)) true := by
  have hl := rg_len hg
  have hs := rg_all hg
  have hcl := List.count_le_length (l := l) (a := (62 : UInt8))
  have hil := inv_le l
  have hiq : l.length * l.length ≤ 3600 := Nat.mul_le_mul hl.2 hl.2
  intro d
  induction d with
  | zero =>
    intro i c r hi h1 h2
    refine Ev.succ ?_
    simp only [laws_FnRowsRest.l0, up_isize]
    rw [List.drop_of_length_le (by omega)] at h1 h2
    simp only [List.count_nil, Nat.mul_zero, Nat.add_zero, inv] at h1 h2
    rw [h1, h2]
    have := rr_l1 more l hg h6 l.length 0 (by omega)
    exact Ev.neg (by omega) this
  | succ d ih =>
    intro i c r hi h1 h2
    have hlt : i < l.length := by omega
    have hasc := bt_asc l hs i hlt
    have hd := List.drop_eq_getElem_cons hlt
    rw [hd] at h1 h2
    have einv : inv (l[i] :: l.drop (i + 1)) = (if l[i] = 62 then (l.drop (i + 1)).count 60 else 0) + inv (l.drop (i + 1)) := rfl
    rw [einv] at h1
    refine Ev.succ ?_
    simp only [laws_FnRowsRest.l0, up_isize]
    refine Ev.pos (by omega) (Ev.pos (by omega) (Ev.pos hasc (Ev.pos (by omega) (Ev.iff (fun e => ?_) (fun e => ?_)))))
    · rw [up62 l i hlt] at e
      rw [e] at h1 h2
      have e1 : (62 :: l.drop (i + 1)).count (60 : UInt8) = (l.drop (i + 1)).count 60 := by simp
      have e2 : (62 :: l.drop (i + 1)).count (62 : UInt8) = (l.drop (i + 1)).count 62 + 1 := by simp
      rw [e1, if_pos rfl] at h1
      rw [e2] at h2
      rw [wrap64_id (x := (r : Int) + 1) (by omega) (by omega)]
      exact ih (i + 1) c (r + 1) (by omega) (by rw [Nat.add_mul]; omega) (by omega)
    · have e' := e
      rw [up62 l i hlt] at e'
      have h60 : l[i] = 60 := (sgn_or (List.all_eq_true.1 hs _ (List.getElem_mem hlt))).resolve_right e'
      rw [h60] at h1 h2
      have e1 : (60 :: l.drop (i + 1)).count (60 : UInt8) = (l.drop (i + 1)).count 60 + 1 := by simp
      have e2 : (60 :: l.drop (i + 1)).count (62 : UInt8) = (l.drop (i + 1)).count 62 := by simp
      rw [e1, if_neg (by decide), Nat.mul_add] at h1
      rw [e2] at h2
      rw [wrap64_id (x := (c : Int) + (r : Int)) (by omega) (by omega)]
      exact ih (i + 1) (c + r) r (by omega) (by omega) (by omega)
theorem FnRowsRest : StatFnRowsRest := by
  intro code more hl0 hc hl1 hm
  refine Ev.get ?_
  unfold laws_FnRowsRest.f laws_big.f
  have h6 := rr_j6 more hm
  obtain ⟨l, hl, e0⟩ := drawTk code hc
  by_cases hb : (code.length : Int) > 1048576
  · simp only [if_pos hb, Option.bind_some]
    exact Ev.pos (by first | rfl | trivial) (Ev.now _)
  simp only [if_neg hb, Option.bind_some]
  refine Ev.iff (fun _ => Ev.now _) (fun _ => Ev.bind e0 ?_)
  rw [imTi l hl, imAt l hl, imMi l hl, imTu l hl]
  simp only [Option.bind_some]
  refine Ev.bind (imTk l hl) (Ev.bind (spTk l hl) (Ev.bind (imRs l hl) (Ev.bind (spRs l hl) (Ev.bind (imCt l hl) (Ev.bind (spCt l hl) (Ev.bind (imEa l hl) (Ev.bind (spEa l hl) (Ev.bind (imFp l hl) (Ev.bind (spFp l hl) (Ev.bind (spTi l hl) (Ev.bind (spAt l hl) (Ev.bind (spMi l hl) (Ev.bind (spTu l hl) ?_)))))))))))))
  have hI : impl_IsRow.f (up l) = some (rgood l) := by
    unfold impl_IsRow.f
    rw [rs_isRow l hl]; rfl
  have hS : Ev (fun k => spec_IsRow.f k (up l)) (rgood l) := by
    unfold spec_IsRow.f
    exact Ev.bind (rs_rwGood l hl) (Ev.now _)
  rw [hI]
  simp only [Option.bind_some]
  have hpl := prs_len l 0
  have hE : (vEa l).1.length ≤ 1000 := by
    unfold vEa; split
    · show (tof _ _ _).length ≤ _; rw [tof_len]; simpa using hl
    · simp
  have hP : (vFp l).1.length ≤ 1000 := by
    unfold vFp; split
    · show (prs 0 l).length ≤ _; omega
    · simp
  refine Ev.neg (rr_bne _) (Ev.pos (by first | rfl | trivial) (Ev.neg (rr_bne _) (Ev.pos (by first | rfl | trivial) (Ev.neg (rr_bne _) (Ev.pos (by first | rfl | trivial) (Ev.neg (rr_bne _) (Ev.bind (mSame_ev _ (by omega)) (Ev.pos (by first | rfl | trivial) (Ev.neg (rr_bne _) (Ev.bind (mSame_ev _ (by omega)) (Ev.pos (by first | rfl | trivial) (Ev.neg (rr_bne _) (Ev.pos (by first | rfl | trivial) (Ev.neg (rr_bne _) (Ev.neg (rr_bne _) (Ev.neg (rr_bne _) (Ev.pos (by first | rfl | trivial) (Ev.neg (rr_bne _) (Ev.pos (by first | rfl | trivial) ?_)))))))))))))))))))
  by_cases c : rgood l = true
  · simp only [vTk, vRs, vCt, vEa, vFp, vTi, vAt, vMi, vTu, if_pos c]
    have := rr_l0 more l c h6 l.length 0 0 0 (by omega) (by simp) (by simp)
    rw [c]
    refine Ev.neg (by simp) (Ev.bind hS ?_)
    rw [c]
    exact Ev.neg (by simp) (Ev.neg (by simp) (Ev.neg (by simp) (Ev.neg (by simp) (Ev.neg (by simp) (Ev.neg (by simp) (Ev.neg (by simp) (Ev.neg (by simp) (Ev.neg (by simp) (Ev.pos (by first | rfl | trivial) this)))))))))
  · have c' := c
    rw [Bool.not_eq_true] at c'
    simp only [vTk, vRs, vCt, vEa, vFp, vTi, vAt, vMi, vTu, if_neg c]
    rw [c']
    refine Ev.neg (by simp) (Ev.bind hS ?_)
    rw [c']
    exact Ev.neg (by simp) (Ev.neg (by simp) (Ev.neg (by simp) (Ev.neg (by simp) (Ev.neg (by simp) (Ev.neg (by simp) (Ev.neg (by simp) (Ev.neg (by simp) (Ev.neg (by simp) (Ev.neg (by simp) h6)))))))))

end Go.Proofs.YtolalphffodkdaaGreatDoor.Pure
