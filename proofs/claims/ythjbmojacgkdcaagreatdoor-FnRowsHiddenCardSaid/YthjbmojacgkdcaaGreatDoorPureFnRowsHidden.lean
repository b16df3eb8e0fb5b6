/- The law FnRowsHidden, pure: what the printed functions answer, and that it is what the law asks. No condition. -/
import Derived.Test.YthjbmojacgkdcaaGreatDoorStatFnRowsHidden
import Derived.Test.YthjbmojacgkdcaaGreatDoorPlAllFnRowsHidden
namespace Go.Proofs.YthjbmojacgkdcaaGreatDoor.Pure
open Go.RowKit Go.Proofs.YthjbmojacgkdcaaGreatDoor.PFnRowsHidden Go.Proofs.YthjbmojacgkdcaaGreatDoorW.PrintWords Go.Proofs.YthjbmojacgkdcaaGreatDoorW.PrintMore Go.Proofs.YthjbmojacgkdcaaGreatDoor.Opn Go.Proofs.YthjbmojacgkdcaaGreatDoor.Pl
set_option linter.unusedVariables false
set_option linter.unusedSimpArgs false
theorem in_eq (a b c : Int) : impl_in.f a b c = some (decide (b ≤ a ∧ a ≤ c)) := by
  unfold impl_in.f; by_cases h : b ≤ a <;> simp [h]
theorem l1In_eq (a b c : Int) : spec_l1In.f a b c = some (decide (b ≤ a ∧ a ≤ c)) := by
  unfold spec_l1In.f; by_cases h : b ≤ a <;> simp [h]
theorem pzSoldiers_eq (n : Int) : spec_pzSoldiers.f n = some (decide (1 ≤ n ∧ n ≤ 8)) := by
  unfold spec_pzSoldiers.f; rw [l1In_eq]; rfl
theorem pzClue_eq {n : Int} (h : 1 ≤ n ∧ n ≤ 8) (k a b c : Int) : spec_pzClue.f n k a b c = some (cok n k a b c) := by
  unfold spec_pzClue.f cok
  rw [wrap64_id (x := n - 1) (by omega) (by omega)]
  simp only [l1In_eq, Option.bind_some, ite_and, ite_dec]
  repeat' split
  all_goals first | rfl | simp_all
theorem isHidden_eq (n : Int) : impl_isHidden.f n = some (decide (1 ≤ n ∧ n ≤ 8)) := by
  unfold impl_isHidden.f; rw [in_eq]; rfl
theorem isClue_eq (n k a b c : Int) : impl_isClue.f n k a b c = some (decide (1 ≤ n ∧ n ≤ 8) && cok n k a b c) := by
  unfold impl_isClue.f cok
  simp only [isHidden_eq, in_eq, Option.bind_some, ite_and, ite_dec]
  by_cases h : 1 ≤ n ∧ n ≤ 8
  · rw [wrap64_id (x := n - 1) (by omega) (by omega)]
    simp only [h, and_self, decide_true, if_true, Bool.true_and]
    repeat' split
    all_goals first | rfl | simp_all
  · simp [h]
def cokS (n : Int) (x : S37) : Bool := cok n x.f0 x.f1 x.f2 x.f3
def pgood (n : Int) (l : List S37) : Bool := decide (1 ≤ n ∧ n ≤ 8) && (decide (l.length ≤ 6) && l.all (cokS n))
theorem rdClueI {l : List S37} {i : Nat} (h : i < l.length) : rd_T37 l (i : Int) = l[i] := by simp [rd_T37, h]
theorem all_drop (n : Int) (l : List S37) (i : Nat) (h : i < l.length) : (l.drop i).all (cokS n) = (cok n (rd_T37 l (i : Int)).f0 (rd_T37 l (i : Int)).f1 (rd_T37 l (i : Int)).f2 (rd_T37 l (i : Int)).f3 && (l.drop (i + 1)).all (cokS n)) := by
  rw [List.drop_eq_getElem_cons h, rdClueI h]; rfl
theorem pzGood_loop {n : Int} (h : 1 ≤ n ∧ n ≤ 8) (l : List S37) (hl : l.length ≤ 4398046510976) : ∀ (d i : Nat), i + d = l.length → Ev (fun k => spec_pzGood.l0 k l (l.length : Int) (i : Int) n l) ((l.drop i).all (cokS n)) := by
  intro d
  induction d with
  | zero =>
    intro i hi
    refine Ev.succ ?_
    simp only [spec_pzGood.l0]
    refine Ev.neg (by omega) (Ev.const ?_)
    rw [List.drop_of_length_le (by omega)]; rfl
  | succ d ih =>
    intro i hi
    refine Ev.succ ?_
    simp only [spec_pzGood.l0, pzClue_eq h, Option.bind_some]
    refine Ev.pos (by omega) (Ev.pos (by omega) (Ev.pos (by omega) ?_))
    rw [wrap64_id (x := (i : Int) + 1) (by omega) (by omega), all_drop n l i (by omega)]
    refine Ev.iff (fun hc => ?_) (fun hc => ?_)
    · rw [hc, Bool.true_and]; exact ih (i + 1) (by omega)
    · rw [Bool.not_eq_true] at hc; rw [hc, Bool.false_and]; exact Ev.now _
theorem pzGood_ev (n : Int) (l : List S37) (hl : l.length ≤ 4398046510976) : Ev (fun k => spec_pzGood.f k n l) (pgood n l) := by
  unfold spec_pzGood.f pgood
  simp only [pzSoldiers_eq, Option.bind_some]
  refine Ev.iff (fun hc => ?_) (fun hc => ?_)
  · have hc' := of_decide_eq_true hc
    refine Ev.succ ?_
    simp only [spec_pzGood.j0]
    by_cases h6 : l.length ≤ 6
    · refine Ev.neg (by simp; omega) ?_
      rw [hc, decide_eq_true h6, Bool.true_and, Bool.true_and]
      exact pzGood_loop hc' l hl l.length 0 (by omega)
    · refine Ev.pos (by simp; omega) (Ev.const ?_)
      rw [decide_eq_false h6, Bool.false_and, Bool.and_false]
  · refine Ev.succ ?_
    simp only [spec_pzGood.j0, if_true]
    refine Ev.const ?_
    rw [Bool.not_eq_true] at hc
    rw [hc, Bool.false_and]
theorem isPuz_loop {n : Int} (h : 1 ≤ n ∧ n ≤ 8) (l : List S37) (hl : l.length ≤ 5000000000000) : ∀ (d i : Nat), i + d = l.length → ∃ r : Int, Ev (fun k => impl_isPuzzle_idx.l0 k n l (i : Int)) r ∧ decide (0 ≤ r) = !(l.drop i).all (cokS n) := by
  intro d
  induction d with
  | zero =>
    intro i hi
    refine ⟨-1, Ev.succ ?_, ?_⟩
    · simp only [impl_isPuzzle_idx.l0]
      exact Ev.neg (by omega) (Ev.now _)
    · rw [List.drop_of_length_le (by omega)]; rfl
  | succ d ih =>
    intro i hi
    obtain ⟨r, h1, h2⟩ := ih (i + 1) (by omega)
    have hs := all_drop n l i (by omega)
    cases hc : cok n (rd_T37 l (i : Int)).f0 (rd_T37 l (i : Int)).f1 (rd_T37 l (i : Int)).f2 (rd_T37 l (i : Int)).f3 with
    | true =>
      rw [hc, Bool.true_and] at hs
      refine ⟨r, Ev.succ ?_, by rw [hs]; exact h2⟩
      simp only [impl_isPuzzle_idx.l0, impl_isPuzzle_clo.f, isClue_eq, hc, decide_eq_true h, Option.bind_some]
      refine Ev.pos (by omega) (Ev.pos (by omega) (Ev.neg (by simp) ?_))
      rw [wrap64_id (x := (i : Int) + 1) (by omega) (by omega)]
      exact h1
    | false =>
      rw [hc, Bool.false_and] at hs
      refine ⟨(i : Int), Ev.succ ?_, by rw [hs]; simp⟩
      simp only [impl_isPuzzle_idx.l0, impl_isPuzzle_clo.f, isClue_eq, hc, Option.bind_some]
      exact Ev.pos (by omega) (Ev.pos (by omega) (Ev.pos (by simp) (Ev.now _)))
theorem isPuzzle_ev (n : Int) (l : List S37) (hl : l.length ≤ 5000000000000) : Ev (fun k => impl_isPuzzle.f k n l) (pgood n l) := by
  unfold impl_isPuzzle.f pgood
  simp only [isHidden_eq, Option.bind_some]
  refine Ev.iff (fun h1 => ?_) (fun h1 => ?_)
  · have h1' := of_decide_eq_true h1
    rw [h1, Bool.true_and]
    by_cases h6 : l.length ≤ 6
    · refine Ev.pos (by omega) ?_
      rw [decide_eq_true h6, Bool.true_and]
      obtain ⟨r, e1, e2⟩ := isPuz_loop h1' l (by omega) l.length 0 (by omega)
      unfold impl_isPuzzle_has.f
      refine Ev.bind (Ev.bind e1 (Ev.now _)) (Ev.const ?_)
      rw [e2, List.drop_zero, Bool.not_not]
    · refine Ev.neg (by omega) (Ev.const ?_)
      rw [decide_eq_false h6, Bool.false_and]
  · rw [Bool.not_eq_true] at h1
    rw [h1, Bool.false_and]
    exact Ev.now _
theorem spAddClue_ev (n : Int) (l : List S37) (hl : l.length ≤ 4398046510976) (k a b c : Int) : Ev (fun q => spec_AddClue.f q n l k a b c)
    (if pgood n l = true ∧ cok n k a b c = true ∧ l.length ≠ 6 then (n, l ++ [(⟨k, a, b, c⟩ : S37)], true) else (0, [], false)) := by
  unfold spec_AddClue.f
  refine Ev.bind (pzGood_ev n l hl) ?_
  cases hg : pgood n l with
  | false => simp only [Bool.false_eq_true, if_false, false_and]; exact Ev.now _
  | true =>
    have hn : 1 ≤ n ∧ n ≤ 8 := by unfold pgood at hg; simp at hg; exact hg.1
    simp only [if_true, pzClue_eq hn, Option.bind_some, true_and]
    cases hc : cok n k a b c with
    | false => simp only [Bool.false_eq_true, if_false, false_and]; exact Ev.now _
    | true =>
      simp only [if_true, true_and]
      by_cases h6 : l.length = 6
      · rw [if_pos (show (l.length : Int) = 6 by omega), if_neg (show ¬ l.length ≠ 6 by omega)]; exact Ev.now _
      · rw [if_neg (show ¬ (l.length : Int) = 6 by omega), if_pos h6]
        refine Ev.const ?_
        rw [if_pos (by simp; omega)]
        simp only [Option.bind_some, List.nil_append]
        rw [if_pos (by simp; omega)]
theorem imAddClue_ev (n : Int) (l : List S37) (hl : l.length ≤ 4398046510976) (k a b c : Int) : Ev (fun q => impl_AddClue.f q n l k a b c)
    (if pgood n (l ++ [(⟨k, a, b, c⟩ : S37)]) = true then (n, l ++ [(⟨k, a, b, c⟩ : S37)], true) else (0, [], false)) := by
  unfold impl_AddClue.f
  first | unfold impl_Clue.f | unfold impl_Clue_58.f
  rw [if_pos (by omega)]
  simp only [Option.bind_some]
  refine Ev.pos (by simp; omega) (Ev.bind (isPuzzle_ev n _ (by simp; omega)) ?_)
  refine Ev.iff (fun h => ?_) (fun h => ?_)
  · rw [if_pos h]; exact Ev.now _
  · rw [if_neg h]; exact Ev.now _
theorem pgood_app (n : Int) (l : List S37) (x : S37) : (pgood n (l ++ [x]) = true) ↔ (pgood n l = true ∧ cokS n x = true ∧ l.length ≠ 6) := by
  unfold pgood
  simp only [List.all_append, List.all_cons, List.all_nil, Bool.and_true, List.length_append, List.length_cons, List.length_nil, Bool.and_eq_true, decide_eq_true_eq]
  constructor
  · rintro ⟨h1, h2, h3, h4⟩
    exact ⟨⟨h1, by omega, h3⟩, h4, by omega⟩
  · rintro ⟨⟨h1, h2, h3⟩, h4, h5⟩
    exact ⟨h1, by omega, h3, h4⟩
/-- What is left of a puzzle without its clue number k. -/
def dcl (n : Int) (l : List S37) (k : Int) : Int × List S37 × Bool := if pgood n l = true ∧ 0 ≤ k ∧ k ≤ (l.length : Int) - 1 then (n, l.eraseIdx k.toNat, true) else (0, [], false)
theorem spDropClue_ev (n : Int) (l : List S37) (k : Int) (hl : l.length ≤ 4398046510976) : Ev (fun q => spec_DropClue.f q n l k) (dcl n l k) := by
  unfold spec_DropClue.f dcl
  refine Ev.bind (pzGood_ev n l (by omega)) ?_
  rw [wrap64_id (x := (l.length : Int) - 1) (by omega) (by omega)]
  simp only [l1In_eq, Option.bind_some]
  cases hg : pgood n l with
  | false => simp only [Bool.false_eq_true, if_false, false_and]; exact Ev.now _
  | true =>
    simp only [if_true, true_and]
    by_cases h : 0 ≤ k ∧ k ≤ (l.length : Int) - 1
    · simp only [h, and_self, decide_true, if_true]
      refine Ev.const ?_
      have e : spec_pzWithout.f l k = some (l.eraseIdx k.toNat) := by
        unfold spec_pzWithout.f
        simp only [Option.bind_some, List.nil_append, List.length_nil]
        rw [wrap64_id (x := k + 1) (by omega) (by omega), if_pos h.1, if_pos (by omega), if_pos (by simp; omega), if_pos (by omega), if_pos (by omega), if_pos (by simp; omega), List.eraseIdx_eq_take_drop_succ, show (k + 1).toNat = k.toNat + 1 by omega]
      rw [e]; rfl
    · rw [if_neg h, decide_eq_false h]
      simp only [Bool.false_eq_true, if_false]
      exact Ev.now _
theorem imDropClue_ev (n : Int) (l : List S37) (k : Int) (hl : l.length ≤ 4398046510976) : Ev (fun q => impl_DropClue.f q n l k) (dcl n l k) := by
  unfold impl_DropClue.f dcl
  refine Ev.bind (isPuzzle_ev n l (by omega)) ?_
  rw [wrap64_id (x := (l.length : Int) - 1) (by omega) (by omega)]
  simp only [in_eq, Option.bind_some]
  cases hg : pgood n l with
  | false => simp only [Bool.false_eq_true, if_false, false_and]; exact Ev.now _
  | true =>
    simp only [if_true, true_and]
    by_cases h : 0 ≤ k ∧ k ≤ (l.length : Int) - 1
    · simp only [h, and_self, decide_true, if_true]
      refine Ev.const ?_
      have h6 : l.length ≤ 6 := by
        have hq := hg
        unfold pgood at hq
        simp only [Bool.and_eq_true, decide_eq_true_eq] at hq
        exact hq.2.1
      have e : impl_without.f l k = some (l.eraseIdx k.toNat) := by
        unfold impl_without.f
        first | unfold impl_Clue.f | unfold impl_Clue_58.f
        rw [if_pos (by omega)]
        simp only [Option.bind_some]
        rw [if_pos ⟨h.1, by omega, by omega⟩]
      rw [e]; rfl
    · rw [if_neg h, decide_eq_false h]
      simp only [Bool.false_eq_true, if_false]
      exact Ev.now _
theorem low8 (y : Int) : 0 ≤ wrap64 (Go.bits .and .u64 ((IntKind.u64.wrap y) / 1099511627776) 255) ∧ wrap64 (Go.bits .and .u64 ((IntKind.u64.wrap y) / 1099511627776) 255) ≤ 255 := by
  have hw : IntKind.u64.wrap y = y % 18446744073709551616 := by simp [IntKind.wrap, IntKind.bits, IntKind.signed]
  rw [hw]
  have hx0 : 0 ≤ y % 18446744073709551616 / 1099511627776 := by omega
  have hx1 : y % 18446744073709551616 / 1099511627776 < 2 ^ 24 := by omega
  have hm := bits_mask .u64 24 (by decide) (fun n h0 h1 => by simp [IntKind.wrap, IntKind.bits, IntKind.signed]; omega) 8 (by decide) _ hx0 hx1
  have e : (2 : Int) ^ 8 - 1 = 255 := by decide
  simp only [e] at hm
  rw [hm, wrap64_id (by omega) (by omega)]
  omega
theorem next_ok (code : List Int) (hc : ∀ x ∈ code, 0 ≤ x ∧ x ≤ 255) (p s : Int) (h0 : 0 ≤ p) (h1 : p ≤ 1000000) : ∃ v s', spec_l1Cur_next.f code p s = some (v, p + 1, s') ∧ 0 ≤ v ∧ v ≤ 255 := by
  unfold spec_l1Cur_next.f
  rw [wrap64_id (x := p + 1) (by omega) (by omega)]
  by_cases c1 : p < (code.length : Int)
  · have hm := hc _ (rd_mem (l := code) (j := p.toNat) (by omega))
    rw [show ((p.toNat : Nat) : Int) = p by omega] at hm
    rw [if_pos c1, if_pos h0, wrap64_id (x := rd code p) (by omega) (by omega)]
    by_cases c2 : p + 1 ≤ (code.length : Int)
    · rw [if_pos c2]; exact ⟨_, _, rfl, hm.1, hm.2⟩
    · rw [if_neg c2]; exact ⟨_, _, rfl, (low8 _).1, (low8 _).2⟩
  · rw [if_neg c1]
    by_cases c2 : p + 1 ≤ (code.length : Int)
    · rw [if_pos c2]; exact ⟨_, _, rfl, by omega, by omega⟩
    · rw [if_neg c2]; exact ⟨_, _, rfl, (low8 _).1, (low8 _).2⟩
theorem pick_ok (code : List Int) (hc : ∀ x ∈ code, 0 ≤ x ∧ x ≤ 255) (p s n : Int) (h0 : 0 ≤ p) (h1 : p ≤ 999990) : ∃ v p' s', spec_l1Cur_pick.f code p s n = some (v, p', s') ∧ 0 ≤ v ∧ (v < n ∨ v = 0) ∧ p ≤ p' ∧ p' ≤ p + 2 := by
  unfold spec_l1Cur_pick.f
  by_cases c1 : n ≤ 1
  · rw [if_pos c1]; exact ⟨0, p, s, rfl, by omega, .inr rfl, by omega, by omega⟩
  · rw [if_neg c1]
    obtain ⟨v, s1, e1, v0, v1⟩ := next_ok code hc p s h0 (by omega)
    rw [e1]
    simp only [Option.bind_some]
    by_cases c2 : n > 200
    · rw [if_pos c2]
      obtain ⟨u, s2, e2, u0, u1⟩ := next_ok code hc (p + 1) s1 (by omega) (by omega)
      rw [e2]
      simp only [Option.bind_some]
      rw [if_neg (show ¬ n = 0 by omega), wrap64_id (x := v * 256) (by omega) (by omega), wrap64_id (x := v * 256 + u) (by omega) (by omega), tmod_nn (by omega)]
      exact ⟨_, _, _, rfl, Int.emod_nonneg _ (by omega), .inl (Int.emod_lt_of_pos _ (by omega)), by omega, by omega⟩
    · rw [if_neg c2, if_neg (show ¬ n = 0 by omega), tmod_nn (by omega)]
      exact ⟨_, _, _, rfl, Int.emod_nonneg _ (by omega), .inl (Int.emod_lt_of_pos _ (by omega)), by omega, by omega⟩
theorem among_ok (code : List Int) (hc : ∀ x ∈ code, 0 ≤ x ∧ x ≤ 255) (p s : Int) (l : List Int) (hl : 0 < l.length) (h0 : 0 ≤ p) (h1 : p ≤ 999990) : ∃ v p' s', spec_l1Cur_among.f code p s l = some (v, p', s') ∧ v ∈ l ∧ p ≤ p' ∧ p' ≤ p + 2 := by
  unfold spec_l1Cur_among.f
  obtain ⟨v, p', s', e, v0, v1, q0, q1⟩ := pick_ok code hc p s (l.length : Int) h0 h1
  rw [e]
  simp only [Option.bind_some]
  have hv : v < (l.length : Int) := by omega
  rw [if_pos v0, if_pos hv]
  have := rd_mem (l := l) (j := v.toNat) (by omega)
  rw [show ((v.toNat : Nat) : Int) = v by omega] at this
  exact ⟨_, _, _, rfl, this, q0, q1⟩
theorem one_ok (code : List Int) (hc : ∀ x ∈ code, 0 ≤ x ∧ x ≤ 255) (p s n : Int) (h0 : 0 ≤ p) (h1 : p ≤ 999990) : ∃ v p' s', spec_l1Cur_one.f code p s n = some (v, p', s') ∧ p ≤ p' ∧ p' ≤ p + 2 := by
  unfold spec_l1Cur_one.f
  obtain ⟨v, p', s', e, _, _, q0, q1⟩ := pick_ok code hc p s n h0 h1
  rw [e]
  exact ⟨_, _, _, rfl, q0, q1⟩
theorem rwGood_loop (s : ByteArray) (hs : s.size ≤ 140737488351232) : ∀ (d i : Nat), i + d = (L s).length → Ev (fun k => spec_rwGood.l0 k s (i : Int)) (((L s).drop i).all sgn) := by
  have hl := size_L s
  intro d
  induction d with
  | zero =>
    intro i hi
    refine Ev.succ ?_
    simp only [spec_rwGood.l0]
    refine Ev.neg (by omega) (Ev.const ?_)
    rw [List.drop_of_length_le (by omega)]; rfl
  | succ d ih =>
    intro i hi
    have hlt : i < (L s).length := by omega
    refine Ev.succ ?_
    simp only [spec_rwGood.l0]
    rw [List.drop_eq_getElem_cons hlt, List.all_cons, wrap64_id (x := (i : Int) + 1) (by omega) (by omega)]
    refine Ev.pos (by omega) (Ev.pos (by omega) ?_)
    refine Ev.iff (fun hc => ?_) (fun hc => Ev.iff (fun hd => ?_) (fun hd => ?_))
    · rw [bt60 s i hlt] at hc
      rw [hc]; exact ih (i + 1) (by omega)
    · rw [bt62 s i hlt] at hd
      rw [hd]; exact ih (i + 1) (by omega)
    · rw [bt60 s i hlt] at hc
      rw [bt62 s i hlt] at hd
      have e : sgn (L s)[i] = false := by unfold sgn; rw [beq_eq_false_iff_ne.2 hc, beq_eq_false_iff_ne.2 hd]; rfl
      rw [e]; exact Ev.now _
theorem rwGood_ev (s : ByteArray) (hs : s.size ≤ 140737488351232) : Ev (fun k => spec_rwGood.f k s) (rgood (L s)) := by
  have hl := size_L s
  unfold spec_rwGood.f rgood
  simp only [l1In_eq, Option.bind_some]
  refine Ev.iff (fun hc => ?_) (fun hc => ?_)
  · rw [decide_eq_true_eq] at hc
    rw [decide_eq_true (by omega), Bool.true_and]
    have := rwGood_loop s hs (L s).length 0 (by omega)
    rw [List.drop_zero] at this
    exact this
  · rw [decide_eq_true_eq] at hc
    rw [decide_eq_false (by omega), Bool.false_and]
    exact Ev.now _
theorem isRow_eq (s : ByteArray) (hs : s.size ≤ 140737488351232) : impl_isRow.f s = some (rgood (L s)) := by
  have hl := size_L s
  unfold impl_isRow.f rgood strings_Trim.f
  simp only [in_eq, Option.bind_some]
  by_cases h : 1 ≤ (L s).length ∧ (L s).length ≤ 60
  · rw [if_pos (by rw [decide_eq_true_eq]; omega), if_pos ⟨by omega, by decide, by decide⟩, decide_eq_true h, Bool.true_and, Option.bind_some, toList_L, L_mk]
    congr 1
    by_cases ha : (L s).all sgn = true
    · rw [ha]
      exact beq_iff_eq.2 ((trim_sgn (L s)).2 ha)
    · rw [Bool.not_eq_true] at ha
      rw [ha, beq_eq_false_iff_ne]
      intro e
      have := (trim_sgn (L s)).1 e
      rw [ha] at this
      exact absurd this (by decide)
  · rw [if_neg (by rw [decide_eq_true_eq]; omega), decide_eq_false h, Bool.false_and]
theorem isAtRest_eq (l : List UInt8) (h : l.length ≤ 1000) : impl_isAtRest.f (up l) = some (!fac l) := by
  have hs := up_size l
  unfold impl_isAtRest.f strings_Contains.f
  rw [if_pos (by omega), Option.bind_some]
  show some (!(Lib.contains (L (up l)) [62, 60])) = _
  rw [L_mk, fac_index]
theorem tick_eq (l : List UInt8) (h : l.length ≤ 1000) : impl_tick.f (up l) = some (up (twk l)) := by
  have hs := up_size l
  unfold impl_tick.f strings_ReplaceAll.f
  have hc : Lib.countB (up l) ⟨#[62, 60]⟩ ≤ l.length + 1 := by
    have := Lib.count_le (L (up l)) [62, 60]
    rw [L_mk] at this
    exact Nat.le_trans (by rw [Lib.countB]; show Lib.count (L (up l)) [62, 60] ≤ _; rw [L_mk]; exact Nat.le_refl _) this
  have e2 : (⟨#[60, 62]⟩ : ByteArray).size = 2 := rfl
  rw [if_pos ⟨by omega, by decide, by rw [e2]; omega⟩, Option.bind_some]
  show some (up (Lib.replaceAll (L (up l)) [62, 60] [60, 62])) = _
  rw [L_mk, replaceAll_twk]
theorem rwPairs_loop (l : List UInt8) (h : l.length ≤ 1000) : ∀ (d i : Nat) (acc : List Int), i + d = l.length → acc.length ≤ i → Ev (fun k => spec_rwPairs.l0 k (up l) acc (i : Int)) (acc ++ prs i (l.drop i)) := by
  intro d
  induction d with
  | zero =>
    intro i acc hi ha
    refine Ev.succ ?_
    simp only [spec_rwPairs.l0, up_isize]
    rw [wrap64_id (x := (i : Int) + 1) (by omega) (by omega), prs_one l i (by omega), List.append_nil]
    exact Ev.neg (by omega) (Ev.now _)
  | succ d ih =>
    intro i acc hi ha
    refine Ev.succ ?_
    simp only [spec_rwPairs.l0, up_isize]
    rw [wrap64_id (x := (i : Int) + 1) (by omega) (by omega)]
    refine Ev.iff (fun h1 => ?_) (fun h1 => ?_)
    · rw [prs_two l i (by omega)]
      refine Ev.pos (by omega) (Ev.pos (by omega) ?_)
      have h2 : i + 1 < l.length := by omega
      have e1 := ih (i + 1) acc (by omega) (by omega)
      refine Ev.iff (fun c1 => ?_) (fun c1 => ?_)
      · rw [up62 l i (by omega)] at c1
        refine Ev.pos (by omega) (Ev.iff (fun c2 => ?_) (fun c2 => ?_))
        · rw [show ((i : Int) + 1) = ((i + 1 : Nat) : Int) by omega, up60 l (i + 1) h2] at c2
          refine Ev.pos (by omega) ?_
          rw [if_pos ⟨c1, c2⟩]
          have := ih (i + 1) (acc ++ [(i : Int)]) (by omega) (by simp; omega)
          rw [← List.append_assoc]; exact this
        · rw [show ((i : Int) + 1) = ((i + 1 : Nat) : Int) by omega, up60 l (i + 1) h2] at c2
          rw [if_neg (fun c => c2 c.2), List.nil_append]; exact e1
      · rw [up62 l i (by omega)] at c1
        rw [if_neg (fun c => c1 c.1), List.nil_append]; exact e1
    · rw [prs_one l i (by omega), List.append_nil]; exact Ev.now _
theorem rwPairs_ev (l : List UInt8) (h : l.length ≤ 1000) : Ev (fun k => spec_rwPairs.f k (up l)) (prs 0 l) := by
  unfold spec_rwPairs.f
  have := rwPairs_loop l h l.length 0 [] (by omega) (by simp)
  simpa using this
theorem facing_loop (l : List UInt8) (h : l.length ≤ 1000) : ∀ (d i : Nat) (acc : List Int), i + d + 1 = l.length → acc.length ≤ i → Ev (fun k => impl_facing.l0 k (up l) acc ((l.length : Int) - 1) (i : Int)) (acc ++ prs i (l.drop i)) := by
  intro d
  induction d with
  | zero =>
    intro i acc hi ha
    refine Ev.succ ?_
    simp only [impl_facing.l0, up_isize]
    rw [prs_one l i (by omega), List.append_nil]
    exact Ev.neg (by omega) (Ev.now _)
  | succ d ih =>
    intro i acc hi ha
    refine Ev.succ ?_
    simp only [impl_facing.l0, up_isize]
    rw [wrap64_id (x := (i : Int) + 1) (by omega) (by omega)]
    refine Ev.pos (by omega) ?_
    rw [prs_two l i (by omega)]
    refine Ev.pos (by omega) (Ev.pos (by omega) ?_)
    have h2 : i + 1 < l.length := by omega
    have e1 := ih (i + 1) acc (by omega) (by omega)
    refine Ev.iff (fun c1 => ?_) (fun c1 => ?_)
    · rw [up62 l i (by omega)] at c1
      refine Ev.pos (by omega) (Ev.pos (by omega) (Ev.iff (fun c2 => ?_) (fun c2 => ?_)))
      · rw [show ((i : Int) + 1) = ((i + 1 : Nat) : Int) by omega, up60 l (i + 1) h2] at c2
        refine Ev.pos (by omega) ?_
        rw [if_pos ⟨c1, c2⟩]
        have := ih (i + 1) (acc ++ [(i : Int)]) (by omega) (by simp; omega)
        rw [← List.append_assoc]; exact this
      · rw [show ((i : Int) + 1) = ((i + 1 : Nat) : Int) by omega, up60 l (i + 1) h2] at c2
        rw [if_neg (fun c => c2 c.2), List.nil_append]; exact e1
    · rw [up62 l i (by omega)] at c1
      rw [if_neg (fun c => c1 c.1), List.nil_append]; exact e1
theorem facing_ev (l : List UInt8) (h1 : 1 ≤ l.length) (h : l.length ≤ 1000) : Ev (fun k => impl_facing.f k (up l)) (prs 0 l) := by
  unfold impl_facing.f
  rw [up_isize, wrap64_id (x := (l.length : Int) - 1) (by omega) (by omega)]
  have := facing_loop l h (l.length - 1) 0 [] (by omega) (by simp)
  simpa using this
theorem rwTick_loop (ps : List Int) (hps : ps.length ≤ 1000) (n : Nat) (hn : n ≤ 1000) (hp : ∀ p ∈ ps, 0 ≤ p ∧ p + 1 < n) : ∀ (d i : Nat) (c : List UInt8), i + d = ps.length → c.length = n → Ev (fun k => spec_rwTick.l0 k (up c) ps (ps.length : Int) (i : Int)) (up ((ps.drop i).foldl trn c)) := by
  intro d
  induction d with
  | zero =>
    intro i c hi hc
    refine Ev.succ ?_
    simp only [spec_rwTick.l0]
    rw [List.drop_of_length_le (by omega)]
    exact Ev.neg (by omega) (Ev.now _)
  | succ d ih =>
    intro i c hi hc
    have hlt : i < ps.length := by omega
    have hm := hp (rd ps (i : Int)) (rd_mem hlt)
    obtain ⟨q, hq⟩ : ∃ q : Nat, rd ps (i : Int) = q := ⟨(rd ps (i : Int)).toNat, by omega⟩
    refine Ev.succ ?_
    simp only [spec_rwTick.l0, hq]
    rw [rd_cons_drop hlt, List.foldl_cons, wrap64_id (x := (i : Int) + 1) (by omega) (by omega), wrap64_id (x := (q : Int) + 2) (by omega) (by omega), Int.toNat_natCast, show ((q : Int) + 2).toNat = q + 2 by omega, up_take, up_drop]
    have e1 : up (c.take q) ++ (⟨#[60, 62]⟩ : ByteArray) = up (c.take q ++ [60, 62]) := up_app _ [60, 62]
    simp only [e1, up_app, up_isize]
    have e2 : (up (List.take q c)).size ≤ 1000 := by rw [up_size]; simp; omega
    have e3 : (up (List.take q c ++ [60, 62])).size ≤ 1002 := by rw [up_size]; simp; omega
    have e4 : (up (List.drop (q + 2) c)).size ≤ 1000 := by rw [up_size]; simp; omega
    refine Ev.pos (by omega) (Ev.pos (by omega) (Ev.pos (by omega) (Ev.pos (by omega) (Ev.pos (by omega) (Ev.pos (by omega) (Ev.pos (by omega) (Ev.pos (by omega) (Ev.pos (by omega) ?_))))))))
    have e5 : List.take q c ++ [60, 62] ++ List.drop (q + 2) c = trn c (rd ps (i : Int)) := by rw [hq]; rfl
    rw [e5]
    exact ih (i + 1) _ (by omega) (by rw [trn_len _ _ (by omega) (by omega)]; exact hc)
theorem rwTick_ev (l : List UInt8) (h : l.length ≤ 1000) : Ev (fun k => spec_rwTick.f k (up l)) (up (twk l)) := by
  unfold spec_rwTick.f
  refine Ev.bind (rwPairs_ev l h) ?_
  have hl := prs_len l 0
  have := rwTick_loop (prs 0 l) (by omega) l.length h (fun p hp => by have := prs_ge l 0 p hp; omega) (prs 0 l).length 0 l (by omega) rfl
  rw [List.drop_zero, fold_tick] at this
  exact this
theorem wt_1000 (l : List UInt8) (h : l.length ≤ 1000) : wt l ≤ 1000000 := Nat.le_trans (wt_sq l) (Nat.mul_le_mul h h)
theorem fac_prs (l : List UInt8) : (((prs 0 l).length : Int) > 0) ↔ fac l = true := by
  have := prs_nil l 0
  constructor
  · intro h
    rw [← Bool.not_eq_false, ← this]
    intro e; rw [e] at h; simp at h
  · intro h
    have : prs 0 l ≠ [] := by rw [Ne, this]; simp [h]
    have := List.length_pos_iff.2 this
    omega
theorem rwRest_loop : ∀ (f : Nat) (l : List UInt8) (n : Int), l.length ≤ 1000 → wt l ≤ f → 0 ≤ n → n + f ≤ 1000000000 → Ev (fun k => spec_rwRest.l0 k (up l) n) (up (rst f l).1, n + ((rst f l).2 : Int)) := by
  intro f
  induction f with
  | zero =>
    intro l n hl hw h0 h1
    have hf : fac l = false := by
      rw [← Bool.not_eq_true]; intro hf; have := (wt_le l).2 hf; omega
    refine Ev.succ ?_
    simp only [spec_rwRest.l0]
    refine Ev.bind (rwPairs_ev l hl) (Ev.neg (by rw [fac_prs, hf]; decide) ?_)
    simp only [rst]
    refine Ev.const ?_
    simp
  | succ f ih =>
    intro l n hl hw h0 h1
    refine Ev.succ ?_
    simp only [spec_rwRest.l0]
    refine Ev.bind (rwPairs_ev l hl) ?_
    rw [rst]
    by_cases hf : fac l = true
    · rw [if_pos hf]
      refine Ev.pos ((fac_prs l).2 hf) (Ev.bind (rwTick_ev l hl) ?_)
      have := (wt_le l).2 hf
      rw [wrap64_id (x := n + 1) (by omega) (by omega)]
      have := ih (twk l) (n + 1) (by rw [twk_len]; exact hl) (by omega) (by omega) (by omega)
      have e : (n + 1) + ((rst f (twk l)).2 : Int) = n + (((rst f (twk l)).2 + 1 : Nat) : Int) := by omega
      rw [e] at this
      exact this
    · rw [if_neg hf]
      refine Ev.neg (by rw [fac_prs]; exact hf) (Ev.const ?_)
      simp
theorem rwRest_ev (l : List UInt8) (hl : l.length ≤ 1000) : Ev (fun k => spec_rwRest.f k (up l)) (up (rst 1000000 l).1, ((rst 1000000 l).2 : Int)) := by
  have := rwRest_loop 1000000 l 0 hl (wt_1000 l hl) (by omega) (by omega)
  unfold spec_rwRest.f
  simpa using this
theorem ticks_loop : ∀ (f : Nat) (l : List UInt8) (n : Int), l.length ≤ 1000 → wt l ≤ f → 0 ≤ n → n + f ≤ 1000000000 → Ev (fun k => impl_ticksToRest.l0 k (up l) n) (n + ((rst f l).2 : Int)) := by
  intro f
  induction f with
  | zero =>
    intro l n hl hw h0 h1
    have hf : fac l = false := by
      rw [← Bool.not_eq_true]; intro hf; have := (wt_le l).2 hf; omega
    refine Ev.succ ?_
    simp only [impl_ticksToRest.l0, isAtRest_eq l hl, Option.bind_some, hf, rst]
    exact Ev.const (by simp)
  | succ f ih =>
    intro l n hl hw h0 h1
    refine Ev.succ ?_
    simp only [impl_ticksToRest.l0, isAtRest_eq l hl, tick_eq l hl, Option.bind_some]
    rw [rst]
    by_cases hf : fac l = true
    · rw [if_pos hf]
      refine Ev.neg (by simp [hf]) ?_
      have := (wt_le l).2 hf
      rw [wrap64_id (x := n + 1) (by omega) (by omega)]
      have := ih (twk l) (n + 1) (by rw [twk_len]; exact hl) (by omega) (by omega) (by omega)
      have e : (n + 1) + ((rst f (twk l)).2 : Int) = n + (((rst f (twk l)).2 + 1 : Nat) : Int) := by omega
      rw [e] at this
      exact this
    · rw [if_neg hf]
      exact Ev.pos (by simp [hf]) (Ev.const (by simp))
theorem ticks_ev (l : List UInt8) (hl : l.length ≤ 1000) : Ev (fun k => impl_ticksToRest.f k (up l)) ((rst 1000000 l).2 : Int) := by
  have := ticks_loop 1000000 l 0 hl (wt_1000 l hl) (by omega) (by omega)
  unfold impl_ticksToRest.f
  simpa using this
theorem after_loop : ∀ (t : Nat) (l : List UInt8), l.length ≤ 1000 → t ≤ 1000000000 → Ev (fun k => impl_RowAfter.l0 k (up l) (t : Int)) (up (twn t l), true) := by
  intro t
  induction t with
  | zero =>
    intro l hl ht
    refine Ev.succ ?_
    simp only [impl_RowAfter.l0]
    exact Ev.neg (by omega) (Ev.now _)
  | succ t ih =>
    intro l hl ht
    refine Ev.succ ?_
    simp only [impl_RowAfter.l0, isAtRest_eq l hl, tick_eq l hl, Option.bind_some]
    refine Ev.pos (by omega) ?_
    by_cases hf : fac l = true
    · refine Ev.neg (by simp [hf]) ?_
      rw [show ((t + 1 : Nat) : Int) - 1 = (t : Int) by omega, wrap64_id (x := (t : Int)) (by omega) (by omega), twn]
      exact ih (twk l) (by rw [twk_len]; exact hl) (by omega)
    · rw [Bool.not_eq_true] at hf
      rw [twn_rest _ _ hf]
      exact Ev.pos (by simp [hf]) (Ev.now _)
theorem after_ev (l : List UInt8) (t : Int) (hg : rgood l = true) (h0 : 0 ≤ t) (h1 : t ≤ 1000000) : Ev (fun k => impl_RowAfter.f k (up l) t) (up (twn t.toNat l), true) := by
  have hlen : 1 ≤ l.length ∧ l.length ≤ 60 := by
    unfold rgood at hg
    rw [Bool.and_eq_true, decide_eq_true_eq] at hg
    exact hg.1
  unfold impl_RowAfter.f
  rw [isRow_eq (up l) (by rw [up_size]; omega), L_mk, hg]
  simp only [Option.bind_some, if_true, in_eq]
  refine Ev.succ ?_
  simp only [impl_RowAfter.j0]
  refine Ev.neg (by simp; omega) ?_
  have := after_loop t.toNat l (by omega) (by omega)
  rw [Int.toNat_of_nonneg h0] at this
  exact this
theorem clo_loop (ps : List Int) (hps : ps.length ≤ 1000000) : ∀ (d i : Nat) (o : List Int), i + d = ps.length → (∀ p ∈ ps, 0 ≤ p ∧ p + 1 < (o.length : Int)) → Ev (fun k => impl_TurnsOfEach_clo.l0 k ps (i : Int) o) ((ps.drop i).foldl bump o) := by
  intro d
  induction d with
  | zero =>
    intro i o hi hp
    refine Ev.succ ?_
    simp only [impl_TurnsOfEach_clo.l0]
    rw [List.drop_of_length_le (by omega)]
    exact Ev.neg (by omega) (Ev.now _)
  | succ d ih =>
    intro i o hi hp
    have hlt : i < ps.length := by omega
    have hm := hp (rd ps (i : Int)) (rd_mem hlt)
    refine Ev.succ ?_
    simp only [impl_TurnsOfEach_clo.l0]
    rw [rd_cons_drop hlt, List.foldl_cons, wrap64_id (x := (i : Int) + 1) (by omega) (by omega)]
    refine Ev.pos (by omega) (Ev.pos (by omega) (Ev.pos (by omega) (Ev.pos (by omega) ?_)))
    exact ih (i + 1) (bump o (rd ps (i : Int))) (by omega) (fun p hp' => by rw [bump_len]; exact hp p hp')
theorem clo_ev (l : List UInt8) (o : List Int) (h1 : 1 ≤ l.length) (hl : l.length ≤ 1000) (ho : o.length = l.length) : Ev (fun k => impl_TurnsOfEach_clo.f k (up l) o) ((prs 0 l).foldl bump o) := by
  unfold impl_TurnsOfEach_clo.f
  refine Ev.bind (facing_ev l h1 hl) ?_
  have hle := prs_len l 0
  have := clo_loop (prs 0 l) (by omega) (prs 0 l).length 0 o (by omega) (fun p hp => by have := prs_ge l 0 p hp; omega)
  rw [List.drop_zero] at this
  exact this
theorem turns_loop : ∀ (f : Nat) (l : List UInt8) (o : List Int) (B : Int), 1 ≤ l.length → l.length ≤ 1000 → wt l ≤ f → o.length = l.length → 0 ≤ B → B + f ≤ 800000000 → (∀ q, 0 ≤ rd o q ∧ rd o q ≤ B) →
    ∃ o2 : List Int, Ev (fun k => impl_TurnsOfEach.l0 k (up l) o) o2 ∧ o2.length = l.length ∧ ∀ a, 0 ≤ a → rd o2 a = rd o a + trc f a l := by
  intro f
  induction f with
  | zero =>
    intro l o B h1 hl hw ho h0 hB hq
    have hf : fac l = false := by
      rw [← Bool.not_eq_true]; intro hf; have := (wt_le l).2 hf; omega
    refine ⟨o, Ev.succ ?_, ho, fun a _ => by simp [trc]⟩
    simp only [impl_TurnsOfEach.l0, isAtRest_eq l hl, Option.bind_some, hf]
    exact Ev.now _
  | succ f ih =>
    intro l o B h1 hl hw ho h0 hB hq
    by_cases hf : fac l = true
    · have hlt := (wt_le l).2 hf
      have hfold := rd_fold (prs 0 l) o B (prs_sparse l 0) (fun p hp => by have := prs_ge l 0 p hp; omega) h0 (by omega) (fun p _ => ⟨hq p, hq (p + 1)⟩) (fun q => by have := hq q; omega)
      have hneg : ∀ (o : List Int) (q : Int), q < 0 → rd o q = rd o 0 := fun o q h => by simp [rd, Int.toNat_of_nonpos (Int.le_of_lt h)]
      obtain ⟨o2, e1, e2, e3⟩ := ih (twk l) ((prs 0 l).foldl bump o) (B + 1) (by rw [twk_len]; exact h1) (by rw [twk_len]; exact hl) (by omega) (by rw [fold_bump_len, twk_len]; exact ho) (by omega) (by omega) (fun q => by
        by_cases h : 0 ≤ q
        · rw [hfold q h]; have := hq q; split <;> omega
        · rw [hneg _ q (by omega), hfold 0 (by omega)]; have := hq 0; split <;> omega)
      refine ⟨o2, Ev.succ ?_, by rw [e2, twk_len], fun a ha => ?_⟩
      · simp only [impl_TurnsOfEach.l0, isAtRest_eq l hl, tick_eq l hl, Option.bind_some]
        refine Ev.neg (by simp [hf]) (Ev.bind (clo_ev l o h1 hl ho) ?_)
        exact e1
      · rw [e3 a ha, hfold a ha, trc, if_pos hf]; omega
    · rw [Bool.not_eq_true] at hf
      refine ⟨o, Ev.succ ?_, ho, fun a _ => by simp [trc, hf]⟩
      simp only [impl_TurnsOfEach.l0, isAtRest_eq l hl, Option.bind_some, hf]
      exact Ev.now _
theorem turns_ev (l : List UInt8) (hg : rgood l = true) : ∃ o : List Int, Ev (fun k => impl_TurnsOfEach.f k (up l)) (o, true) ∧ o.length = l.length ∧ ∀ a, 0 ≤ a → rd o a = trc 1000000 a l := by
  have hlen : 1 ≤ l.length ∧ l.length ≤ 60 := by
    unfold rgood at hg
    rw [Bool.and_eq_true, decide_eq_true_eq] at hg
    exact hg.1
  have hz : ∀ q : Int, rd (List.replicate l.length (0 : Int)) q = 0 := fun q => by simp [rd, List.getElem?_replicate]; split <;> rfl
  obtain ⟨o, e1, e2, e3⟩ := turns_loop 1000000 l (List.replicate l.length 0) 0 hlen.1 (by omega) (Nat.le_trans (wt_sq l) (Nat.mul_le_mul (show l.length ≤ 1000 by omega) (show l.length ≤ 1000 by omega))) (by simp) (by omega) (by omega) (fun q => by rw [hz q]; omega)
  refine ⟨o, ?_, e2, fun a ha => by rw [e3 a ha, hz]; omega⟩
  unfold impl_TurnsOfEach.f
  rw [isRow_eq (up l) (by rw [up_size]; omega), L_mk, hg]
  simp only [Option.bind_some, if_true]
  refine Ev.pos (by rw [up_size]; omega) ?_
  rw [up_size]
  exact Ev.bind e1 (Ev.now _)
theorem l1Has_loop (a : Int) (ps : List Int) (hps : ps.length ≤ 1000000) : ∀ (d i : Nat), i + d = ps.length → Ev (fun k => spec_l1Has.l0 k a ps (ps.length : Int) (i : Int)) (decide (a ∈ ps.drop i)) := by
  intro d
  induction d with
  | zero =>
    intro i hi
    refine Ev.succ ?_
    simp only [spec_l1Has.l0]
    rw [List.drop_of_length_le (by omega)]
    exact Ev.neg (by omega) (Ev.const (by simp))
  | succ d ih =>
    intro i hi
    have hlt : i < ps.length := by omega
    refine Ev.succ ?_
    simp only [spec_l1Has.l0]
    rw [rd_cons_drop hlt, wrap64_id (x := (i : Int) + 1) (by omega) (by omega)]
    refine Ev.pos (by omega) (Ev.pos (by omega) (Ev.pos (by omega) (Ev.iff (fun hc => ?_) (fun hc => ?_))))
    · exact Ev.const (by simp [hc])
    · have := ih (i + 1) (by omega)
      have e : decide (a ∈ rd ps (i : Int) :: ps.drop (i + 1)) = decide (a ∈ ps.drop (i + 1)) := by
        apply decide_eq_decide.2
        rw [List.mem_cons]
        exact ⟨fun h => h.resolve_left (fun e => hc e.symm), .inr⟩
      rw [e]; exact this
theorem l1Has_ev (a : Int) (ps : List Int) (hps : ps.length ≤ 1000000) : Ev (fun k => spec_l1Has.f k ps a) (decide (a ∈ ps)) := by
  have := l1Has_loop a ps hps ps.length 0 (by omega)
  rw [List.drop_zero] at this
  exact this
theorem bt_get (l : List UInt8) (a : Int) (h0 : 0 ≤ a) (h1 : a < (l.length : Int)) : (bt (up l) a = 62) ↔ l[a.toNat]? = some 62 := by
  obtain ⟨i, rfl⟩ : ∃ i : Nat, a = i := ⟨a.toNat, by omega⟩
  rw [up62 l i (by omega), Int.toNat_natCast, List.getElem?_eq_getElem (by omega), Option.some.injEq]
theorem look_loop (a : Int) : ∀ (t : Nat) (l : List UInt8), l.length ≤ 1000 → t ≤ 1000000000 → 0 ≤ a → a < (l.length : Int) → Ev (fun k => spec_pzValue.l0 k a (t : Int) (up l) 0) (if (twn t l)[a.toNat]? = some 62 then 1 else 0) := by
  intro t
  induction t with
  | zero =>
    intro l hl ht h0 h1
    refine Ev.succ ?_
    simp only [spec_pzValue.l0, up_isize]
    refine Ev.neg (by omega) (Ev.pos h0 (Ev.pos h1 ?_))
    rw [twn]
    refine Ev.iff (fun hc => ?_) (fun hc => ?_)
    · rw [bt_get l a h0 h1] at hc; rw [if_pos hc]; exact Ev.now _
    · rw [bt_get l a h0 h1] at hc; rw [if_neg hc]; exact Ev.now _
  | succ t ih =>
    intro l hl ht h0 h1
    refine Ev.succ ?_
    simp only [spec_pzValue.l0]
    refine Ev.pos (by omega) (Ev.bind (rwTick_ev l hl) ?_)
    rw [show ((t + 1 : Nat) : Int) - 1 = (t : Int) by omega, wrap64_id (x := (t : Int)) (by omega) (by omega), twn]
    exact ih (twk l) (by rw [twk_len]; exact hl) (by omega) h0 (by rw [twk_len]; exact h1)
theorem count_loop (l : List UInt8) (hl : l.length ≤ 1000) : ∀ (d i : Nat) (n : Int), i + d = l.length → 0 ≤ n → n ≤ i → Ev (fun k => spec_pzValue.l1 k (up l) n (i : Int)) (n + ((l.drop i).count 62 : Int)) := by
  intro d
  induction d with
  | zero =>
    intro i n hi h0 h1
    refine Ev.succ ?_
    simp only [spec_pzValue.l1, up_isize]
    rw [List.drop_of_length_le (by omega)]
    exact Ev.neg (by omega) (Ev.const (by simp))
  | succ d ih =>
    intro i n hi h0 h1
    have hlt : i < l.length := by omega
    refine Ev.succ ?_
    simp only [spec_pzValue.l1, up_isize]
    rw [List.drop_eq_getElem_cons hlt, List.count_cons, wrap64_id (x := (i : Int) + 1) (by omega) (by omega), wrap64_id (x := n + 1) (by omega) (by omega)]
    refine Ev.pos (by omega) (Ev.pos (by omega) (Ev.iff (fun hc => ?_) (fun hc => ?_)))
    · rw [up62 l i hlt] at hc
      have := ih (i + 1) (n + 1) (by omega) (by omega) (by omega)
      rw [if_pos (by simp [hc])]
      have e : (n + 1) + ((l.drop (i + 1)).count 62 : Int) = n + (((l.drop (i + 1)).count 62 + 1 : Nat) : Int) := by omega
      rw [e] at this; exact this
    · rw [up62 l i hlt] at hc
      have := ih (i + 1) n (by omega) (by omega) (by omega)
      rw [if_neg (by simpa using hc)]
      exact this
theorem trc_loop (a : Int) (ha : 0 ≤ a) (ha1 : a ≤ 1000000) : ∀ (f : Nat) (l : List UInt8) (n : Int), l.length ≤ 1000 → wt l ≤ f → 0 ≤ n → n + f ≤ 1000000000 → Ev (fun k => spec_pzValue.l2 k a (up l) n (prs 0 l)) (n + trc f a l) := by
  intro f
  induction f with
  | zero =>
    intro l n hl hw h0 h1
    have hf : fac l = false := by
      rw [← Bool.not_eq_true]; intro hf; have := (wt_le l).2 hf; omega
    refine Ev.succ ?_
    simp only [spec_pzValue.l2, trc]
    exact Ev.neg (by rw [fac_prs, hf]; decide) (Ev.const (by simp))
  | succ f ih =>
    intro l n hl hw h0 h1
    refine Ev.succ ?_
    simp only [spec_pzValue.l2]
    rw [trc]
    by_cases hf : fac l = true
    · rw [if_pos hf]
      refine Ev.pos ((fac_prs l).2 hf) ?_
      have hlt := (wt_le l).2 hf
      have hps : (prs 0 l).length ≤ 1000000 := by have := prs_len l 0; omega
      have hl' : (twk l).length ≤ 1000 := by rw [twk_len]; exact hl
      have yes : Ev (fun k => spec_pzValue.j3 k a (up l) n true) (n + (1 + trc f a (twk l))) := by
        refine Ev.succ ?_
        simp only [spec_pzValue.j3, if_true]
        refine Ev.bind (rwTick_ev l hl) (Ev.bind (rwPairs_ev _ hl') ?_)
        rw [wrap64_id (x := n + 1) (by omega) (by omega)]
        have := ih (twk l) (n + 1) hl' (by omega) (by omega) (by omega)
        rw [show n + (1 + trc f a (twk l)) = n + 1 + trc f a (twk l) by omega]
        exact this
      have no : Ev (fun k => spec_pzValue.j3 k a (up l) n false) (n + (0 + trc f a (twk l))) := by
        refine Ev.succ ?_
        simp only [spec_pzValue.j3]
        refine Ev.neg (by decide) (Ev.bind (rwTick_ev l hl) (Ev.bind (rwPairs_ev _ hl') ?_))
        have := ih (twk l) n hl' (by omega) (by omega) (by omega)
        rw [Int.zero_add]
        exact this
      refine Ev.bind (l1Has_ev a _ hps) ?_
      by_cases c1 : a ∈ prs 0 l
      · rw [if_pos (.inl c1)]
        exact Ev.pos (by simp [c1]) yes
      · refine Ev.neg (by simp [c1]) ?_
        rw [wrap64_id (x := a - 1) (by omega) (by omega)]
        refine Ev.bind (l1Has_ev (a - 1) _ hps) ?_
        by_cases c2 : a - 1 ∈ prs 0 l
        · rw [if_pos (.inr c2), decide_eq_true c2]; exact yes
        · rw [if_neg (by rintro (h | h); exact c1 h; exact c2 h), decide_eq_false c2]; exact no
    · rw [if_neg hf]
      exact Ev.neg (by rw [fac_prs]; exact hf) (Ev.const (by simp))
theorem pzValue_ev (l : List UInt8) (k a b : Int) (hl : l.length ≤ 1000) (h : kok (l.length : Int) k a b) : Ev (fun r => spec_pzValue.f r k a b (up l)) (val k a b l) := by
  unfold spec_pzValue.f val
  by_cases h0 : k = 0
  · simp only [if_pos h0]
    obtain ⟨_, h1, h2⟩ : k = 0 ∧ (0 ≤ a ∧ a ≤ (l.length : Int) - 1) ∧ 0 ≤ b ∧ b ≤ 20 := by unfold kok at h; omega
    have := look_loop a b.toNat l hl (by omega) h1.1 (by omega)
    rw [Int.toNat_of_nonneg h2.1] at this
    exact this
  simp only [if_neg h0]
  by_cases h1 : k = 1
  · simp only [if_pos h1]
    have := count_loop l hl l.length 0 0 (by omega) (by omega) (by omega)
    simpa using this
  simp only [if_neg h1]
  by_cases h2 : k = 2
  · simp only [if_pos h2]
    exact Ev.bind (rwRest_ev l hl) (Ev.now _)
  simp only [if_neg h2]
  by_cases h3 : k = 3
  · simp only [if_pos h3]
    exact Ev.bind (rwPairs_ev l hl) (Ev.now _)
  simp only [if_neg h3]
  have h4 : k = 4 ∧ 0 ≤ a ∧ a ≤ (l.length : Int) - 1 := by unfold kok at h; omega
  refine Ev.bind (rwPairs_ev l hl) ?_
  have := trc_loop a h4.2.1 (by omega) 1000000 l 0 hl (wt_1000 l hl) (by omega) (by omega)
  rw [Int.zero_add] at this
  exact this
theorem pzFits_ev (l : List UInt8) (k a b c : Int) (hl : l.length ≤ 1000) (h : kok (l.length : Int) k a b) : Ev (fun r => spec_pzFits.f r k a b c (up l)) (val k a b l == c) := by
  unfold spec_pzFits.f
  exact Ev.bind (pzValue_ev l k a b hl h) (Ev.now _)
theorem told_ev (l : List UInt8) (k a b c : Int) (hg : rgood l = true) (h : kok (l.length : Int) k a b) : Ev (fun r => impl_Clue_told.f r k a b c (up l)) (k, a, b, val k a b l) := by
  have hlen : 1 ≤ l.length ∧ l.length ≤ 60 := by
    unfold rgood at hg
    rw [Bool.and_eq_true, decide_eq_true_eq] at hg
    exact hg.1
  unfold impl_Clue_told.f val
  by_cases h0 : k = 0
  · simp only [if_pos h0]
    obtain ⟨_, h1, h2⟩ : k = 0 ∧ (0 ≤ a ∧ a ≤ (l.length : Int) - 1) ∧ 0 ≤ b ∧ b ≤ 20 := by unfold kok at h; omega
    refine Ev.bind (after_ev l b hg h2.1 (by omega)) ?_
    have e := up_isize (twn b.toNat l)
    rw [twn_len] at e
    have e2 : (bt (up (twn b.toNat l)) a = 62) ↔ (twn b.toNat l)[a.toNat]? = some 62 := by
      obtain ⟨i, hi⟩ : ∃ i : Nat, a = i := ⟨a.toNat, by omega⟩
      subst hi
      rw [up62 _ i (by rw [twn_len]; omega), Int.toNat_natCast, List.getElem?_eq_getElem (by rw [twn_len]; omega), Option.some.injEq]
    refine Ev.pos h1.1 (Ev.pos (by show a < _; rw [e]; omega) ?_)
    refine Ev.iff (fun hc => ?_) (fun hc => ?_)
    · rw [if_pos (e2.1 hc)]; exact Ev.now _
    · rw [if_neg (fun q => hc (e2.2 q))]; exact Ev.now _
  simp only [if_neg h0]
  by_cases h1 : k = 1
  · simp only [if_pos h1]
    refine Ev.bind (Ev.const (show strings_Count.f (up l) (⟨#[62]⟩ : ByteArray) = some (l.count 62 : Int) from ?_)) (Ev.now _)
    show some ((Lib.countByte (L (up l)) 62 : Nat) : Int) = _
    rw [L_mk]; rfl
  simp only [if_neg h1]
  by_cases h2 : k = 2
  · simp only [if_pos h2]
    exact Ev.bind (ticks_ev l (by omega)) (Ev.now _)
  simp only [if_neg h2]
  by_cases h3 : k = 3
  · simp only [if_pos h3]
    exact Ev.bind (facing_ev l hlen.1 (by omega)) (Ev.now _)
  simp only [if_neg h3]
  have h4 : k = 4 ∧ 0 ≤ a ∧ a ≤ (l.length : Int) - 1 := by unfold kok at h; omega
  obtain ⟨o, e1, e2, e3⟩ := turns_ev l hg
  refine Ev.pos h4.1 (Ev.bind e1 ?_)
  refine Ev.pos h4.2.1 (Ev.pos (by show a < _; rw [e2]; omega) (Ev.const ?_))
  show some (k, a, b, rd o a) = _
  rw [e3 a h4.2.1]
theorem fits_ev (l : List UInt8) (k a b c : Int) (hg : rgood l = true) (h : kok (l.length : Int) k a b) : Ev (fun r => impl_Clue_fits.f r k a b c (up l)) (val k a b l == c) := by
  unfold impl_Clue_fits.f
  refine Ev.bind (told_ev l k a b c hg h) (Ev.const ?_)
  simp
theorem spDoesFit_ev (l : List UInt8) (k a b c : Int) (hl : l.length ≤ 100000000) : Ev (fun r => spec_DoesFit.f r k a b c (up l)) (if (rgood l && decide (l.length ≤ 8)) = true ∧ cok (l.length : Int) k a b c = true then (val k a b l == c, true) else (false, false)) := by
  have hs := up_size l
  unfold spec_DoesFit.f spec_pzHidden.f
  have hh : Ev (fun k => (spec_rwGood.f k (up l)).bind fun t102 => if t102 = true then some (decide (((up l).size : Int) ≤ 8)) else some false) (rgood l && decide (l.length ≤ 8)) := by
    have := rwGood_ev (up l) (by omega)
    rw [L_mk] at this
    refine Ev.bind this ?_
    have e : decide (((up l).size : Int) ≤ 8) = decide (l.length ≤ 8) := decide_eq_decide.2 (by omega)
    rw [e]
    cases rgood l <;> exact Ev.const rfl
  refine Ev.bind hh ?_
  rw [up_isize]
  by_cases hg : (rgood l && decide (l.length ≤ 8)) = true
  · have hlen : 1 ≤ l.length ∧ l.length ≤ 8 := by
      unfold rgood at hg
      simp only [Bool.and_eq_true, decide_eq_true_eq] at hg
      omega
    rw [hg, pzClue_eq (n := (l.length : Int)) (by omega)]
    simp only [Option.bind_some]
    refine Ev.pos trivial (Ev.iff (fun hc => ?_) (fun hc => ?_))
    · rw [if_pos ⟨trivial, hc⟩]
      exact Ev.bind (pzFits_ev l k a b c (by omega) (kok_of hc)) (Ev.now _)
    · rw [if_neg (fun h => hc h.2)]; exact Ev.now _
  · rw [if_neg (fun h => hg h.1)]
    exact Ev.neg hg (Ev.now _)
theorem imDoesFit_ev (l : List UInt8) (k a b c : Int) (hl : l.length ≤ 100000000) : Ev (fun r => impl_DoesFit.f r k a b c (up l)) (if (rgood l && decide (l.length ≤ 8)) = true ∧ cok (l.length : Int) k a b c = true then (val k a b l == c, true) else (false, false)) := by
  have hs := up_size l
  unfold impl_DoesFit.f
  rw [isRow_eq (up l) (by omega), L_mk, up_isize, isClue_eq]
  simp only [Option.bind_some]
  by_cases hg : rgood l = true
  · have hlen : 1 ≤ l.length := by
      unfold rgood at hg
      simp only [Bool.and_eq_true, decide_eq_true_eq] at hg
      omega
    rw [hg, Bool.true_and]
    refine Ev.pos rfl (Ev.iff (fun hc => ?_) (fun hc => ?_))
    · rw [Bool.and_eq_true, decide_eq_true_eq] at hc
      rw [if_pos ⟨by rw [decide_eq_true_eq]; omega, hc.2⟩]
      exact Ev.bind (fits_ev l k a b c hg (kok_of hc.2)) (Ev.now _)
    · rw [if_neg]
      · exact Ev.now _
      · rintro ⟨h1, h2⟩
        rw [decide_eq_true_eq] at h1
        exact hc (by rw [h2, Bool.and_true, decide_eq_true_eq]; omega)
  · rw [if_neg (fun h => hg (by have := h.1; rw [Bool.and_eq_true] at this; exact this.1))]
    exact Ev.neg hg (Ev.now _)
theorem rwMake_loop : ∀ (j m : Nat) (o : List UInt8), j + o.length ≤ 1000 → m < 4611686018427387904 → Ev (fun k => spec_rwMake.l0 k (j : Int) (m : Int) (up o)) (up (mk j m ++ o)) := by
  intro j
  induction j with
  | zero =>
    intro m o h hm
    refine Ev.succ ?_
    simp only [spec_rwMake.l0]
    exact Ev.neg (by omega) (Ev.now _)
  | succ j ih =>
    intro m o h hm
    have hs := up_size o
    refine Ev.succ ?_
    simp only [spec_rwMake.l0]
    rw [tmod_nn (by omega), tdiv_nn (by omega), show ((j + 1 : Nat) : Int) - 1 = (j : Int) by omega, wrap64_id (x := (j : Int)) (by omega) (by omega), wrap64_id (x := (m : Int) / 2) (by omega) (by omega), show (m : Int) / 2 = ((m / 2 : Nat) : Int) by omega]
    have e62 : (⟨#[62]⟩ : ByteArray) ++ up o = up (62 :: o) := up_app [62] o
    have e60 : (⟨#[60]⟩ : ByteArray) ++ up o = up (60 :: o) := up_app [60] o
    rw [e62, e60, mk, List.append_assoc]
    refine Ev.pos (by omega) (Ev.iff (fun hc => ?_) (fun hc => ?_))
    · have e : sgnOf (m % 2) = 62 := by unfold sgnOf; rw [if_pos (by omega)]
      rw [e]
      exact Ev.pos (by omega) (ih (m / 2) (62 :: o) (by simp; omega) (by omega))
    · have e : sgnOf (m % 2) = 60 := by unfold sgnOf; rw [if_neg (by omega)]
      rw [e]
      exact Ev.pos (by omega) (ih (m / 2) (60 :: o) (by simp; omega) (by omega))
theorem rwMake_ev (n m : Nat) (hn : n ≤ 60) (hm : m < 4611686018427387904) : Ev (fun k => spec_rwMake.f k (n : Int) (m : Int)) (up (mk n m)) := by
  unfold spec_rwMake.f
  have := rwMake_loop n m [] (by simp; omega) hm
  rw [List.append_nil] at this
  exact this
theorem rowOf_loop (n m : Nat) (hn : n ≤ 60) (hm : m < 4611686018427387904) : ∀ (d i : Nat), i + d = n → Ev (fun k => impl_rowOf.l0 k (n : Int) (m : Int) (cpy 0 (inums (mk n m)) i) (n : Int) (i : Int)) (up (mk n m)) := by
  have hl : (inums (mk n m)).length = n := by simp [inums, mk_len]
  intro d
  induction d with
  | zero =>
    intro i hi
    refine Ev.succ ?_
    simp only [impl_rowOf.l0]
    refine Ev.neg (by omega) (Ev.const ?_)
    rw [show i = (inums (mk n m)).length by omega, cpy_all, inums_str]
  | succ d ih =>
    intro i hi
    refine Ev.succ ?_
    simp only [impl_rowOf.l0, Option.bind_some]
    have hlt : i < (inums (mk n m)).length := by omega
    have hget : (inums (mk n m))[i] = if m / 2 ^ (n - 1 - i) % 2 = 1 then 62 else 60 := by
      have h1 := mk_get n m i (by omega)
      have h2 : (inums (mk n m))[i]? = some (((sgnOf (m / 2 ^ (n - 1 - i) % 2)).toNat : Nat) : Int) := by simp [inums, h1]
      rw [List.getElem?_eq_getElem hlt, Option.some.injEq] at h2
      rw [h2]
      unfold sgnOf
      split <;> rfl
    rw [wrap64_id (x := (n : Int) - 1) (by omega) (by omega), wrap64_id (x := (i : Int) + 1) (by omega) (by omega), wrap64_id (x := (n : Int) - 1 - (i : Int)) (by omega) (by omega), show (n : Int) - 1 - (i : Int) = ((n - 1 - i : Nat) : Int) by omega, shr_div m _ (by omega), and1 _ (Nat.lt_of_le_of_lt (Nat.div_le_self _ _) (by omega)), Int.toNat_natCast]
    have hs := cpy_succ 0 (inums (mk n m)) i hlt
    refine Ev.pos (by omega) (Ev.pos (by omega) (Ev.pos (by rw [cpy_len _ _ _ (by omega)]; omega) (Ev.pos (by omega) (Ev.iff (fun hc => ?_) (fun hc => ?_)))))
    · rw [hget, if_pos (by omega)] at hs
      rw [List.set_set, hs]
      exact ih (i + 1) (by omega)
    · rw [hget, if_neg (by omega)] at hs
      rw [hs]
      exact ih (i + 1) (by omega)
theorem rowOf_ev (n m : Nat) (hn : n ≤ 60) (hm : m < 4611686018427387904) : Ev (fun k => impl_rowOf.f k (n : Int) (m : Int)) (up (mk n m)) := by
  have hl : (inums (mk n m)).length = n := by simp [inums, mk_len]
  unfold impl_rowOf.f
  simp only [Option.bind_some, Int.toNat_natCast, List.length_replicate]
  refine Ev.pos (by omega) (Ev.pos (by omega) ?_)
  have := rowOf_loop n m hn hm n 0 (by omega)
  rw [cpy_zero, hl] at this
  exact this
def fitc (l : List UInt8) (x : S37) : Bool := val x.f0 x.f1 x.f2 l == x.f3
/-- The rows of n soldiers that fit clues, from a number on. -/
def sol (n : Nat) (cl : List S37) : Nat → Nat → List ByteArray
  | _, 0 => []
  | m, d + 1 => (if cl.all (fitc (mk n m)) = true then [up (mk n m)] else []) ++ sol n cl (m + 1) d
abbrev sols (n : Int) (cl : List S37) : List ByteArray := sol n.toNat cl 0 (2 ^ n.toNat)
theorem all_fit (l : List UInt8) (cl : List S37) (i : Nat) (h : i < cl.length) : (cl.drop i).all (fitc l) = (fitc l (rd_T37 cl (i : Int)) && (cl.drop (i + 1)).all (fitc l)) := by
  rw [List.drop_eq_getElem_cons h, rdClueI h]; rfl
theorem kok_get {n : Int} {cl : List S37} (hc : cl.all (cokS n) = true) {i : Nat} (h : i < cl.length) : kok n (rd_T37 cl (i : Int)).f0 (rd_T37 cl (i : Int)).f1 (rd_T37 cl (i : Int)).f2 := by
  rw [rdClueI h]
  exact kok_of (List.all_eq_true.1 hc _ (List.getElem_mem h))
theorem two8 (n : Nat) (h : n ≤ 8) : 2 ^ n ≤ 256 := Nat.pow_le_pow_right (by omega) h
theorem pzAll_in (n m : Nat) (hn : 1 ≤ n ∧ n ≤ 8) (cl : List S37) (hl : cl.length ≤ 1000000) (hc : cl.all (cokS (n : Int)) = true) (o : List ByteArray) (ho : o.length ≤ 1000000) (hm : m ≤ 1000000) (rT rF : List ByteArray)
    (hT : Ev (fun k => spec_pzAll.l0 k (n : Int) cl (o ++ [up (mk n m)]) ((m + 1 : Nat) : Int)) rT) (hF : Ev (fun k => spec_pzAll.l0 k (n : Int) cl o ((m + 1 : Nat) : Int)) rF) :
    ∀ (d i : Nat) (b : Bool), i + d = cl.length → Ev (fun k => spec_pzAll.l1 k (n : Int) cl o (m : Int) (up (mk n m)) b cl (cl.length : Int) (i : Int)) (if (b && (cl.drop i).all (fitc (mk n m))) = true then rT else rF) := by
  intro d
  induction d with
  | zero =>
    intro i b hi
    refine Ev.succ ?_
    simp only [spec_pzAll.l1]
    rw [List.drop_of_length_le (by omega), List.all_nil, Bool.and_true, wrap64_id (x := (m : Int) + 1) (by omega) (by omega)]
    refine Ev.neg (by omega) (Ev.iff (fun hb => ?_) (fun hb => ?_))
    · rw [if_pos hb]; exact Ev.pos (by omega) hT
    · rw [if_neg hb]; exact hF
  | succ d ih =>
    intro i b hi
    have hlt : i < cl.length := by omega
    refine Ev.succ ?_
    simp only [spec_pzAll.l1]
    rw [all_fit _ _ _ hlt, wrap64_id (x := (i : Int) + 1) (by omega) (by omega)]
    refine Ev.pos (by omega) (Ev.pos (by omega) (Ev.pos (by omega) (Ev.iff (fun hb => ?_) (fun hb => ?_))))
    · refine Ev.bind (pzFits_ev (mk n m) _ _ _ _ (by rw [mk_len]; omega) (by rw [mk_len]; exact kok_get hc hlt)) ?_
      have := ih (i + 1) (fitc (mk n m) (rd_T37 cl (i : Int))) (by omega)
      rw [hb, Bool.true_and]
      exact this
    · have := ih (i + 1) false (by omega)
      rw [Bool.not_eq_true] at hb
      rw [hb, Bool.false_and]
      rw [Bool.false_and] at this
      exact this
theorem pzAll_loop (n : Nat) (hn : 1 ≤ n ∧ n ≤ 8) (cl : List S37) (hl : cl.length ≤ 1000000) (hc : cl.all (cokS (n : Int)) = true) : ∀ (d m : Nat) (o : List ByteArray), m + d = 2 ^ n → o.length ≤ m → Ev (fun k => spec_pzAll.l0 k (n : Int) cl o (m : Int)) (o ++ sol n cl m d) := by
  have h2 := two8 n hn.2
  intro d
  induction d with
  | zero =>
    intro m o hm ho
    refine Ev.succ ?_
    simp only [spec_pzAll.l0]
    rw [shl_one n (by omega), sol, List.append_nil]
    exact Ev.pos (by omega) (Ev.neg (by omega) (Ev.now _))
  | succ d ih =>
    intro m o hm ho
    refine Ev.succ ?_
    simp only [spec_pzAll.l0]
    rw [shl_one n (by omega)]
    refine Ev.pos (by omega) (Ev.pos (by omega) (Ev.bind (rwMake_ev n m (by omega) (by omega)) ?_))
    have := pzAll_in n m hn cl hl hc o (by omega) (by omega) _ _ (ih (m + 1) (o ++ [up (mk n m)]) (by omega) (by simp; omega)) (ih (m + 1) o (by omega) (by omega)) cl.length 0 true (by omega)
    rw [Bool.true_and, List.drop_zero] at this
    have e : (if cl.all (fitc (mk n m)) = true then o ++ [up (mk n m)] ++ sol n cl (m + 1) d else o ++ sol n cl (m + 1) d) = o ++ sol n cl m (d + 1) := by
      rw [sol]
      split <;> simp
    rw [e] at this
    exact this
theorem pzAll_ev (n : Int) (hn : 1 ≤ n ∧ n ≤ 8) (cl : List S37) (hl : cl.length ≤ 1000000) (hc : cl.all (cokS n) = true) : Ev (fun k => spec_pzAll.f k n cl) (sols n cl) := by
  obtain ⟨j, rfl⟩ : ∃ j : Nat, n = j := ⟨n.toNat, by omega⟩
  have := pzAll_loop j (by omega) cl hl hc (2 ^ j) 0 [] (by omega) (by simp)
  unfold spec_pzAll.f
  rw [List.nil_append] at this
  exact this
theorem has_loop (n : Nat) (l : List UInt8) (hg : rgood l = true) (hn : l.length = n) (cl : List S37) (hl : cl.length ≤ 1000000) (hc : cl.all (cokS (n : Int)) = true) : ∀ (d i : Nat), i + d = cl.length → ∃ r : Int, Ev (fun k => impl_solutions_idx.l0 k (up l) cl (i : Int)) r ∧ decide (0 ≤ r) = !((cl.drop i).all (fitc l)) := by
  intro d
  induction d with
  | zero =>
    intro i hi
    refine ⟨-1, Ev.succ ?_, by rw [List.drop_of_length_le (by omega)]; rfl⟩
    simp only [impl_solutions_idx.l0]
    exact Ev.neg (by omega) (Ev.now _)
  | succ d ih =>
    intro i hi
    have hlt : i < cl.length := by omega
    have hf := fits_ev l (rd_T37 cl (i : Int)).f0 (rd_T37 cl (i : Int)).f1 (rd_T37 cl (i : Int)).f2 (rd_T37 cl (i : Int)).f3 hg (by rw [hn]; exact kok_get hc hlt)
    have hf2 : Ev (fun k => impl_solutions_clo.f k (up l) (rd_T37 cl (i : Int)).f0 (rd_T37 cl (i : Int)).f1 (rd_T37 cl (i : Int)).f2 (rd_T37 cl (i : Int)).f3) (!(fitc l (rd_T37 cl (i : Int)))) := by
      unfold impl_solutions_clo.f
      exact Ev.bind hf (Ev.now _)
    rw [all_fit _ _ _ hlt]
    by_cases hb : fitc l (rd_T37 cl (i : Int)) = true
    · obtain ⟨r, e1, e2⟩ := ih (i + 1) (by omega)
      refine ⟨r, Ev.succ ?_, by rw [hb, Bool.true_and]; exact e2⟩
      simp only [impl_solutions_idx.l0]
      rw [wrap64_id (x := (i : Int) + 1) (by omega) (by omega)]
      refine Ev.pos (by omega) (Ev.pos (by omega) (Ev.bind hf2 ?_))
      exact Ev.neg (by rw [hb]; decide) e1
    · rw [Bool.not_eq_true] at hb
      refine ⟨(i : Int), Ev.succ ?_, by rw [hb, Bool.false_and]; simp⟩
      simp only [impl_solutions_idx.l0]
      refine Ev.pos (by omega) (Ev.pos (by omega) (Ev.bind hf2 ?_))
      exact Ev.pos (by rw [hb]; rfl) (Ev.now _)
theorem has_ev (n : Nat) (l : List UInt8) (hg : rgood l = true) (hn : l.length = n) (cl : List S37) (hl : cl.length ≤ 1000000) (hc : cl.all (cokS (n : Int)) = true) : Ev (fun k => impl_solutions_has.f k (up l) cl) (!(cl.all (fitc l))) := by
  obtain ⟨r, e1, e2⟩ := has_loop n l hg hn cl hl hc cl.length 0 (by omega)
  rw [List.drop_zero] at e2
  unfold impl_solutions_has.f
  refine Ev.bind e1 ?_
  rw [e2]; exact Ev.now _
theorem solutions_loop (n : Nat) (hn : 1 ≤ n ∧ n ≤ 8) (cl : List S37) (hl : cl.length ≤ 1000000) (hc : cl.all (cokS (n : Int)) = true) : ∀ (d m : Nat) (o : List ByteArray), m + d = 2 ^ n → o.length ≤ m → Ev (fun k => impl_solutions.l0 k (n : Int) cl o ((2 ^ n : Nat) : Int) (m : Int)) (o ++ sol n cl m d) := by
  have h2 := two8 n hn.2
  intro d
  induction d with
  | zero =>
    intro m o hm ho
    refine Ev.succ ?_
    simp only [impl_solutions.l0]
    rw [sol, List.append_nil]
    exact Ev.neg (by omega) (Ev.now _)
  | succ d ih =>
    intro m o hm ho
    refine Ev.succ ?_
    simp only [impl_solutions.l0]
    rw [wrap64_id (x := (m : Int) + 1) (by omega) (by omega)]
    refine Ev.pos (by omega) (Ev.bind (rowOf_ev n m (by omega) (by omega)) (Ev.bind (has_ev n (mk n m) (mk_good n m (by omega)) (mk_len n m) cl hl hc) ?_))
    rw [sol]
    by_cases hb : cl.all (fitc (mk n m)) = true
    · rw [hb, if_pos rfl]
      have := ih (m + 1) (o ++ [up (mk n m)]) (by omega) (by simp; omega)
      rw [List.append_assoc] at this
      exact Ev.neg (by decide) (Ev.pos (by omega) this)
    · rw [if_neg hb, List.nil_append]
      rw [Bool.not_eq_true] at hb
      rw [hb]
      exact Ev.pos rfl (ih (m + 1) o (by omega) (by omega))
theorem solutions_ev (n : Int) (hn : 1 ≤ n ∧ n ≤ 8) (cl : List S37) (hl : cl.length ≤ 1000000) (hc : cl.all (cokS n) = true) : Ev (fun k => impl_solutions.f k n cl) (sols n cl) := by
  obtain ⟨j, rfl⟩ : ∃ j : Nat, n = j := ⟨n.toNat, by omega⟩
  have := solutions_loop j (by omega) cl hl hc (2 ^ j) 0 [] (by omega) (by simp)
  unfold impl_solutions.f
  rw [shl_one j (by omega)]
  rw [List.nil_append] at this
  exact Ev.pos (by omega) this

theorem pgood_is {n : Int} {l : List S37} (h : pgood n l = true) : (1 ≤ n ∧ n ≤ 8) ∧ l.length ≤ 6 ∧ l.all (cokS n) = true := by
  unfold pgood at h
  simp only [Bool.and_eq_true, decide_eq_true_eq] at h
  exact h
theorem imSolutions_ev (n : Int) (l : List S37) (hl : l.length ≤ 4398046510976) : Ev (fun k => impl_Solutions.f k n l) (if pgood n l = true then (sols n l, true) else ([], false)) := by
  unfold impl_Solutions.f
  refine Ev.bind (isPuzzle_ev n l (by omega)) ?_
  by_cases hg : pgood n l = true
  · have h := pgood_is hg
    rw [if_pos hg, hg]
    exact Ev.pos rfl (Ev.bind (solutions_ev n h.1 l (by omega) h.2.2) (Ev.now _))
  · rw [if_neg hg]
    exact Ev.neg hg (Ev.now _)
theorem imIsSolved_ev (n : Int) (l : List S37) (hl : l.length ≤ 4398046510976) : Ev (fun k => impl_IsSolved.f k n l) (if pgood n l = true then (((sols n l).length : Int) == 1, true) else (false, false)) := by
  unfold impl_IsSolved.f
  refine Ev.bind (imSolutions_ev n l hl) (Ev.const ?_)
  split <;> rfl
theorem all_sub {n : Int} {l l' : List S37} (h : l.all (cokS n) = true) (hs : ∀ x ∈ l', x ∈ l) : l'.all (cokS n) = true :=
  List.all_eq_true.2 fun x hx => List.all_eq_true.1 h x (hs x hx)
theorem pzWithout_int (l : List S37) (hl : l.length ≤ 1048576) (k : Int) (h : 0 ≤ k ∧ k ≤ (l.length : Int) - 1) : spec_pzWithout.f l k = some (l.eraseIdx k.toNat) := by
  unfold spec_pzWithout.f
  simp only [Option.bind_some, List.nil_append, List.length_nil]
  rw [wrap64_id (x := k + 1) (by omega) (by omega), if_pos h.1, if_pos (by omega), if_pos (by simp; omega), if_pos (by omega), if_pos (by omega), if_pos (by simp; omega), List.eraseIdx_eq_take_drop_succ, show (k + 1).toNat = k.toNat + 1 by omega]
theorem pzWithout_eq (l : List S37) (hl : l.length ≤ 1000000) (k : Nat) (h : k < l.length) : spec_pzWithout.f l (k : Int) = some (l.eraseIdx k) := by
  have := pzWithout_int l (by omega) (k : Int) ⟨by omega, by omega⟩
  rwa [Int.toNat_natCast] at this
theorem without_eq (l : List S37) (hl : l.length ≤ 1000000) (k : Nat) (h : k < l.length) : impl_without.f l (k : Int) = some (l.eraseIdx k) := by
  unfold impl_without.f
  first | unfold impl_Clue.f | unfold impl_Clue_58.f
  rw [if_pos (by omega)]
  simp only [Option.bind_some]
  rw [if_pos ⟨by omega, by omega, by omega⟩, Int.toNat_natCast]
theorem wo_sub {n : Int} {l : List S37} (h : l.all (cokS n) = true) (k : Nat) : (l.eraseIdx k).all (cokS n) = true := all_sub h fun x hx => List.mem_of_mem_eraseIdx hx
def ncs (n : Int) (l : List S37) : Nat → Nat → List Int
  | _, 0 => []
  | i, d + 1 => (if ((sols n (l.eraseIdx i)).length : Int) = ((sols n l).length : Int) then [(i : Int)] else []) ++ ncs n l (i + 1) d
theorem imNC_loop (n : Int) (hn : 1 ≤ n ∧ n ≤ 8) (l : List S37) (hl : l.length ≤ 1000000) (hc : l.all (cokS n) = true) : ∀ (d i : Nat) (o : List Int), i + d = l.length → o.length ≤ i → Ev (fun k => impl_NeedlessClues.l0 k (sols n l) o (l.length : Int) (i : Int) n l) (o ++ ncs n l i d, true) := by
  intro d
  induction d with
  | zero =>
    intro i o hi ho
    refine Ev.succ ?_
    simp only [impl_NeedlessClues.l0, ncs, List.append_nil]
    exact Ev.neg (by omega) (Ev.now _)
  | succ d ih =>
    intro i o hi ho
    refine Ev.succ ?_
    simp only [impl_NeedlessClues.l0]
    rw [wrap64_id (x := (i : Int) + 1) (by omega) (by omega), without_eq l hl i (by omega), ncs]
    simp only [Option.bind_some]
    have hle := List.length_eraseIdx_le l i
    refine Ev.pos (by omega) (Ev.bind (solutions_ev n hn _ (by omega) (wo_sub hc i)) (Ev.iff (fun hx => ?_) (fun hx => ?_)))
    · have := ih (i + 1) (o ++ [(i : Int)]) (by omega) (by simp; omega)
      rw [if_pos hx]
      rw [List.append_assoc] at this
      exact Ev.pos (by omega) this
    · rw [if_neg hx, List.nil_append]
      exact ih (i + 1) o (by omega) (by omega)
def ncr (n : Int) (l : List S37) : List Int × Bool := if pgood n l = true then (ncs n l 0 l.length, true) else ([], false)
theorem imNC_ev (n : Int) (l : List S37) (hl : l.length ≤ 4398046510976) : Ev (fun k => impl_NeedlessClues.f k n l) (ncr n l) := by
  unfold impl_NeedlessClues.f ncr
  refine Ev.bind (imSolutions_ev n l hl) ?_
  by_cases hg : pgood n l = true
  · have h := pgood_is hg
    rw [if_pos hg, if_pos hg]
    have := imNC_loop n h.1 l (by omega) h.2.2 l.length 0 [] (by omega) (by simp)
    rw [List.nil_append] at this
    exact Ev.pos rfl this
  · rw [if_neg hg, if_neg hg]
    exact Ev.neg (by decide) (Ev.now _)
def nz (z : Int) : Int := (223 * z + 2161) % 10007
theorem nz_bd (z : Int) (h : 0 ≤ z ∧ z ≤ 10006) : 0 ≤ nz z ∧ nz z ≤ 10006 := by unfold nz; omega
theorem nx_eq (z : Int) (h : 0 ≤ z ∧ z ≤ 10006) : impl_MakePuzzle.nx z = nz z := by
  unfold impl_MakePuzzle.nx nz
  rw [wrap64_id (x := z * 223) (by omega) (by omega), wrap64_id (by omega) (by omega), tmod_nn (by omega), Int.mul_comm]
theorem pn_eq (z : Int) (h : 0 ≤ z ∧ z ≤ 10006) : spec_pzNext.f z = some (nz z) := by
  unfold spec_pzNext.f nz
  rw [wrap64_id (x := 223 * z) (by omega) (by omega), wrap64_id (by omega) (by omega), tmod_nn (by omega)]
theorem yk (l : List UInt8) (hl : 1 ≤ l.length ∧ l.length ≤ 8) (kd y : Int) (hk : 0 ≤ kd ∧ kd ≤ 4) (hy : 0 ≤ y ∧ y ≤ 10006) : kok (l.length : Int) kd (impl_MakePuzzle.ya (up l) kd y) (impl_MakePuzzle.yb kd y) := by
  have e : ((up l).size : Int) = (l.length : Int) := up_isize l
  unfold kok impl_MakePuzzle.ya impl_MakePuzzle.yb
  rw [e, tmod_nn (by omega)]
  have m1 := Int.emod_nonneg y (show (l.length : Int) ≠ 0 by omega)
  have m2 := Int.emod_lt_of_pos y (show 0 < (l.length : Int) by omega)
  generalize y % (l.length : Int) = q at m1 m2
  by_cases h0 : kd = 0
  · rw [if_pos h0, if_pos h0, tdiv_nn (by omega), wrap64_id (by omega) (by omega), tmod_nn (by omega)]
    exact .inl ⟨h0, by omega, by omega, by omega⟩
  · rw [if_neg h0, if_neg h0]
    by_cases h4 : kd = 4
    · rw [if_pos h4]; exact .inr (.inr (.inr (.inr ⟨h4, by omega⟩)))
    · have : kd = 1 ∨ kd = 2 ∨ kd = 3 := by omega
      rcases this with h | h | h
      · exact .inr (.inl h)
      · exact .inr (.inr (.inl h))
      · exact .inr (.inr (.inr (.inl h)))
theorem pzOf_ev (l : List UInt8) (hl : 1 ≤ l.length ∧ l.length ≤ 8) (kd y : Int) (hk : 0 ≤ kd ∧ kd ≤ 4) (hy : 0 ≤ y ∧ y ≤ 10006) :
    Ev (fun k => spec_pzOf.f k kd y (up l)) (kd, impl_MakePuzzle.ya (up l) kd y, impl_MakePuzzle.yb kd y, val kd (impl_MakePuzzle.ya (up l) kd y) (impl_MakePuzzle.yb kd y) l) := by
  have hv := pzValue_ev l kd _ _ (by omega) (yk l hl kd y hk hy)
  have hsz : ¬ ((up l).size : Int) = 0 := by rw [up_isize]; omega
  unfold spec_pzOf.f
  by_cases h0 : kd = 0
  · have eA : impl_MakePuzzle.ya (up l) kd y = Int.tmod y ((up l).size : Int) := by unfold impl_MakePuzzle.ya; rw [if_pos h0]
    have eB : impl_MakePuzzle.yb kd y = Int.tmod (wrap64 (Int.tdiv y 11)) 4 := by unfold impl_MakePuzzle.yb; rw [if_pos h0]
    rw [eA, eB] at hv ⊢
    refine Ev.pos h0 (Ev.succ ?_)
    simp only [spec_pzOf.j0]
    exact Ev.pos trivial (Ev.neg hsz (Ev.pos h0 (Ev.bind hv (Ev.now _))))
  · have eB : impl_MakePuzzle.yb kd y = 0 := by unfold impl_MakePuzzle.yb; rw [if_neg h0]
    by_cases h4 : kd = 4
    · have eA : impl_MakePuzzle.ya (up l) kd y = Int.tmod y ((up l).size : Int) := by unfold impl_MakePuzzle.ya; rw [if_neg h0, if_pos h4]
      rw [eA, eB] at hv ⊢
      refine Ev.neg h0 (Ev.succ ?_)
      simp only [spec_pzOf.j0]
      exact Ev.pos (beq_iff_eq.2 h4) (Ev.neg hsz (Ev.neg h0 (Ev.bind hv (Ev.now _))))
    · have eA : impl_MakePuzzle.ya (up l) kd y = 0 := by unfold impl_MakePuzzle.ya; rw [if_neg h0, if_neg h4]
      rw [eA, eB] at hv ⊢
      refine Ev.neg h0 (Ev.succ ?_)
      simp only [spec_pzOf.j0]
      exact Ev.neg (fun h => h4 (beq_iff_eq.1 h)) (Ev.neg h0 (Ev.bind hv (Ev.now _)))
theorem pzHidden_ev (s : ByteArray) (hs : s.size ≤ 140737488351232) : Ev (fun k => spec_pzHidden.f k s) (rgood (L s) && decide ((s.size : Int) ≤ 8)) := by
  unfold spec_pzHidden.f
  refine Ev.bind (rwGood_ev s hs) ?_
  cases rgood (L s)
  · exact Ev.neg (by decide) (Ev.now _)
  · exact Ev.pos rfl (Ev.const (by rw [Bool.true_and]))
theorem rdS_mem {l : List ByteArray} {j : Int} (h0 : 0 ≤ j) (h : j < l.length) : rdOf ByteArray.empty l j ∈ l := by
  have h' : j.toNat < l.length := by omega
  simp [rdOf, h']
theorem of_ok (code : List Int) (hc : ∀ x ∈ code, 0 ≤ x ∧ x ≤ 255) (p s : Int) (l : List ByteArray) (hl : 0 < l.length) (h0 : 0 ≤ p) (h1 : p ≤ 999990) : ∃ v p' s', spec_l1Cur_of.f code p s l = some (v, p', s') ∧ v ∈ l ∧ p ≤ p' ∧ p' ≤ p + 2 := by
  unfold spec_l1Cur_of.f
  obtain ⟨v, p', s', e, v0, v1, q0, q1⟩ := pick_ok code hc p s (l.length : Int) h0 h1
  rw [e]
  simp only [Option.bind_some]
  have hv : v < (l.length : Int) := by omega
  rw [if_pos v0, if_pos hv]
  exact ⟨_, _, _, rfl, rdS_mem v0 hv, q0, q1⟩
theorem sol_sub (n : Nat) (c c' : List S37) (h : ∀ x ∈ c', x ∈ c) : ∀ d m, (sol n c m d).Sublist (sol n c' m d)
  | 0, _ => by simp [sol]
  | d + 1, m => by
    rw [sol, sol]
    refine List.Sublist.append ?_ (sol_sub n c c' h d (m + 1))
    by_cases e : c.all (fitc (mk n m)) = true
    · have e' : c'.all (fitc (mk n m)) = true := List.all_eq_true.2 fun x hx => List.all_eq_true.1 e x (h x hx)
      rw [if_pos e, if_pos e']; exact List.Sublist.refl _
    · rw [if_neg e]; exact List.nil_sublist _
theorem sols_sub (n : Int) {c c' : List S37} (h : ∀ x ∈ c', x ∈ c) : (sols n c).Sublist (sols n c') := sol_sub _ _ _ h _ _
theorem er_er {α : Type} : ∀ (c : List α) (i j : Nat), j < i → (c.eraseIdx i).eraseIdx j = (c.eraseIdx j).eraseIdx (i - 1)
  | [], i, j, _ => by simp
  | a :: c, 0, j, h => by omega
  | a :: c, i + 1, 0, h => by simp
  | a :: c, i + 1, j + 1, h => by
    obtain ⟨i', rfl⟩ : ∃ i', i = i' + 1 := ⟨i - 1, by omega⟩
    simp only [List.eraseIdx_cons_succ, Nat.add_sub_cancel]
    rw [er_er c (i' + 1) j (by omega), Nat.add_sub_cancel]
/-- What the harder puzzle is known for. -/
structure Hard (n : Int) (l r : List S37) : Prop where
  len : r.length ≤ l.length
  sub : ∀ x ∈ r, x ∈ l
  one : (sols n r).length = 1
  min : ∀ j, j < r.length → 2 ≤ (sols n (r.eraseIdx j)).length
theorem hd_loop (n : Int) (hn : 1 ≤ n ∧ n ≤ 8) (l : List S37) : ∀ (d i : Nat) (c : List S37), i + d = c.length → c.length ≤ 6 → c.all (cokS n) = true → (∀ x ∈ c, x ∈ l) → c.length ≤ l.length → (sols n c).length = 1 → (∀ j, j < i → 2 ≤ (sols n (c.eraseIdx j)).length) →
    ∃ r : List S37, Ev (fun k => impl_HarderPuzzle.l0 k (i : Int) n l n c) (n, r, true) ∧ Ev (fun k => spec_HarderPuzzle.l0 k c (i : Int) n l) (n, r, true) ∧ Hard n l r := by
  intro d
  induction d with
  | zero =>
    intro i c hi hl hc hs hle h1 hm
    refine ⟨c, Ev.succ ?_, Ev.succ ?_, ⟨hle, hs, h1, fun j hj => hm j (by omega)⟩⟩
    · simp only [impl_HarderPuzzle.l0]; exact Ev.neg (by omega) (Ev.now _)
    · simp only [spec_HarderPuzzle.l0]; exact Ev.neg (by omega) (Ev.now _)
  | succ d ih =>
    intro i c hi hl hc hs hle h1 hm
    have hle2 : (c.eraseIdx i).length + 1 = c.length := by rw [List.length_eraseIdx, if_pos (by omega)]; omega
    have hsub := wo_sub hc i
    have ew := without_eq c (by omega) i (by omega)
    have ep := pzWithout_eq c (by omega) i (by omega)
    have e1 := solutions_ev n hn (c.eraseIdx i) (by omega) hsub
    have e2 := pzAll_ev n hn (c.eraseIdx i) (by omega) hsub
    have hge := (sols_sub n (c := c) (c' := c.eraseIdx i) (fun x hx => List.mem_of_mem_eraseIdx hx)).length_le
    by_cases hx : ((sols n (c.eraseIdx i)).length : Int) = 1
    · obtain ⟨r, r1, r2, r3⟩ := ih i (c.eraseIdx i) (by omega) (by omega) hsub (fun x hx => hs x (List.mem_of_mem_eraseIdx hx)) (by omega) (by omega) (fun j hj => by
        have h2 := hm j hj
        have h3 := (sols_sub n (c := c.eraseIdx j) (c' := (c.eraseIdx i).eraseIdx j) (fun x hx => by rw [er_er c i j hj] at hx; exact List.mem_of_mem_eraseIdx hx)).length_le
        omega)
      refine ⟨r, Ev.succ ?_, Ev.succ ?_, r3⟩
      · simp only [impl_HarderPuzzle.l0, ew, Option.bind_some]
        exact Ev.pos (by omega) (Ev.bind e1 (Ev.pos hx r1))
      · simp only [spec_HarderPuzzle.l0, ep, Option.bind_some, spec_pzSolved.f]
        exact Ev.pos (by omega) (Ev.bind (Ev.bind e2 (Ev.now _)) (Ev.pos (beq_iff_eq.2 hx) r2))
    · obtain ⟨r, r1, r2, r3⟩ := ih (i + 1) c (by omega) hl hc hs hle h1 (fun j hj => by
        by_cases cj : j = i
        · subst cj; omega
        · exact hm j (by omega))
      refine ⟨r, Ev.succ ?_, Ev.succ ?_, r3⟩
      · simp only [impl_HarderPuzzle.l0, ew, Option.bind_some]
        rw [wrap64_id (x := (i : Int) + 1) (by omega) (by omega)]
        exact Ev.pos (by omega) (Ev.bind e1 (Ev.neg hx r1))
      · simp only [spec_HarderPuzzle.l0, ep, Option.bind_some, spec_pzSolved.f]
        rw [wrap64_id (x := (i : Int) + 1) (by omega) (by omega)]
        exact Ev.pos (by omega) (Ev.bind (Ev.bind e2 (Ev.now _)) (Ev.neg (fun h => hx (beq_iff_eq.1 h)) r2))
/-- Whether a puzzle has one solution. -/
def solv (n : Int) (l : List S37) : Bool := pgood n l && decide ((sols n l).length = 1)
theorem hd_ev (n : Int) (l : List S37) (hl : l.length ≤ 4398046510976) : ∃ R : Int × List S37 × Bool, Ev (fun k => spec_HarderPuzzle.f k n l) R ∧ Ev (fun k => impl_HarderPuzzle.f k n l) R ∧ R.2.2 = solv n l ∧ R.2.1.length ≤ 6 ∧ (solv n l = true → R.1 = n ∧ Hard n l R.2.1) := by
  have sg := pzGood_ev n l hl
  have im := imIsSolved_ev n l hl
  unfold spec_HarderPuzzle.f impl_HarderPuzzle.f
  by_cases hg : pgood n l = true
  · have h := pgood_is hg
    rw [hg] at sg im
    have e2 := pzAll_ev n h.1 l (by omega) h.2.2
    by_cases hx : ((sols n l).length : Int) = 1
    · have hs : solv n l = true := by unfold solv; rw [hg, decide_eq_true (by omega)]; rfl
      obtain ⟨r, r1, r2, r3⟩ := hd_loop n h.1 l l.length 0 l (by omega) h.2.1 h.2.2 (fun _ hx => hx) (Nat.le_refl _) (by omega) (fun j hj => by omega)
      refine ⟨(n, r, true), Ev.bind sg (Ev.pos rfl ?_), Ev.bind im (Ev.pos (beq_iff_eq.2 hx) ?_), hs.symm, Nat.le_trans r3.len h.2.1, fun _ => ⟨rfl, r3⟩⟩
      · unfold spec_pzSolved.f
        refine Ev.bind (Ev.bind e2 (Ev.now _)) (Ev.succ ?_)
        have hb : (((sols n l).length : Int) == 1) = true := beq_iff_eq.2 hx
        simp only [hb, spec_HarderPuzzle.j0, Option.bind_some, List.nil_append, List.length_nil]
        exact Ev.neg (by decide) (Ev.pos (by omega) r2)
      · refine Ev.bind (Ev.const (show _ = some l from ?_)) r1
        first | (unfold impl_Clue.f; exact if_pos (by omega)) | (unfold impl_Clue_58.f; exact if_pos (by omega))
    · have hs : solv n l = false := by unfold solv; rw [hg, decide_eq_false (by omega)]; rfl
      refine ⟨(0, [], false), Ev.bind sg (Ev.pos rfl ?_), Ev.bind im (Ev.neg (fun h => hx (beq_iff_eq.1 h)) (Ev.now _)), hs.symm, by simp, fun q => by rw [hs] at q; exact absurd q (by decide)⟩
      unfold spec_pzSolved.f
      refine Ev.bind (Ev.bind e2 (Ev.now _)) (Ev.succ ?_)
      have hb : (((sols n l).length : Int) == 1) = false := beq_eq_false_iff_ne.2 hx
      simp only [hb, spec_HarderPuzzle.j0]
      exact Ev.pos (by decide) (Ev.now _)
  · rw [if_neg hg] at im
    have hs : solv n l = false := by unfold solv; rw [Bool.not_eq_true] at hg; rw [hg]; rfl
    refine ⟨(0, [], false), Ev.bind sg (Ev.neg hg (Ev.succ ?_)), Ev.bind im (Ev.neg (by decide) (Ev.now _)), hs.symm, by simp, fun q => by rw [hs] at q; exact absurd q (by decide)⟩
    simp only [spec_HarderPuzzle.j0]
    exact Ev.pos (by decide) (Ev.now _)
theorem imSolved_ev (n : Int) (l : List S37) (hl : l.length ≤ 4398046510976) : Ev (fun k => impl_IsSolved.f k n l) (solv n l, pgood n l) := by
  have := imIsSolved_ev n l hl
  unfold solv
  by_cases hg : pgood n l = true
  · rw [if_pos hg] at this
    rw [hg]
    have e : (((sols n l).length : Int) == 1) = (true && decide ((sols n l).length = 1)) := by
      rw [Bool.true_and]
      by_cases c : (sols n l).length = 1
      · rw [decide_eq_true c, c]; rfl
      · rw [decide_eq_false c, beq_eq_false_iff_ne]; omega
    rw [← e]; exact this
  · rw [if_neg hg] at this
    rw [Bool.not_eq_true] at hg
    rw [hg]; exact this
theorem hd_good {n : Int} {l r : List S37} (hg : pgood n l = true) (h : Hard n l r) : pgood n r = true := by
  have g := pgood_is hg
  unfold pgood
  rw [decide_eq_true g.1, decide_eq_true (Nat.le_trans h.len g.2.1), all_sub g.2.2 h.sub]; rfl
theorem hd_sols {n : Int} {l r : List S37} (h1 : (sols n l).length = 1) (h : Hard n l r) : sols n r = sols n l :=
  ((sols_sub n h.sub).eq_of_length (by rw [h1, h.one])).symm
theorem ncs_nil (n : Int) (l : List S37) : ∀ d i, (∀ j, i ≤ j → j < i + d → ¬ ((sols n (l.eraseIdx j)).length : Int) = ((sols n l).length : Int)) → ncs n l i d = []
  | 0, _, _ => rfl
  | d + 1, i, h => by
    rw [ncs, if_neg (h i (by omega) (by omega)), List.nil_append]
    exact ncs_nil n l d (i + 1) (fun j h1 h2 => h j (by omega) (by omega))
theorem hd_ncr {n : Int} {l r : List S37} (hg : pgood n l = true) (h : Hard n l r) : ncr n r = ([], true) := by
  unfold ncr
  rw [if_pos (hd_good hg h), ncs_nil n r r.length 0 (fun j _ hj => by have := h.min j (by omega); have := h.one; omega)]
theorem trc_rst : ∀ (f : Nat) (a : Int) (l : List UInt8), trc f a l ≤ ((rst f l).2 : Int)
  | 0, a, l => by simp [trc, rst]
  | f + 1, a, l => by
    have ih := trc_rst f a (twk l)
    rw [trc, rst]
    split
    · simp only; split <;> omega
    · simp
/-- A clue's number is such. -/
theorem val_cok (l : List UInt8) (hg : rgood l = true) (h8 : l.length ≤ 8) (k a b : Int) (hk : kok (l.length : Int) k a b) (ha : k = 1 ∨ k = 2 ∨ k = 3 → a = 0) (hb : k ≠ 0 → b = 0) : cok (l.length : Int) k a b (val k a b l) = true := by
  have hr : (1 ≤ l.length ∧ l.length ≤ 60) ∧ l.all sgn = true := by
    unfold rgood at hg
    simp only [Bool.and_eq_true, decide_eq_true_eq] at hg
    exact hg
  have hrst := rst_n 1000000 l hr.2 hr.1.1
  unfold kok at hk
  unfold cok val
  by_cases h0 : k = 0
  · rw [if_pos h0, if_pos h0, decide_eq_true (show 0 ≤ a ∧ a ≤ (l.length : Int) - 1 by omega), decide_eq_true (show 0 ≤ b ∧ b ≤ 20 by omega)]
    split <;> rfl
  rw [if_neg h0, if_neg h0]
  have hb' := hb h0
  by_cases h1 : k = 1
  · have := ha (.inl h1)
    have hc := List.count_le_length (l := l) (a := 62)
    rw [if_pos h1, if_pos h1, decide_eq_true this, decide_eq_true hb', decide_eq_true (show 0 ≤ ((l.count 62 : Nat) : Int) ∧ ((l.count 62 : Nat) : Int) ≤ (l.length : Int) by omega)]; rfl
  rw [if_neg h1, if_neg h1]
  by_cases h2 : k = 2
  · have := ha (.inr (.inl h2))
    rw [if_pos h2, if_pos h2, decide_eq_true this, decide_eq_true hb', decide_eq_true (show 0 ≤ ((rst 1000000 l).2 : Int) ∧ ((rst 1000000 l).2 : Int) ≤ 20 by omega)]; rfl
  rw [if_neg h2, if_neg h2]
  by_cases h3 : k = 3
  · have := ha (.inr (.inr h3))
    have hp := prs_len l 0
    rw [if_pos h3, if_pos h3, decide_eq_true this, decide_eq_true hb', decide_eq_true (show 0 ≤ ((prs 0 l).length : Int) ∧ ((prs 0 l).length : Int) ≤ 8 by omega)]; rfl
  rw [if_neg h3, if_neg h3]
  have ht := (trc_bd 1000000 a l).1
  have ht2 := trc_rst 1000000 a l
  rw [if_pos (show k = 4 by omega), decide_eq_true (show 0 ≤ a ∧ a ≤ (l.length : Int) - 1 by omega), decide_eq_true hb', decide_eq_true (show 0 ≤ trc 1000000 a l ∧ trc 1000000 a l ≤ 20 by omega)]; rfl
/-- What a made puzzle is known for. -/
structure Made (l : List UInt8) (r : List S37) : Prop where
  all : r.all (cokS (l.length : Int)) = true
  fit : r.all (fitc l) = true
theorem md_loop (l : List UInt8) (hg : rgood l = true) (hl : 1 ≤ l.length ∧ l.length ≤ 8) (m : Nat) (hm : m ≤ 6) : ∀ (d i : Nat) (z : Int) (acc : List S37), i + d = m → 0 ≤ z ∧ z ≤ 10006 → acc.length = i → Made l acc →
    ∃ r : List S37, Ev (fun k => spec_MakePuzzle.l0 k (up l) (d : Int) z ((up l).size : Int) acc) (((up l).size : Int), r, true) ∧ Ev (fun k => impl_MakePuzzle.l0 k (up l) (m : Int) (i : Int) z acc) (((up l).size : Int), r, true) ∧ r.length = m ∧ Made l r := by
  have hsz : ¬ ((up l).size : Int) = 0 := by rw [up_isize]; omega
  intro d
  induction d with
  | zero =>
    intro i z acc hi hz ha hM
    refine ⟨acc, Ev.succ ?_, Ev.succ ?_, by omega, hM⟩
    · simp only [spec_MakePuzzle.l0]
      exact Ev.neg (by omega) (Ev.now _)
    · simp only [impl_MakePuzzle.l0]
      exact Ev.neg (by omega) (Ev.now _)
  | succ d ih =>
    intro i z acc hi hz ha hM
    have z1 := nz_bd z hz
    have z2 := nz_bd _ z1
    have hk : 0 ≤ Int.tmod (nz z) 5 ∧ Int.tmod (nz z) 5 ≤ 4 := by rw [tmod_nn z1.1]; omega
    have sp := pzOf_ev l hl _ _ hk z2
    have hyk := yk l hl _ _ hk z2
    have im := told_ev l _ _ _ 0 hg hyk
    have hc := val_cok l hg hl.2 _ _ _ hyk (fun h => by unfold impl_MakePuzzle.ya; rw [if_neg (by omega), if_neg (by omega)]) (fun h => by unfold impl_MakePuzzle.yb; rw [if_neg h])
    have hM' : Made l (acc ++ [(⟨Int.tmod (nz z) 5, impl_MakePuzzle.ya (up l) (Int.tmod (nz z) 5) (nz (nz z)), impl_MakePuzzle.yb (Int.tmod (nz z) 5) (nz (nz z)), val (Int.tmod (nz z) 5) (impl_MakePuzzle.ya (up l) (Int.tmod (nz z) 5) (nz (nz z))) (impl_MakePuzzle.yb (Int.tmod (nz z) 5) (nz (nz z))) l⟩ : S37)]) := by
      refine ⟨?_, ?_⟩
      · rw [List.all_append, hM.all, Bool.true_and, List.all_cons, List.all_nil, Bool.and_true]; exact hc
      · rw [List.all_append, hM.fit, Bool.true_and, List.all_cons, List.all_nil, Bool.and_true]; unfold fitc; simp
    obtain ⟨r, r1, r2, r3, r4⟩ := ih (i + 1) (nz (nz z)) (acc ++ [⟨Int.tmod (nz z) 5, impl_MakePuzzle.ya (up l) (Int.tmod (nz z) 5) (nz (nz z)), impl_MakePuzzle.yb (Int.tmod (nz z) 5) (nz (nz z)), val (Int.tmod (nz z) 5) (impl_MakePuzzle.ya (up l) (Int.tmod (nz z) 5) (nz (nz z))) (impl_MakePuzzle.yb (Int.tmod (nz z) 5) (nz (nz z))) l⟩]) (by omega) z2 (by simp [ha]) hM'
    refine ⟨r, Ev.succ ?_, Ev.succ ?_, r3, r4⟩
    · simp only [spec_MakePuzzle.l0, pn_eq z hz, pn_eq _ z1, Option.bind_some]
      rw [show ((d + 1 : Nat) : Int) - 1 = (d : Int) by omega, wrap64_id (x := (d : Int)) (by omega) (by omega)]
      exact Ev.pos (by omega) (Ev.bind sp (Ev.pos (by omega) r1))
    · simp only [impl_MakePuzzle.l0, nx_eq z hz, nx_eq _ z1]
      rw [show (i : Int) + 1 = ((i + 1 : Nat) : Int) by omega, wrap64_id (x := ((i + 1 : Nat) : Int)) (by omega) (by omega)]
      exact Ev.pos (by omega) (Ev.neg hsz (Ev.bind im (Ev.pos (by omega) r2)))
/-- Whether a puzzle can be made. -/
def mkok (l : List UInt8) (a1 a2 : Int) : Prop := (rgood l = true ∧ l.length ≤ 8) ∧ (0 ≤ a1 ∧ a1 ≤ 6) ∧ 0 ≤ a2 ∧ a2 ≤ 9999
instance (l : List UInt8) (a1 a2 : Int) : Decidable (mkok l a1 a2) := by unfold mkok; infer_instance
theorem md_ev (l : List UInt8) (hs : l.length ≤ 1000000000) (a1 a2 : Int) : ∃ r : List S37, Ev (fun k => spec_MakePuzzle.f k (up l) a1 a2) (if mkok l a1 a2 then ((l.length : Int), r, true) else (0, [], false)) ∧ Ev (fun k => impl_MakePuzzle.f k (up l) a1 a2) (if mkok l a1 a2 then ((l.length : Int), r, true) else (0, [], false)) ∧ (mkok l a1 a2 → (r.length : Int) = a1 ∧ Made l r) := by
  have hsz := up_isize l
  have sh := pzHidden_ev (up l) (by omega)
  rw [L_mk] at sh
  have bad1 : Ev (fun k => spec_MakePuzzle.j0 k (up l) a1 a2 true) (0, [], false) := Ev.succ (by simp only [spec_MakePuzzle.j0]; exact Ev.pos trivial (Ev.now _))
  have bad2 : Ev (fun k => impl_MakePuzzle.j0 k (up l) a1 a2 true) (0, [], false) := by unfold impl_MakePuzzle.j0; exact Ev.pos rfl (Ev.now _)
  have hrow := isRow_eq (up l) (by omega)
  rw [L_mk] at hrow
  unfold spec_MakePuzzle.f impl_MakePuzzle.f impl_isHidden.f
  simp only [hrow, in_eq, l1In_eq, Option.bind_some]
  have non : ∀ g f, ¬ mkok l a1 a2 → Ev g (0, [], false) → Ev f (0, [], false) → ∃ r : List S37, Ev g (if mkok l a1 a2 then ((l.length : Int), r, true) else (0, [], false)) ∧ Ev f (if mkok l a1 a2 then ((l.length : Int), r, true) else (0, [], false)) ∧ (mkok l a1 a2 → (r.length : Int) = a1 ∧ Made l r) := by
    intro g f h h1 h2
    exact ⟨[], by rw [if_neg h]; exact h1, by rw [if_neg h]; exact h2, fun x => absurd x h⟩
  by_cases hr : rgood l = true
  · have hlen : 1 ≤ l.length ∧ l.length ≤ 60 := by
      have h := hr
      unfold rgood at h
      simp only [Bool.and_eq_true, decide_eq_true_eq] at h
      exact h.1
    by_cases h8 : ((up l).size : Int) ≤ 8
    · rw [hr, decide_eq_true h8] at sh
      have d8 : decide (1 ≤ ((up l).size : Int) ∧ ((up l).size : Int) ≤ 8) = true := decide_eq_true ⟨by omega, h8⟩
      by_cases h3 : 0 ≤ a1 ∧ a1 ≤ 6
      · by_cases h4 : 0 ≤ a2 ∧ a2 ≤ 9999
        · obtain ⟨r, p1, p2, p3, p4⟩ := md_loop l hr (by omega) a1.toNat (by omega) a1.toNat 0 a2 [] (by omega) (by omega) rfl ⟨rfl, rfl⟩
          rw [show ((a1.toNat : Nat) : Int) = a1 by omega, hsz] at p1 p2
          have hok : mkok l a1 a2 := ⟨⟨hr, by omega⟩, h3, h4⟩
          refine ⟨r, ?_, ?_, fun _ => ⟨by omega, p4⟩⟩
          · rw [if_pos hok]
            refine Ev.bind sh (Ev.pos rfl (Ev.pos (decide_eq_true h3) (Ev.succ ?_)))
            simp only [spec_MakePuzzle.j0, decide_eq_true h4, Bool.not_true]
            rw [hsz]
            exact Ev.neg (by decide) p1
          · rw [if_pos hok]
            refine Ev.pos hr (Ev.pos d8 (Ev.pos (decide_eq_true h3) ?_))
            simp only [impl_MakePuzzle.j0, decide_eq_true h4, Bool.not_true]
            exact Ev.neg (by decide) p2
        · refine non _ _ (fun x => h4 x.2.2) (Ev.bind sh (Ev.pos rfl (Ev.pos (decide_eq_true h3) ?_))) (Ev.pos hr (Ev.pos d8 (Ev.pos (decide_eq_true h3) ?_)))
          · rw [decide_eq_false h4]; exact bad1
          · rw [decide_eq_false h4]; exact bad2
      · exact non _ _ (fun x => h3 x.2.1) (Ev.bind sh (Ev.pos rfl (Ev.neg (by simpa using h3) bad1))) (Ev.pos hr (Ev.pos d8 (Ev.neg (by simpa using h3) bad2)))
    · rw [hr, decide_eq_false h8] at sh
      exact non _ _ (fun x => by have := x.1.2; omega) (Ev.bind sh (Ev.neg (by decide) bad1)) (Ev.pos hr (Ev.neg (by simp; omega) bad2))
  · have hr2 : rgood l = false := by simpa using hr
    rw [hr2] at sh
    exact non _ _ (fun x => hr x.1.1) (Ev.bind sh (Ev.neg (by simp) bad1)) (Ev.neg hr bad2)
theorem hidden_of (code : List Int) (hc : ∀ x ∈ code, 0 ≤ x ∧ x ≤ 255) (p s v : Int) (v0 : 0 ≤ v) (v1 : v ≤ 6) (h0 : 0 ≤ p) (h1 : p ≤ 990000) : ∃ u p' s' l, 0 ≤ wrap64 (1 + v) ∧ spec_l1Cur_pick.f code p s (shl .i64 1 (wrap64 (1 + v))) = some (u, p', s') ∧ Ev (fun k => spec_rwMake.f k (wrap64 (1 + v)) u) (up l) ∧ (l.length : Int) = 1 + v ∧ wrap64 (1 + v) = 1 + v ∧ p ≤ p' ∧ p' ≤ p + 2 := by
  rw [wrap64_id (x := 1 + v) (by omega) (by omega)]
  obtain ⟨n, rfl⟩ : ∃ n : Nat, v = n := ⟨v.toNat, by omega⟩
  have e1 : (1 + (n : Int)) = ((n + 1 : Nat) : Int) := by omega
  have e2 := shl_one (n + 1) (by omega)
  have hp : 2 ^ (n + 1) ≤ 2 ^ 7 := Nat.pow_le_pow_right (by decide) (by omega)
  have h7 : (2 : Nat) ^ 7 = 128 := by decide
  rw [h7] at hp
  rw [e1, e2]
  obtain ⟨u, p', s', e, u0, u1, q0, q1⟩ := pick_ok code hc p s ((2 ^ (n + 1) : Nat) : Int) h0 (by omega)
  have hr := rwMake_ev (n + 1) u.toNat (by omega) (by omega)
  rw [show ((u.toNat : Nat) : Int) = u by omega] at hr
  exact ⟨u, p', s', mk (n + 1) u.toNat, by omega, e, hr, by rw [mk_len], rfl, q0, q1⟩
theorem hidden_ok (code : List Int) (hc : ∀ x ∈ code, 0 ≤ x ∧ x ≤ 255) (p s : Int) (h0 : 0 ≤ p) (h1 : p ≤ 900000) : ∃ l p' s', Ev (fun k => spec_l1Cur_hidden.f k code p s) (up l, p', s') ∧ 1 ≤ l.length ∧ l.length ≤ 7 ∧ p ≤ p' ∧ p' ≤ p + 4 := by
  unfold spec_l1Cur_hidden.f
  obtain ⟨v, p1, s1, e1, v0, v1, q0, q1⟩ := pick_ok code hc p s 7 h0 (by omega)
  obtain ⟨u, p2, s2, l, a0, a1, a2, a3, a4, a5, a6⟩ := hidden_of code hc p1 s1 v v0 (by omega) (by omega) (by omega)
  refine ⟨l, p2, s2, ?_, by omega, by omega, by omega, by omega⟩
  rw [e1]
  simp only [Option.bind_some]
  rw [a1]
  simp only [Option.bind_some]
  exact Ev.pos a0 (Ev.bind a2 (Ev.now _))
theorem mdx (l : List UInt8) (hs : l.length ≤ 1000000000) (a1 a2 : Int) : ∃ n r b, Ev (fun k => spec_MakePuzzle.f k (up l) a1 a2) (n, (r : List S37), b) ∧ r.length ≤ 6 ∧ (b = true → (r.length : Int) = a1) := by
  obtain ⟨r, h1, _, h3⟩ := md_ev l hs a1 a2
  by_cases c : mkok l a1 a2
  · rw [if_pos c] at h1
    have := c.2.1
    exact ⟨_, r, true, h1, by have := (h3 c).1; omega, fun _ => (h3 c).1⟩
  · rw [if_neg c] at h1
    exact ⟨_, [], false, h1, by simp, fun h => absurd h (by decide)⟩
theorem surePz_ok (code : List Int) (hc : ∀ x ∈ code, 0 ≤ x ∧ x ≤ 255) (p s a : Int) (h0 : 0 ≤ p) (h1 : p ≤ 800000) : ∃ n m p' s', Ev (fun k => spec_l1Cur_surePuzzle.f k code p s a) (n, (m : List S37), p', s') ∧ m.length ≤ 6 ∧ p ≤ p' ∧ p' ≤ p + 8 := by
  unfold spec_l1Cur_surePuzzle.f
  obtain ⟨l, p1, s1, e1, l0, l1, q0, q1⟩ := hidden_ok code hc p s h0 (by omega)
  obtain ⟨v, p2, s2, e2, v0, v1, q2, q3⟩ := pick_ok code hc p1 s1 (wrap64 (a + 1)) (by omega) (by omega)
  obtain ⟨z, p3, s3, e3, z0, z1, q4, q5⟩ := pick_ok code hc p2 s2 10000 (by omega) (by omega)
  obtain ⟨n, r, b, e4, hr, _⟩ := mdx l (by omega) v z
  refine ⟨n, r, p3, s3, Ev.bind e1 ?_, hr, by omega, by omega⟩
  simp only [e2, Option.bind_some, e3]
  exact Ev.bind e4 (Ev.now _)
theorem clue1_ok (code : List Int) (hc : ∀ x ∈ code, 0 ≤ x ∧ x ≤ 255) (p s a b c d : Int) (h0 : 0 ≤ p) (h1 : p ≤ 900000) : ∃ a' b' c' d' p' s', Ev (fun k => spec_l1Cur_clue.j1 k code p s a b c d) (a', b', c', d', p', s') ∧ p ≤ p' ∧ p' ≤ p + 4 := by
  by_cases ca : a = 0
  · obtain ⟨v, p1, s1, e1, v0, v1, q0, q1⟩ := pick_ok code hc p s 4 h0 (by omega)
    refine ⟨a, b, v, d, p1, s1, Ev.succ ?_, by omega, by omega⟩
    simp only [spec_l1Cur_clue.j1, e1, Option.bind_some]
    exact Ev.pos ca (Ev.now _)
  · obtain ⟨o, p1, s1, e1, q0, q1⟩ := one_ok code hc p s 10 h0 (by omega)
    cases o with
    | true =>
      obtain ⟨v, p2, s2, e2, v0, v1, q2, q3⟩ := pick_ok code hc p1 s1 4 (by omega) (by omega)
      refine ⟨a, b, v, d, p2, s2, Ev.succ ?_, by omega, by omega⟩
      simp only [spec_l1Cur_clue.j1, e1, Option.bind_some, e2]
      exact Ev.neg ca (Ev.pos (by first | rfl | trivial) (Ev.now _))
    | false =>
      refine ⟨a, b, c, d, p1, s1, Ev.succ ?_, by omega, by omega⟩
      simp only [spec_l1Cur_clue.j1, e1, Option.bind_some]
      exact Ev.neg ca (Ev.neg (show ¬ (false = true) by decide) (Ev.now _))
theorem clue0_ok (code : List Int) (hc : ∀ x ∈ code, 0 ≤ x ∧ x ≤ 255) (o : Bool) (p s a b c d : Int) (h0 : 0 ≤ p) (h1 : p ≤ 890000) : ∃ a' b' c' d' p' s', Ev (fun k => spec_l1Cur_clue.j0 k o code p s a b c d) (a', b', c', d', p', s') ∧ p ≤ p' ∧ p' ≤ p + 8 := by
  cases o with
  | true =>
    obtain ⟨v, p1, s1, e1, v0, v1, q0, q1⟩ := pick_ok code hc p s 6 h0 (by omega)
    obtain ⟨u, p2, s2, e2, u0, u1, q2, q3⟩ := pick_ok code hc p1 s1 9 (by omega) (by omega)
    obtain ⟨a', b', c', d', p3, s3, e3, q4, q5⟩ := clue1_ok code hc p2 s2 a (wrap64 (v - wrap64 (Int.tdiv u 8))) c d (by omega) (by omega)
    refine ⟨a', b', c', d', p3, s3, Ev.succ ?_, by omega, by omega⟩
    simp only [spec_l1Cur_clue.j0, e1, Option.bind_some, e2]
    exact Ev.pos (by first | rfl | trivial) e3
  | false =>
    obtain ⟨a', b', c', d', p3, s3, e3, q4, q5⟩ := clue1_ok code hc p s a b c d (by omega) (by omega)
    refine ⟨a', b', c', d', p3, s3, Ev.succ ?_, by omega, by omega⟩
    simp only [spec_l1Cur_clue.j0]
    exact Ev.neg (show ¬ (false = true) by decide) e3
theorem clue_ok (code : List Int) (hc : ∀ x ∈ code, 0 ≤ x ∧ x ≤ 255) (p s : Int) (h0 : 0 ≤ p) (h1 : p ≤ 880000) : ∃ a b c d p' s', Ev (fun k => spec_l1Cur_clue.f k code p s) (a, b, c, d, p', s') ∧ p ≤ p' ∧ p' ≤ p + 20 := by
  unfold spec_l1Cur_clue.f
  obtain ⟨v1, p1, s1, e1, _, _, q0, q1⟩ := pick_ok code hc p s 5 h0 (by omega)
  obtain ⟨v2, p2, s2, e2, _, _, q2, q3⟩ := pick_ok code hc p1 s1 9 (by omega) (by omega)
  obtain ⟨v3, p3, s3, e3, _, _, q4, q5⟩ := pick_ok code hc p2 s2 4 (by omega) (by omega)
  obtain ⟨v4, p4, s4, e4, _, _, q6, q7⟩ := pick_ok code hc p3 s3 9 (by omega) (by omega)
  simp only [e1, Option.bind_some, e2, e3, e4]
  generalize wrap64 (v1 + wrap64 (Int.tdiv v2 8)) = a
  generalize wrap64 (v3 - wrap64 (Int.tdiv v4 8)) = d
  by_cases ca : a = 0
  · obtain ⟨a', b', c', d', p5, s5, e5, q8, q9⟩ := clue0_ok code hc true p4 s4 a 0 0 d (by omega) (by omega)
    exact ⟨a', b', c', d', p5, s5, Ev.pos ca e5, by omega, by omega⟩
  by_cases c4 : a = 4
  · obtain ⟨a', b', c', d', p5, s5, e5, q8, q9⟩ := clue0_ok code hc true p4 s4 a 0 0 d (by omega) (by omega)
    exact ⟨a', b', c', d', p5, s5, Ev.neg ca (Ev.pos c4 e5), by omega, by omega⟩
  obtain ⟨o, p5, s5, e5, q8, q9⟩ := one_ok code hc p4 s4 10 (by omega) (by omega)
  obtain ⟨a', b', c', d', p6, s6, e6, qa, qb⟩ := clue0_ok code hc o p5 s5 a 0 0 d (by omega) (by omega)
  refine ⟨a', b', c', d', p6, s6, Ev.neg ca (Ev.neg c4 ?_), by omega, by omega⟩
  simp only [e5, Option.bind_some]
  exact e6
theorem pz_loop (code : List Int) (hc : ∀ x ∈ code, 0 ≤ x ∧ x ≤ 255) (n : Int) : ∀ (e : Nat) (m : List S37) (p s : Int), m.length + e = 8 → 0 ≤ p → p + 2 * e ≤ 900000 →
    ∃ m' p' s', Ev (fun k => spec_l1Cur_puzzle.l0 k code p s n m) (n, (m' : List S37), p', s') ∧ m'.length ≤ 8 ∧ p ≤ p' ∧ p' ≤ p + 2 * e + 2 := by
  intro e
  induction e with
  | zero =>
    intro m p s hm h0 h1
    obtain ⟨v, p1, s1, e1, v0, v1, q0, q1⟩ := pick_ok code hc p s 2 h0 (by omega)
    refine ⟨m, p1, s1, Ev.succ ?_, by omega, by omega, by omega⟩
    simp only [spec_l1Cur_puzzle.l0, e1, Option.bind_some]
    rw [wrap64_id (x := 6 + v) (by omega) (by omega)]
    exact Ev.neg (by omega) (Ev.now _)
  | succ e ih =>
    intro m p s hm h0 h1
    obtain ⟨v, p1, s1, e1, v0, v1, q0, q1⟩ := pick_ok code hc p s 2 h0 (by omega)
    by_cases c : (m.length : Int) < 6 + v
    · obtain ⟨m', p2, s2, e2, hm', q2, q3⟩ := ih (m ++ [(⟨2, 0, 0, 0⟩ : S37)]) p1 s1 (by simp; omega) (by omega) (by omega)
      refine ⟨m', p2, s2, Ev.succ ?_, by omega, by omega, by omega⟩
      simp only [spec_l1Cur_puzzle.l0, e1, Option.bind_some]
      rw [wrap64_id (x := 6 + v) (by omega) (by omega)]
      exact Ev.pos c (Ev.pos (by omega) e2)
    · refine ⟨m, p1, s1, Ev.succ ?_, by omega, by omega, by omega⟩
      simp only [spec_l1Cur_puzzle.l0, e1, Option.bind_some]
      rw [wrap64_id (x := 6 + v) (by omega) (by omega)]
      exact Ev.neg c (Ev.now _)
theorem puzzle_ok (code : List Int) (hc : ∀ x ∈ code, 0 ≤ x ∧ x ≤ 255) (p s : Int) (h0 : 0 ≤ p) (h1 : p ≤ 700000) : ∃ n m p' s', Ev (fun k => spec_l1Cur_puzzle.f k code p s) (n, (m : List S37), p', s') ∧ m.length ≤ 10 ∧ p ≤ p' ∧ p' ≤ p + 100 := by
  unfold spec_l1Cur_puzzle.f
  obtain ⟨n, m, p1, s1, e1, hm, q0, q1⟩ := surePz_ok code hc p s 5 h0 (by omega)
  obtain ⟨v, p2, s2, e2, v0, v1, q2, q3⟩ := pick_ok code hc p1 s1 12 (by omega) (by omega)
  by_cases c0 : v = 0
  · obtain ⟨u, p3, s3, e3, _, q4, q5⟩ := among_ok code hc p2 s2 ([(-1), 0, 1, 8, 9, 4611686018427387904] : List Int) (by simp) (by omega) (by omega)
    refine ⟨u, m, p3, s3, Ev.bind e1 ?_, by omega, by omega, by omega⟩
    simp only [e2, Option.bind_some, e3]
    exact Ev.pos c0 (Ev.now _)
  by_cases c1 : v = 1
  · obtain ⟨a, b, c, d, p3, s3, e3, q4, q5⟩ := clue_ok code hc p2 s2 (by omega) (by omega)
    refine ⟨n, m ++ [(⟨a, b, c, d⟩ : S37)], p3, s3, Ev.bind e1 ?_, by simp; omega, by omega, by omega⟩
    simp only [e2, Option.bind_some]
    exact Ev.neg c0 (Ev.pos c1 (Ev.bind e3 (Ev.pos (by omega) (Ev.now _))))
  by_cases c2 : v = 2
  · obtain ⟨m', p3, s3, e3, hm', q4, q5⟩ := pz_loop code hc n (8 - m.length) m p2 s2 (by omega) (by omega) (by omega)
    refine ⟨n, m', p3, s3, Ev.bind e1 ?_, by omega, by omega, by omega⟩
    simp only [e2, Option.bind_some]
    exact Ev.neg c0 (Ev.neg c1 (Ev.pos c2 e3))
  · refine ⟨n, m, p2, s2, Ev.bind e1 ?_, by omega, by omega, by omega⟩
    simp only [e2, Option.bind_some]
    exact Ev.neg c0 (Ev.neg c1 (Ev.neg c2 (Ev.now _)))
theorem drawAC_ok (code : List Int) (hc : ∀ x ∈ code, 0 ≤ x ∧ x ≤ 255) : ∃ n m a b c d, Ev (fun k => spec_DrawAddClue.f k code) (n, (m : List S37), a, b, c, d) ∧ m.length ≤ 10 := by
  unfold spec_DrawAddClue.f
  obtain ⟨n, m, p1, s1, e1, hm, q0, q1⟩ := puzzle_ok code hc 0 0 (by omega) (by omega)
  obtain ⟨a, b, c, d, p2, s2, e2, _, _⟩ := clue_ok code hc p1 s1 (by omega) (by omega)
  exact ⟨n, m, a, b, c, d, Ev.bind e1 (Ev.bind e2 (Ev.now _)), hm⟩
theorem drawDC_ok (code : List Int) (hc : ∀ x ∈ code, 0 ≤ x ∧ x ≤ 255) : ∃ n m i, Ev (fun k => spec_DrawDropClue.f k code) (n, (m : List S37), i) ∧ m.length ≤ 10 := by
  unfold spec_DrawDropClue.f
  obtain ⟨n, m, p1, s1, e1, hm, q0, q1⟩ := puzzle_ok code hc 0 0 (by omega) (by omega)
  obtain ⟨v, p2, s2, e2, _, _, q2, q3⟩ := pick_ok code hc p1 s1 6 (by omega) (by omega)
  obtain ⟨u, p3, s3, e3, _, _, _, _⟩ := pick_ok code hc p2 s2 9 (by omega) (by omega)
  refine ⟨n, m, wrap64 (v - wrap64 (Int.tdiv u 8)), Ev.bind e1 ?_, hm⟩
  simp only [e2, Option.bind_some, e3]
  exact Ev.now _
theorem odd4_ok (code : List Int) (hc : ∀ x ∈ code, 0 ≤ x ∧ x ≤ 255) (p s : Int) (h0 : 0 ≤ p) (h1 : p ≤ 999990) : ∃ l p' s', spec_l1Cur_of.f code p s [(⟨#[]⟩ : ByteArray), (⟨#[120]⟩ : ByteArray), (⟨#[60, 60, 60, 60, 60, 60, 60, 60, 60]⟩ : ByteArray), (⟨#[62, 62, 62, 62, 60, 60, 60, 60]⟩ : ByteArray)] = some (up l, p', s') ∧ l.length ≤ 9 ∧ p ≤ p' ∧ p' ≤ p + 2 := by
  obtain ⟨v, p1, s1, e1, hv, q0, q1⟩ := of_ok code hc p s [(⟨#[]⟩ : ByteArray), (⟨#[120]⟩ : ByteArray), (⟨#[60, 60, 60, 60, 60, 60, 60, 60, 60]⟩ : ByteArray), (⟨#[62, 62, 62, 62, 60, 60, 60, 60]⟩ : ByteArray)] (by simp) h0 h1
  have hz : v.size ≤ 9 := by
    simp only [List.mem_cons, List.not_mem_nil, or_false] at hv
    rcases hv with rfl | rfl | rfl | rfl <;> decide
  refine ⟨L v, p1, s1, ?_, by rw [← size_L]; exact hz, q0, q1⟩
  rw [← up_L v]; exact e1
theorem drawMP_ok (code : List Int) (hc : ∀ x ∈ code, 0 ≤ x ∧ x ≤ 255) : ∃ l a z, Ev (fun k => spec_DrawMakePuzzle.f k code) (up l, a, z) ∧ l.length ≤ 9 := by
  unfold spec_DrawMakePuzzle.f
  obtain ⟨o, p1, s1, e1, q0, q1⟩ := one_ok code hc 0 0 12 (by omega) (by omega)
  simp only [e1, Option.bind_some]
  cases o with
  | true =>
    obtain ⟨l, p2, s2, e2, hl, q2, q3⟩ := odd4_ok code hc p1 s1 (by omega) (by omega)
    obtain ⟨a, p3, s3, e3, _, q4, q5⟩ := among_ok code hc p2 s2 ([(-1), 6, 7] : List Int) (by simp) (by omega) (by omega)
    obtain ⟨z, p4, s4, e4, _, _, _⟩ := among_ok code hc p3 s3 ([(-1), 9999, 10000] : List Int) (by simp) (by omega) (by omega)
    refine ⟨l, a, z, Ev.pos (by first | rfl | trivial) ?_, hl⟩
    simp only [e2, Option.bind_some, e3, e4]
    exact Ev.now _
  | false =>
    obtain ⟨l, p2, s2, e2, l0, l1, q2, q3⟩ := hidden_ok code hc p1 s1 (by omega) (by omega)
    obtain ⟨a, p3, s3, e3, _, _, q4, q5⟩ := pick_ok code hc p2 s2 7 (by omega) (by omega)
    obtain ⟨z, p4, s4, e4, _, _, _, _⟩ := pick_ok code hc p3 s3 10000 (by omega) (by omega)
    refine ⟨l, a, z, Ev.neg (show ¬ (false = true) by decide) (Ev.bind e2 ?_), by omega⟩
    simp only [e3, Option.bind_some, e4]
    exact Ev.now _
theorem drawDF_ok (code : List Int) (hc : ∀ x ∈ code, 0 ≤ x ∧ x ≤ 255) : ∃ a b c d l, Ev (fun k => spec_DrawDoesFit.f k code) (a, b, c, d, up l) ∧ l.length ≤ 9 := by
  unfold spec_DrawDoesFit.f
  obtain ⟨l, p1, s1, e1, l0, l1, q0, q1⟩ := hidden_ok code hc 0 0 (by omega) (by omega)
  obtain ⟨z, p2, s2, e2, _, _, q2, q3⟩ := pick_ok code hc p1 s1 10000 (by omega) (by omega)
  obtain ⟨n, r, b, e3, hr, hb⟩ := mdx l (by omega) 1 z
  have hj : ∀ (p s : Int), 0 ≤ p → p ≤ 800000 → ∃ a b c d l', Ev (fun k => spec_DrawDoesFit.j0 k (up l) false code p s n r) (a, b, c, d, up l') ∧ l'.length ≤ 9 := by
    intro p s h0 h1
    obtain ⟨o, p4, s4, e4, q6, q7⟩ := one_ok code hc p s 10 (by omega) (by omega)
    cases o with
    | true =>
      obtain ⟨l', p5, s5, e5, hl', q8, q9⟩ := odd4_ok code hc p4 s4 (by omega) (by omega)
      obtain ⟨a, b, c, d, p6, s6, e6, _, _⟩ := clue_ok code hc p5 s5 (by omega) (by omega)
      refine ⟨a, b, c, d, l', Ev.succ ?_, hl'⟩
      simp only [spec_DrawDoesFit.j0, e4, Option.bind_some, e5]
      exact Ev.neg (show ¬ (false = true) by decide) (Ev.pos (by first | rfl | trivial) (Ev.bind e6 (Ev.now _)))
    | false =>
      obtain ⟨a, b, c, d, p6, s6, e6, _, _⟩ := clue_ok code hc p4 s4 (by omega) (by omega)
      refine ⟨a, b, c, d, l, Ev.succ ?_, by omega⟩
      simp only [spec_DrawDoesFit.j0, e4, Option.bind_some]
      exact Ev.neg (show ¬ (false = true) by decide) (Ev.neg (show ¬ (false = true) by decide) (Ev.bind e6 (Ev.now _)))
  cases b with
  | true =>
    obtain ⟨o, p3, s3, e4, q4, q5⟩ := one_ok code hc p2 s2 3 (by omega) (by omega)
    have hlen := hb rfl
    cases o with
    | true =>
      refine ⟨(rd_T37 r 0).f0, (rd_T37 r 0).f1, (rd_T37 r 0).f2, (rd_T37 r 0).f3, l, Ev.bind e1 ?_, by omega⟩
      simp only [e2, Option.bind_some]
      refine Ev.bind e3 (Ev.pos (by first | rfl | trivial) ?_)
      simp only [e4, Option.bind_some]
      refine Ev.succ ?_
      simp only [spec_DrawDoesFit.j0]
      exact Ev.pos (by first | rfl | trivial) (Ev.pos (by omega) (Ev.now _))
    | false =>
      obtain ⟨a, b, c, d, l', e5, hl'⟩ := hj p3 s3 (by omega) (by omega)
      refine ⟨a, b, c, d, l', Ev.bind e1 ?_, hl'⟩
      simp only [e2, Option.bind_some]
      refine Ev.bind e3 (Ev.pos (by first | rfl | trivial) ?_)
      simp only [e4, Option.bind_some]
      exact e5
  | false =>
    obtain ⟨a, b, c, d, l', e5, hl'⟩ := hj p2 s2 (by omega) (by omega)
    refine ⟨a, b, c, d, l', Ev.bind e1 ?_, hl'⟩
    simp only [e2, Option.bind_some]
    exact Ev.bind e3 (Ev.neg (show ¬ (false = true) by decide) e5)
theorem drawIC_ok (code : List Int) (hc : ∀ x ∈ code, 0 ≤ x ∧ x ≤ 255) : ∃ n a b c d, Ev (fun k => spec_DrawIsClue.f k code) (n, a, b, c, d) := by
  unfold spec_DrawIsClue.f
  obtain ⟨o, p1, s1, e1, q0, q1⟩ := one_ok code hc 0 0 4 (by omega) (by omega)
  simp only [e1, Option.bind_some]
  cases o with
  | true =>
    obtain ⟨v2, p2, s2, e2, _, q2, q3⟩ := among_ok code hc p1 s1 ([(-1), 0, 1, 3, 8, 9, 4611686018427387904] : List Int) (by simp) (by omega) (by omega)
    obtain ⟨v3, p3, s3, e3, _, _, q4, q5⟩ := pick_ok code hc p2 s2 6 (by omega) (by omega)
    obtain ⟨v4, p4, s4, e4, _, _, q6, q7⟩ := pick_ok code hc p3 s3 9 (by omega) (by omega)
    obtain ⟨v5, p5, s5, e5, _, q8, q9⟩ := among_ok code hc p4 s4 ([(-1), 0, 0, 1, 8, 4611686018427387904] : List Int) (by simp) (by omega) (by omega)
    obtain ⟨v6, p6, s6, e6, _, qa, qb⟩ := among_ok code hc p5 s5 ([(-1), 0, 0, 1, 20, 21] : List Int) (by simp) (by omega) (by omega)
    obtain ⟨v7, p7, s7, e7, _, _, _⟩ := among_ok code hc p6 s6 ([(-1), 0, 1, 2, 8, 9, 20, 21] : List Int) (by simp) (by omega) (by omega)
    refine ⟨v2, wrap64 (v3 - wrap64 (Int.tdiv v4 8)), v5, v6, v7, Ev.pos (by first | rfl | trivial) ?_⟩
    simp only [e2, Option.bind_some, e3, e4, e5, e6, e7]
    exact Ev.now _
  | false =>
    obtain ⟨v2, p2, s2, e2, _, _, q2, q3⟩ := pick_ok code hc p1 s1 7 (by omega) (by omega)
    obtain ⟨a, b, c, d, p3, s3, e3, _, _⟩ := clue_ok code hc p2 s2 (by omega) (by omega)
    refine ⟨wrap64 (1 + v2), a, b, c, d, Ev.neg (show ¬ (false = true) by decide) ?_⟩
    simp only [e2, Option.bind_some]
    exact Ev.bind e3 (Ev.now _)
theorem hp_loop (l : List UInt8) (hl : 1 ≤ l.length ∧ l.length ≤ 8) (n : Int) : ∀ (e i : Nat) (m : List S37), i + e = l.length → m.length ≤ 6 + i → ∃ m', Ev (fun k => spec_DrawHarderPuzzle.l0 k (l.length : Int) (up l) (i : Int) n m) (n, (m' : List S37)) ∧ m'.length ≤ 20 := by
  intro e
  induction e with
  | zero =>
    intro i m hi hm
    refine ⟨m, Ev.succ ?_, by omega⟩
    simp only [spec_DrawHarderPuzzle.l0]
    exact Ev.neg (by omega) (Ev.now _)
  | succ e ih =>
    intro i m hi hm
    have ho := pzOf_ev l hl 0 (i : Int) (by omega) (by omega)
    obtain ⟨m', e1, hm'⟩ := ih (i + 1) (m ++ [(⟨_, _, _, _⟩ : S37)]) (by omega) (by rw [List.length_append, List.length_singleton]; omega)
    refine ⟨m', Ev.succ ?_, hm'⟩
    simp only [spec_DrawHarderPuzzle.l0]
    rw [show (i : Int) + 1 = ((i + 1 : Nat) : Int) by omega, wrap64_id (x := ((i + 1 : Nat) : Int)) (by omega) (by omega)]
    exact Ev.pos (by omega) (Ev.bind ho (Ev.pos (by omega) e1))
theorem drawHP_ok (code : List Int) (hc : ∀ x ∈ code, 0 ≤ x ∧ x ≤ 255) : ∃ n m, Ev (fun k => spec_DrawHarderPuzzle.f k code) (n, (m : List S37)) ∧ m.length ≤ 20 := by
  unfold spec_DrawHarderPuzzle.f
  obtain ⟨o, p1, s1, e1, q0, q1⟩ := one_ok code hc 0 0 4 (by omega) (by omega)
  simp only [e1, Option.bind_some]
  cases o with
  | true =>
    obtain ⟨n, m, p2, s2, e2, hm, _, _⟩ := puzzle_ok code hc p1 s1 (by omega) (by omega)
    exact ⟨n, m, Ev.pos (by first | rfl | trivial) (Ev.bind e2 (Ev.now _)), by omega⟩
  | false =>
    obtain ⟨v, p2, s2, e2, v0, v1, q2, q3⟩ := pick_ok code hc p1 s1 5 (by omega) (by omega)
    obtain ⟨u, p3, s3, l, a0, a1, a2, a3, a4, a5, a6⟩ := hidden_of code hc p2 s2 v v0 (by omega) (by omega) (by omega)
    obtain ⟨w, p4, s4, e4, _, _, q4, q5⟩ := pick_ok code hc p3 s3 2 (by omega) (by omega)
    obtain ⟨z, p5, s5, e5, _, _, _, _⟩ := pick_ok code hc p4 s4 10000 (by omega) (by omega)
    obtain ⟨n, r, b, e6, hr, _⟩ := mdx l (by omega) w z
    obtain ⟨m, e7, hm⟩ := hp_loop l (by omega) n l.length 0 r (by omega) (by omega)
    refine ⟨n, m, Ev.neg (show ¬ (false = true) by decide) ?_, hm⟩
    rw [a4] at a0 a1 a2
    simp only [e2, Option.bind_some, a4, a1]
    refine Ev.pos a0 (Ev.bind a2 ?_)
    simp only [e4, Option.bind_some, e5]
    refine Ev.bind e6 ?_
    rw [a3] at e7
    exact e7
theorem vPuz_loop (n : Int) (l : List S37) (hl : l.length ≤ 4398046510976) : ∀ (d i : Nat), i + d = l.length → Ev (fun k => laws_vPuzzle.l0 k (l.length : Int) (i : Int) n l n l) true := by
  intro d
  induction d with
  | zero =>
    intro i h
    refine Ev.succ ?_
    simp only [laws_vPuzzle.l0]
    exact Ev.neg (by omega) (Ev.now _)
  | succ d ih =>
    intro i h
    refine Ev.succ ?_
    simp only [laws_vPuzzle.l0]
    rw [show (i : Int) + 1 = ((i + 1 : Nat) : Int) by omega, wrap64_id (x := ((i + 1 : Nat) : Int)) (by omega) (by omega)]
    exact Ev.pos (by omega) (Ev.pos (by omega) (Ev.pos (by omega) (Ev.pos (by omega) (Ev.neg (by simp) (ih (i + 1) (by omega))))))
theorem vPuz_ev (n : Int) (l : List S37) (hl : l.length ≤ 4398046510976) : Ev (fun k => laws_vPuzzle.f k n l n l) true := by
  unfold laws_vPuzzle.f
  refine Ev.pos rfl ?_
  rw [show ((l.length : Int) != (l.length : Int)) = false by simp]
  refine Ev.succ ?_
  simp only [laws_vPuzzle.j0]
  exact Ev.neg (by decide) (vPuz_loop n l hl l.length 0 (by omega))
theorem vTxt_loop (l : List ByteArray) (hl : l.length ≤ 1000000) : ∀ (d i : Nat), i + d = l.length → Ev (fun k => laws_vTexts.l0 k l l (l.length : Int) (i : Int)) true := by
  intro d
  induction d with
  | zero =>
    intro i h
    refine Ev.succ ?_
    simp only [laws_vTexts.l0]
    exact Ev.neg (by omega) (Ev.now _)
  | succ d ih =>
    intro i h
    refine Ev.succ ?_
    simp only [laws_vTexts.l0]
    rw [show (i : Int) + 1 = ((i + 1 : Nat) : Int) by omega, wrap64_id (x := ((i + 1 : Nat) : Int)) (by omega) (by omega)]
    exact Ev.pos (by omega) (Ev.pos (by omega) (Ev.pos (by omega) (Ev.pos (by omega) (Ev.pos (by first | rfl | trivial) (ih (i + 1) (by omega))))))
theorem vTxt_ev (l : List ByteArray) (hl : l.length ≤ 1000000) : Ev (fun k => laws_vTexts.f k l l) true := by
  unfold laws_vTexts.f
  exact Ev.pos rfl (vTxt_loop l hl l.length 0 (by omega))
theorem fit_yes (l : List UInt8) (hg : rgood l = true) (h8 : l.length ≤ 8) (k a b c : Int) (hc : cok (l.length : Int) k a b c = true) (hv : val k a b l = c) : Ev (fun r => impl_DoesFit.f r k a b c (up l)) (true, true) := by
  have := imDoesFit_ev l k a b c (by omega)
  rw [if_pos ⟨by rw [hg, decide_eq_true h8]; rfl, hc⟩, hv] at this
  have e : (c == c) = true := by simp
  rw [e] at this
  exact this
theorem twn_sgn : ∀ (t : Nat) (l : List UInt8), l.all sgn = true → (twn t l).all sgn = true
  | 0, l, h => h
  | t + 1, l, h => twn_sgn t (twk l) (twk_sgn l h)
theorem rh_l2 (l : List UInt8) (hg : rgood l = true) (h8 : l.length ≤ 8) (m : List S37) (hM : Made l m) (hm : m.length ≤ 6) (y : List Int)
    (h : Ev (fun k => laws_FnRowsHidden.j3 k y) true) : ∀ (d i : Nat), i + d = m.length → Ev (fun k => laws_FnRowsHidden.l2 k y (up l) m (m.length : Int) (i : Int)) true := by
  intro d
  induction d with
  | zero =>
    intro i hi
    refine Ev.succ ?_
    simp only [laws_FnRowsHidden.l2]
    exact Ev.neg (by omega) h
  | succ d ih =>
    intro i hi
    refine Ev.succ ?_
    simp only [laws_FnRowsHidden.l2]
    have hlt : i < m.length := by omega
    have hc := List.all_eq_true.1 hM.all _ (List.getElem_mem hlt)
    have hf := List.all_eq_true.1 hM.fit _ (List.getElem_mem hlt)
    unfold cokS at hc
    unfold fitc at hf
    rw [beq_iff_eq] at hf
    rw [rdClueI hlt, show (i : Int) + 1 = ((i + 1 : Nat) : Int) by omega, wrap64_id (x := ((i + 1 : Nat) : Int)) (by omega) (by omega)]
    exact Ev.pos (by omega) (Ev.pos (by omega) (Ev.pos (by omega) (Ev.bind (fit_yes l hg h8 _ _ _ _ hc hf) (Ev.pos (by first | rfl | trivial) (Ev.pos (by first | rfl | trivial) (ih (i + 1) (by omega)))))))
theorem rh_l1 (l : List UInt8) (hg : rgood l = true) (h8 : l.length ≤ 8) (hs : l.all sgn = true) (n : Int) (m : List S37) (y : List Int)
    (h : Ev (fun k => laws_FnRowsHidden.l2 k y (up l) m (m.length : Int) 0) true) : ∀ (d i : Nat), i + d = l.length → Ev (fun k => laws_FnRowsHidden.l1 k y (up l) (up (twn 2 l)) true n m (i : Int) (up (twn 2 l))) true := by
  have hz := up_isize (twn 2 l)
  rw [twn_len] at hz
  have hsg := twn_sgn 2 l hs
  intro d
  induction d with
  | zero =>
    intro i hi
    refine Ev.succ ?_
    simp only [laws_FnRowsHidden.l1]
    exact Ev.neg (by omega) h
  | succ d ih =>
    intro i hi
    have hlt : i < (twn 2 l).length := by rw [twn_len]; omega
    have hbt : bt (up (twn 2 l)) (i : Int) < 128 := by
      have := List.all_eq_true.1 hsg _ (List.getElem_mem hlt)
      have e : bt (up (twn 2 l)) (i : Int) = (((twn 2 l)[i]).toNat : Int) := by
        have h' : i < (L (up (twn 2 l))).length := by rw [L_mk]; exact hlt
        rw [bt_nat (up (twn 2 l)) i h']
      rw [e]
      have h2 : (twn 2 l)[i] = 60 ∨ (twn 2 l)[i] = 62 := by simpa [sgn] using this
      rcases h2 with h2 | h2 <;> rw [h2] <;> decide
    have hi1 := ih (i + 1) (by omega)
    rw [show ((i + 1 : Nat) : Int) = (i : Int) + 1 by omega] at hi1
    have e0 : val 0 (i : Int) 2 l = if (twn 2 l)[i]? = some 62 then 1 else 0 := by
      unfold val; rw [if_pos rfl]; rfl
    refine Ev.succ ?_
    simp only [laws_FnRowsHidden.l1]
    have c1 : ∀ c : Int, 0 ≤ c ∧ c ≤ 1 → cok (l.length : Int) 0 (i : Int) 2 c = true := by
      intro c hc
      unfold cok
      rw [if_pos rfl, decide_eq_true (show 0 ≤ (i : Int) ∧ (i : Int) ≤ (l.length : Int) - 1 by omega), decide_eq_true (show (0 : Int) ≤ 2 ∧ (2 : Int) ≤ 20 by omega), decide_eq_true hc]; rfl
    refine Ev.pos (by omega) (Ev.pos (by omega) (Ev.pos hbt (Ev.pos (by omega) (Ev.iff (fun c => ?_) (fun c => ?_)))))
    · rw [up62 _ i hlt] at c
      exact Ev.bind (fit_yes l hg h8 0 (i : Int) 2 1 (c1 1 (by omega)) (by rw [e0, if_pos (by rw [List.getElem?_eq_getElem hlt, c])])) (Ev.pos (by first | rfl | trivial) (Ev.pos (by first | rfl | trivial) (Ev.pos (by first | rfl | trivial) hi1)))
    · rw [up62 _ i hlt] at c
      exact Ev.bind (fit_yes l hg h8 0 (i : Int) 2 0 (c1 0 (by omega)) (by rw [e0, if_neg (by rw [List.getElem?_eq_getElem hlt, Option.some.injEq]; exact c)])) (Ev.pos (by first | rfl | trivial) (Ev.pos (by first | rfl | trivial) (Ev.pos (by first | rfl | trivial) hi1)))
theorem rh_l0 (l : List UInt8) (hg : rgood l = true) (h8 : l.length ≤ 8) (o : List Int) (ho : o.length = l.length) (hv : ∀ a, 0 ≤ a → rd o a = trc 1000000 a l) (n : Int) (m : List S37) (y : List Int)
    (h : Ev (fun k => laws_FnRowsHidden.l1 k y (up l) (up (twn 2 l)) true n m 0 (up (twn 2 l))) true) : ∀ (d i : Nat), i + d = o.length → Ev (fun k => laws_FnRowsHidden.l0 k y (up l) o (o.length : Int) (i : Int) n m) true := by
  intro d
  induction d with
  | zero =>
    intro i hi
    refine Ev.succ ?_
    simp only [laws_FnRowsHidden.l0]
    exact Ev.neg (by omega) (Ev.bind (after_ev l 2 hg (by omega) (by omega)) h)
  | succ d ih =>
    intro i hi
    refine Ev.succ ?_
    simp only [laws_FnRowsHidden.l0]
    have e : val 4 (i : Int) 0 l = trc 1000000 (i : Int) l := by
      unfold val; rw [if_neg (by decide), if_neg (by decide), if_neg (by decide), if_neg (by decide)]
    have hc := val_cok l hg h8 4 (i : Int) 0 (.inr (.inr (.inr (.inr ⟨rfl, by omega, by omega⟩)))) (fun x => by omega) (fun _ => rfl)
    rw [hv (i : Int) (by omega), show (i : Int) + 1 = ((i + 1 : Nat) : Int) by omega, wrap64_id (x := ((i + 1 : Nat) : Int)) (by omega) (by omega)]
    rw [e] at hc
    exact Ev.pos (by omega) (Ev.pos (by omega) (Ev.pos (by omega) (Ev.bind (fit_yes l hg h8 4 (i : Int) 0 _ hc e) (Ev.pos (by first | rfl | trivial) (Ev.pos (by first | rfl | trivial) (ih (i + 1) (by omega)))))))
theorem er_last {α : Type} (l : List α) (i : Nat) (h : i < l.length) (e : i + 1 = l.length) : l.eraseIdx i ++ [l[i]] = l := by
  rw [List.eraseIdx_eq_take_drop_succ, e, List.drop_length, List.append_nil]
  have := List.take_append_drop i l
  rw [List.drop_eq_getElem_cons h, e, List.drop_length] at this
  exact this
theorem er_app {α : Type} (l : List α) (x : α) : (l ++ [x]).eraseIdx l.length = l := by
  rw [List.eraseIdx_append_of_length_le (Nat.le_refl _), Nat.sub_self]; simp
theorem rh_j7 (n k7 : Int) (l : List S37) (hl : l.length ≤ 4398046510976) : Ev (fun k => laws_FnRowsHidden.j7 k k7 (dcl n l k7).2.2 n l (dcl n l k7).1 (dcl n l k7).2.1) true := by
  have no : ∀ a b, Ev (fun k => laws_FnRowsHidden.j8 k k7 false n l a b) true := by
    intro a b
    refine Ev.succ ?_
    simp only [laws_FnRowsHidden.j8]
    exact Ev.neg (show ¬ (false = true) by decide) (Ev.now _)
  refine Ev.succ ?_
  simp only [laws_FnRowsHidden.j7]
  by_cases h : pgood n l = true ∧ 0 ≤ k7 ∧ k7 ≤ (l.length : Int) - 1
  · have e : dcl n l k7 = (n, l.eraseIdx k7.toNat, true) := by unfold dcl; rw [if_pos h]
    rw [e, wrap64_id (x := (l.length : Int) - 1) (by omega) (by omega)]
    refine Ev.pos (by first | rfl | trivial) ?_
    by_cases c : k7 = (l.length : Int) - 1
    · rw [show (k7 == (l.length : Int) - 1) = true by rw [beq_iff_eq]; exact c]
      obtain ⟨i, rfl⟩ : ∃ i : Nat, k7 = i := ⟨k7.toNat, by omega⟩
      have hlt : i < l.length := by omega
      refine Ev.succ ?_
      simp only [laws_FnRowsHidden.j8]
      rw [rdClueI hlt, Int.toNat_natCast]
      have hle := List.length_eraseIdx_le l i
      have ha := imAddClue_ev n (l.eraseIdx i) (by omega) (l[i]).f0 (l[i]).f1 (l[i]).f2 (l[i]).f3
      have e2 : l.eraseIdx i ++ [(⟨(l[i]).f0, (l[i]).f1, (l[i]).f2, (l[i]).f3⟩ : S37)] = l := er_last l i hlt (by omega)
      rw [e2, if_pos h.1] at ha
      exact Ev.pos (by first | rfl | trivial) (Ev.pos (by omega) (Ev.pos (by omega) (Ev.bind ha (Ev.pos (by first | rfl | trivial) (Ev.bind (vPuz_ev n l hl) (Ev.now _))))))
    · rw [show (k7 == (l.length : Int) - 1) = false by rw [beq_eq_false_iff_ne]; exact c]
      exact no _ _
  · have e : dcl n l k7 = (0, [], false) := by unfold dcl; rw [if_neg h]
    rw [e]
    exact Ev.neg (show ¬ (false = true) by decide) (no _ _)
/-- What AddClue answers. -/
def acl (n : Int) (l : List S37) (k a b c : Int) : Int × List S37 × Bool := if pgood n (l ++ [(⟨k, a, b, c⟩ : S37)]) = true then (n, l ++ [(⟨k, a, b, c⟩ : S37)], true) else (0, [], false)
theorem spAcl_ev (n : Int) (l : List S37) (hl : l.length ≤ 4398046510976) (k a b c : Int) : Ev (fun q => spec_AddClue.f q n l k a b c) (acl n l k a b c) := by
  have sp := spAddClue_ev n l hl k a b c
  have e : acl n l k a b c = (if pgood n l = true ∧ cok n k a b c = true ∧ l.length ≠ 6 then (n, l ++ [(⟨k, a, b, c⟩ : S37)], true) else (0, [], false)) := by
    have := pgood_app n l ⟨k, a, b, c⟩
    unfold cokS at this
    unfold acl
    by_cases hp : pgood n (l ++ [(⟨k, a, b, c⟩ : S37)]) = true
    · rw [if_pos hp, if_pos (this.1 hp)]
    · rw [if_neg hp, if_neg (fun q => hp (this.2 q))]
  rw [e]; exact sp
theorem rh_j6 (n k7 : Int) (l : List S37) (hl : l.length ≤ 4398046510976) (r0 : Int) (r1 : List S37) (hr : r1.length ≤ 4398046510976) (a b c d : Int) : Ev (fun k => laws_FnRowsHidden.j6 k (acl r0 r1 a b c d).2.2 k7 (dcl n l k7).2.2 false r0 r1 a b c d (acl r0 r1 a b c d).1 (acl r0 r1 a b c d).2.1 n l (dcl n l k7).1 (dcl n l k7).2.1) true := by
  have h8 := rh_j7 n k7 l hl
  refine Ev.succ ?_
  simp only [laws_FnRowsHidden.j6]
  refine Ev.neg (show ¬ (false = true) by decide) ?_
  by_cases h : pgood r0 (r1 ++ [(⟨a, b, c, d⟩ : S37)]) = true
  · have e : acl r0 r1 a b c d = (r0, r1 ++ [(⟨a, b, c, d⟩ : S37)], true) := by unfold acl; rw [if_pos h]
    have hlen := (pgood_is h).2.1
    rw [List.length_append, List.length_cons, List.length_nil] at hlen
    have ed : dcl r0 (r1 ++ [(⟨a, b, c, d⟩ : S37)]) (r1.length : Int) = (r0, r1, true) := by
      unfold dcl
      rw [if_pos ⟨h, by omega, by simp⟩, Int.toNat_natCast, er_app]
    have hd := imDropClue_ev r0 (r1 ++ [(⟨a, b, c, d⟩ : S37)]) (r1.length : Int) (by simp; omega)
    rw [ed] at hd
    have hx : rd_T37 (r1 ++ [(⟨a, b, c, d⟩ : S37)]) (r1.length : Int) = ⟨a, b, c, d⟩ := by
      rw [rdClueI (by simp)]; simp
    rw [e]
    simp only [hx]
    refine Ev.pos (by first | rfl | trivial) (Ev.bind hd (Ev.pos (by first | rfl | trivial) (Ev.bind (vPuz_ev r0 r1 hr) (Ev.pos (by first | rfl | trivial) (Ev.pos (by omega) (Ev.pos (by simp only [List.length_append, List.length_cons, List.length_nil]; omega) (Ev.neg (by simp) h8)))))))
  · have e : acl r0 r1 a b c d = (0, [], false) := by unfold acl; rw [if_neg h]
    rw [e]
    exact Ev.neg (show ¬ (false = true) by decide) h8
theorem spIsClue_eq (n k a b c : Int) : spec_IsClue.f n k a b c = some (decide (1 ≤ n ∧ n ≤ 8) && cok n k a b c) := by
  unfold spec_IsClue.f
  rw [pzSoldiers_eq]
  simp only [Option.bind_some, decide_eq_true_eq]
  by_cases h : 1 ≤ n ∧ n ≤ 8
  · rw [if_pos h, pzClue_eq h, decide_eq_true h]; rfl
  · rw [if_neg h, decide_eq_false h]; rfl
theorem imIsClue_eq (n k a b c : Int) : impl_IsClue.f n k a b c = some (decide (1 ≤ n ∧ n ≤ 8) && cok n k a b c) := by
  unfold impl_IsClue.f
  rw [isClue_eq]; rfl
theorem dcl_len2 (n : Int) (l : List S37) (k : Int) : (dcl n l k).2.1.length ≤ 6 := by
  unfold dcl
  by_cases h : pgood n l = true ∧ 0 ≤ k ∧ k ≤ (l.length : Int) - 1
  · rw [if_pos h]
    have := List.length_eraseIdx_le l k.toNat
    have := (pgood_is h.1).2.1
    simp only
    omega
  · rw [if_neg h]; simp
theorem acl_len (n : Int) (l : List S37) (k a b c : Int) : (acl n l k a b c).2.1.length ≤ 6 := by
  unfold acl
  by_cases h : pgood n (l ++ [(⟨k, a, b, c⟩ : S37)]) = true
  · rw [if_pos h]; exact (pgood_is h).2.1
  · rw [if_neg h]; simp
theorem rh_j5 (code : List Int) (hcode : ∀ x ∈ code, 0 ≤ x ∧ x ≤ 255) : Ev (fun k => laws_FnRowsHidden.j5 k code) true := by
  obtain ⟨r0, r1, c0, c1, c2, c3, g1, hr'⟩ := drawAC_ok code hcode
  obtain ⟨s0, s1, y7, g2, hs'⟩ := drawDC_ok code hcode
  obtain ⟨d0, d1, d2, d3, x, g3, hx'⟩ := drawDF_ok code hcode
  obtain ⟨y10, e0, e1, e2, e3, g4⟩ := drawIC_ok code hcode
  have hr : r1.length ≤ 4398046510976 := by omega
  have hs : s1.length ≤ 4398046510976 := by omega
  have hx : x.length ≤ 100000000 := by omega
  have h7 := rh_j6 s0 y7 s1 hs r0 r1 hr c0 c1 c2 c3
  have la := acl_len r0 r1 c0 c1 c2 c3
  have ld := dcl_len2 s0 s1 y7
  have ia : Ev (fun q => impl_AddClue.f q r0 r1 c0 c1 c2 c3) (acl r0 r1 c0 c1 c2 c3) := imAddClue_ev r0 r1 hr c0 c1 c2 c3
  have d1' := imDoesFit_ev x d0 d1 d2 d3 hx
  have d2' := spDoesFit_ev x d0 d1 d2 d3 hx
  refine Ev.succ ?_
  simp only [laws_FnRowsHidden.j5, imIsClue_eq, spIsClue_eq, Option.bind_some]
  refine Ev.bind g1 (Ev.bind ia (Ev.bind (spAcl_ev r0 r1 hr c0 c1 c2 c3) (Ev.bind g2 (Ev.bind (imDropClue_ev s0 s1 y7 hs) (Ev.bind (spDropClue_ev s0 s1 y7 hs) (Ev.bind g3 (Ev.bind d1' (Ev.bind d2' (Ev.bind g4 ?_)))))))))
  simp only [bne_self_eq_false, Bool.false_eq_true, if_false]
  refine Ev.bind (vPuz_ev _ _ (by omega)) (Ev.pos (by first | rfl | trivial) (Ev.bind (vPuz_ev _ _ (by omega)) (Ev.pos (by first | rfl | trivial) ?_)))
  by_cases h : (rgood x && decide (x.length ≤ 8)) = true ∧ cok (x.length : Int) d0 d1 d2 d3 = true
  · rw [if_pos h]
    have hlen : 1 ≤ x.length ∧ x.length ≤ 8 := by
      have := h.1
      unfold rgood at this
      simp only [Bool.and_eq_true, decide_eq_true_eq] at this
      omega
    refine Ev.pos (by first | rfl | trivial) ?_
    rw [up_isize, h.2, decide_eq_true (show 1 ≤ (x.length : Int) ∧ (x.length : Int) ≤ 8 by omega)]
    exact h7
  · rw [if_neg h]
    exact Ev.neg (show ¬ (false = true) by decide) h7
theorem rh_j3 (code : List Int) (hcode : ∀ x ∈ code, 0 ≤ x ∧ x ≤ 255) : Ev (fun k => laws_FnRowsHidden.j3 k code) true := by
  have h6 := rh_j5 code hcode
  obtain ⟨q0, q1, g1, hq'⟩ := drawHP_ok code hcode
  have hq : q1.length ≤ 4398046510976 := by omega
  obtain ⟨R, p1, p2, p3, p4, p5⟩ := hd_ev q0 q1 hq
  obtain ⟨n, m, b⟩ := R
  simp only at p3 p4 p5
  subst p3
  have h5 : Ev (fun k => laws_FnRowsHidden.j4 k code (solv q0 q1) false q0 q1 n m) true := by
    refine Ev.succ ?_
    simp only [laws_FnRowsHidden.j4]
    refine Ev.neg (show ¬ (false = true) by decide) (Ev.iff (fun hv => ?_) (fun _ => h6))
    obtain ⟨rfl, hH⟩ := p5 hv
    have hg : pgood n q1 = true ∧ (sols n q1).length = 1 := by
      unfold solv at hv
      rw [Bool.and_eq_true, decide_eq_true_eq] at hv
      exact hv
    have s1' := imSolutions_ev n q1 hq
    have s2' := imSolutions_ev n m (by omega)
    have s3' := imNC_ev n m (by omega)
    rw [if_pos hg.1] at s1'
    rw [if_pos (hd_good hg.1 hH), hd_sols hg.2 hH] at s2'
    rw [hd_ncr hg.1 hH] at s3'
    have hle := hH.len
    exact Ev.bind s1' (Ev.bind s2' (Ev.bind s3' (Ev.pos (by first | rfl | trivial) (Ev.pos (by first | rfl | trivial) (Ev.bind (vTxt_ev _ (show (sols n q1).length ≤ 1000000 by have := hg.2; omega)) (Ev.pos (by first | rfl | trivial) (Ev.pos (by first | rfl | trivial) (Ev.pos (by first | rfl | trivial) (Ev.neg (by omega) h6)))))))))
  refine Ev.succ ?_
  simp only [laws_FnRowsHidden.j3]
  refine Ev.bind g1 (Ev.bind p2 (Ev.bind p1 (Ev.bind (imSolved_ev q0 q1 hq) ?_)))
  simp only [bne_self_eq_false, Bool.false_eq_true, if_false]
  refine Ev.bind (vPuz_ev n m (by omega)) (Ev.pos (by first | rfl | trivial) (Ev.iff (fun _ => h5) (fun hg => ?_)))
  have e : solv q0 q1 = false := by unfold solv; rw [Bool.not_eq_true] at hg; rw [hg]; rfl
  rw [e] at h5 ⊢
  exact h5
theorem FnRowsHidden : StatFnRowsHidden := by
  intro code y _ hcode _ hy
  refine Ev.get ?_
  unfold laws_FnRowsHidden.f
  have h4 := rh_j3 y hy
  obtain ⟨l, a1, a2, g1, hl⟩ := drawMP_ok code hcode
  have hb : ∃ b, laws_big.f code y = some b := by
    unfold laws_big.f
    by_cases c : (code.length : Int) > 1048576
    · rw [if_pos c]; exact ⟨_, rfl⟩
    · rw [if_neg c]; exact ⟨_, rfl⟩
  obtain ⟨bb, hbb⟩ := hb
  rw [hbb]
  simp only [Option.bind_some]
  cases bb with
  | true => exact Ev.pos (by first | rfl | trivial) (Ev.now _)
  | false =>
  refine Ev.neg (show ¬ (false = true) by decide) (Ev.bind g1 ?_)
  have hz0 := up_isize l
  obtain ⟨m, m1, m2, m3⟩ := md_ev l (by omega) a1 a2
  refine Ev.bind m2 (Ev.bind m1 ?_)
  simp only [bne_self_eq_false, Bool.false_eq_true, if_false]
  by_cases hok : mkok l a1 a2
  · rw [if_pos hok]
    obtain ⟨hm1, hM⟩ := m3 hok
    have hg := hok.1.1
    have h8 := hok.1.2
    have hm6 : m.length ≤ 6 := by have := hok.2.1; omega
    have hrow : (1 ≤ l.length ∧ l.length ≤ 60) ∧ l.all sgn = true := by
      have := hg
      unfold rgood at this
      simp only [Bool.and_eq_true, decide_eq_true_eq] at this
      exact this
    obtain ⟨o, o1, o2, o3⟩ := turns_ev l hg
    have h2 := rh_l2 l hg h8 m hM hm6 y h4 m.length 0 (by omega)
    have h1 := rh_l1 l hg h8 hrow.2 (l.length : Int) m y h2 l.length 0 (by omega)
    have h0 := rh_l0 l hg h8 o o2 o3 (l.length : Int) m y h1 o.length 0 (by omega)
    have hir := isRow_eq (up l) (by have := up_size l; omega)
    rw [L_mk, hg] at hir
    have tk : Ev (fun k => impl_TicksToRest.f k (up l)) (((rst 1000000 l).2 : Int), true) := by
      unfold impl_TicksToRest.f
      rw [hir]
      simp only [Option.bind_some]
      exact Ev.pos (by first | rfl | trivial) (Ev.bind (ticks_ev l (by omega)) (Ev.now _))
    have fc : Ev (fun k => impl_FacingPairs.f k (up l)) (prs 0 l, true) := by
      unfold impl_FacingPairs.f
      rw [hir]
      simp only [Option.bind_some]
      exact Ev.pos (by first | rfl | trivial) (Ev.bind (facing_ev l hrow.1.1 (by omega)) (Ev.now _))
    have v2 : val 2 0 0 l = ((rst 1000000 l).2 : Int) := by unfold val; rw [if_neg (by decide), if_neg (by decide), if_pos rfl]
    have v3 : val 3 0 0 l = ((prs 0 l).length : Int) := by unfold val; rw [if_neg (by decide), if_neg (by decide), if_neg (by decide), if_pos rfl]
    have k2 := val_cok l hg h8 2 0 0 (.inr (.inr (.inl rfl))) (fun _ => rfl) (fun _ => rfl)
    have k3 := val_cok l hg h8 3 0 0 (.inr (.inr (.inr (.inl rfl)))) (fun _ => rfl) (fun _ => rfl)
    rw [v2] at k2
    rw [v3] at k3
    have ip : Ev (fun k => impl_IsPuzzle.f k (l.length : Int) m) true := by
      unfold impl_IsPuzzle.f
      have := isPuzzle_ev (l.length : Int) m (by omega)
      have e : pgood (l.length : Int) m = true := by
        unfold pgood
        rw [decide_eq_true (show 1 ≤ (l.length : Int) ∧ (l.length : Int) ≤ 8 by omega), decide_eq_true hm6, hM.all]; rfl
      rw [e] at this
      exact Ev.bind this (Ev.now _)
    refine Ev.bind (vPuz_ev _ _ (show m.length ≤ 4398046510976 by omega)) (Ev.pos (by first | rfl | trivial) (Ev.pos (by first | rfl | trivial) (Ev.bind tk (Ev.bind (fit_yes l hg h8 2 0 0 _ k2 v2) (Ev.bind fc (Ev.bind (fit_yes l hg h8 3 0 0 _ k3 v3) (Ev.bind o1 (Ev.bind ip ?_))))))))
    exact Ev.pos (by first | rfl | trivial) (Ev.pos hm1 (Ev.pos (by first | rfl | trivial) (Ev.pos (by first | rfl | trivial) (Ev.pos (by first | rfl | trivial) (Ev.pos (by first | rfl | trivial) (Ev.pos (by first | rfl | trivial) (Ev.pos (by first | rfl | trivial) (Ev.pos (by first | rfl | trivial) h0))))))))
  · rw [if_neg hok]
    exact Ev.bind (vPuz_ev _ _ (by simp)) (Ev.pos (by first | rfl | trivial) (Ev.neg (show ¬ (false = true) by decide) h4))

end Go.Proofs.YthjbmojacgkdcaaGreatDoor.Pure
