/- The law FnOrdersTurn, pure: what the printed functions answer, and that it is what the law asks. No condition. -/
import Derived.Test.YteoklfgmdcofcaaDoorStatFnOrdersTurn
import Derived.Test.YteoklfgmdcofcaaDoorPlAllFnOrdersTurn
namespace Go.Proofs.YteoklfgmdcofcaaDoor.Pure
open Go.RowKit Go.Proofs.YteoklfgmdcofcaaDoor.PFnOrdersTurn Go.Proofs.YteoklfgmdcofcaaDoorW.PrintWords Go.Proofs.YteoklfgmdcofcaaDoorW.PrintMore Go.Proofs.YteoklfgmdcofcaaDoor.Opn Go.Proofs.YteoklfgmdcofcaaDoor.Pl
set_option linter.unusedVariables false
set_option linter.unusedSimpArgs false
theorem in_eq (a b c : Int) : impl_in.f a b c = some (decide (b ≤ a ∧ a ≤ c)) := by
  unfold impl_in.f; by_cases h : b ≤ a <;> simp [h]
theorem l1In_eq (a b c : Int) : spec_l1In.f a b c = some (decide (b ≤ a ∧ a ≤ c)) := by
  unfold spec_l1In.f; by_cases h : b ≤ a <;> simp [h]
theorem l1Least_eq (a b : Int) : spec_l1Least.f a b = some (mn a b) := by
  unfold spec_l1Least.f mn
  split <;> split <;> congr 1 <;> omega
theorem l1Most_eq (a b : Int) : spec_l1Most.f a b = some (mx a b) := by
  unfold spec_l1Most.f mx
  split <;> split <;> congr 1 <;> omega
theorem low8 (y : Int) : 0 ≤ wrap64 (Go.bits .and .u64 ((IntKind.u64.wrap y) / 1099511627776) 255) ∧ wrap64 (Go.bits .and .u64 ((IntKind.u64.wrap y) / 1099511627776) 255) ≤ 255 := by
  have hw : IntKind.u64.wrap y = y % 18446744073709551616 := by simp [IntKind.wrap, IntKind.bits, IntKind.signed]
  rw [hw]
  have hx0 : 0 ≤ y % 18446744073709551616 / 1099511627776 := by omega
  have hx1 : y % 18446744073709551616 / 1099511627776 < 2 ^ 24 := by omega
  have hm := bits_mask .u64 24 (by decide) (fun n h0 h1 => by simp [IntKind.wrap, IntKind.bits, IntKind.signed]; omega) 8 (by decide) _ hx0 hx1
  have e : (2 : Int) ^ 8 - 1 = 255 := by decide
  simp only [e] at hm
  rw [hm, wrap64_id (by omega) (by omega)]
  omega
theorem next_ok (code : List Int) (hc : ∀ x ∈ code, 0 ≤ x ∧ x ≤ 255) (p s : Int) (h0 : 0 ≤ p) (h1 : p ≤ 1000000) : ∃ v s', spec_l1Cur_next.f code p s = some (v, p + 1, s') ∧ 0 ≤ v ∧ v ≤ 255 := by
  unfold spec_l1Cur_next.f
  rw [wrap64_id (x := p + 1) (by omega) (by omega)]
  by_cases c1 : p < (code.length : Int)
  · have hm := hc _ (rd_mem (l := code) (j := p.toNat) (by omega))
    rw [show ((p.toNat : Nat) : Int) = p by omega] at hm
    rw [if_pos c1, if_pos h0, wrap64_id (x := rd code p) (by omega) (by omega)]
    by_cases c2 : p + 1 ≤ (code.length : Int)
    · rw [if_pos c2]; exact ⟨_, _, rfl, hm.1, hm.2⟩
    · rw [if_neg c2]; exact ⟨_, _, rfl, (low8 _).1, (low8 _).2⟩
  · rw [if_neg c1]
    by_cases c2 : p + 1 ≤ (code.length : Int)
    · rw [if_pos c2]; exact ⟨_, _, rfl, by omega, by omega⟩
    · rw [if_neg c2]; exact ⟨_, _, rfl, (low8 _).1, (low8 _).2⟩
theorem pick_ok (code : List Int) (hc : ∀ x ∈ code, 0 ≤ x ∧ x ≤ 255) (p s n : Int) (h0 : 0 ≤ p) (h1 : p ≤ 999990) : ∃ v p' s', spec_l1Cur_pick.f code p s n = some (v, p', s') ∧ 0 ≤ v ∧ (v < n ∨ v = 0) ∧ p ≤ p' ∧ p' ≤ p + 2 := by
  unfold spec_l1Cur_pick.f
  by_cases c1 : n ≤ 1
  · rw [if_pos c1]; exact ⟨0, p, s, rfl, by omega, .inr rfl, by omega, by omega⟩
  · rw [if_neg c1]
    obtain ⟨v, s1, e1, v0, v1⟩ := next_ok code hc p s h0 (by omega)
    rw [e1]
    simp only [Option.bind_some]
    by_cases c2 : n > 200
    · rw [if_pos c2]
      obtain ⟨u, s2, e2, u0, u1⟩ := next_ok code hc (p + 1) s1 (by omega) (by omega)
      rw [e2]
      simp only [Option.bind_some]
      rw [if_neg (show ¬ n = 0 by omega), wrap64_id (x := v * 256) (by omega) (by omega), wrap64_id (x := v * 256 + u) (by omega) (by omega), tmod_nn (by omega)]
      exact ⟨_, _, _, rfl, Int.emod_nonneg _ (by omega), .inl (Int.emod_lt_of_pos _ (by omega)), by omega, by omega⟩
    · rw [if_neg c2, if_neg (show ¬ n = 0 by omega), tmod_nn (by omega)]
      exact ⟨_, _, _, rfl, Int.emod_nonneg _ (by omega), .inl (Int.emod_lt_of_pos _ (by omega)), by omega, by omega⟩
theorem among_ok (code : List Int) (hc : ∀ x ∈ code, 0 ≤ x ∧ x ≤ 255) (p s : Int) (l : List Int) (hl : 0 < l.length) (h0 : 0 ≤ p) (h1 : p ≤ 999990) : ∃ v p' s', spec_l1Cur_among.f code p s l = some (v, p', s') ∧ v ∈ l ∧ p ≤ p' ∧ p' ≤ p + 2 := by
  unfold spec_l1Cur_among.f
  obtain ⟨v, p', s', e, v0, v1, q0, q1⟩ := pick_ok code hc p s (l.length : Int) h0 h1
  rw [e]
  simp only [Option.bind_some]
  have hv : v < (l.length : Int) := by omega
  rw [if_pos v0, if_pos hv]
  have := rd_mem (l := l) (j := v.toNat) (by omega)
  rw [show ((v.toNat : Nat) : Int) = v by omega] at this
  exact ⟨_, _, _, rfl, this, q0, q1⟩
theorem one_ok (code : List Int) (hc : ∀ x ∈ code, 0 ≤ x ∧ x ≤ 255) (p s n : Int) (h0 : 0 ≤ p) (h1 : p ≤ 999990) : ∃ v p' s', spec_l1Cur_one.f code p s n = some (v, p', s') ∧ p ≤ p' ∧ p' ≤ p + 2 := by
  unfold spec_l1Cur_one.f
  obtain ⟨v, p', s', e, _, _, q0, q1⟩ := pick_ok code hc p s n h0 h1
  rw [e]
  exact ⟨_, _, _, rfl, q0, q1⟩
theorem rwGood_loop (s : ByteArray) (hs : s.size ≤ 140737488351232) : ∀ (d i : Nat), i + d = (L s).length → Ev (fun k => spec_rwGood.l0 k s (i : Int)) (((L s).drop i).all sgn) := by
  have hl := size_L s
  intro d
  induction d with
  | zero =>
    intro i hi
    refine Ev.succ ?_
    simp only [spec_rwGood.l0]
    refine Ev.neg (by omega) (Ev.const ?_)
    rw [List.drop_of_length_le (by omega)]; rfl
  | succ d ih =>
    intro i hi
    have hlt : i < (L s).length := by omega
    refine Ev.succ ?_
    simp only [spec_rwGood.l0]
    rw [List.drop_eq_getElem_cons hlt, List.all_cons, wrap64_id (x := (i : Int) + 1) (by omega) (by omega)]
    refine Ev.pos (by omega) (Ev.pos (by omega) ?_)
    refine Ev.iff (fun hc => ?_) (fun hc => Ev.iff (fun hd => ?_) (fun hd => ?_))
    · rw [bt60 s i hlt] at hc
      rw [hc]; exact ih (i + 1) (by omega)
    · rw [bt62 s i hlt] at hd
      rw [hd]; exact ih (i + 1) (by omega)
    · rw [bt60 s i hlt] at hc
      rw [bt62 s i hlt] at hd
      have e : sgn (L s)[i] = false := by unfold sgn; rw [beq_eq_false_iff_ne.2 hc, beq_eq_false_iff_ne.2 hd]; rfl
      rw [e]; exact Ev.now _
theorem rwGood_ev (s : ByteArray) (hs : s.size ≤ 140737488351232) : Ev (fun k => spec_rwGood.f k s) (rgood (L s)) := by
  have hl := size_L s
  unfold spec_rwGood.f rgood
  simp only [l1In_eq, Option.bind_some]
  refine Ev.iff (fun hc => ?_) (fun hc => ?_)
  · rw [decide_eq_true_eq] at hc
    rw [decide_eq_true (by omega), Bool.true_and]
    have := rwGood_loop s hs (L s).length 0 (by omega)
    rw [List.drop_zero] at this
    exact this
  · rw [decide_eq_true_eq] at hc
    rw [decide_eq_false (by omega), Bool.false_and]
    exact Ev.now _
theorem isRow_eq (s : ByteArray) (hs : s.size ≤ 140737488351232) : impl_isRow.f s = some (rgood (L s)) := by
  have hl := size_L s
  unfold impl_isRow.f rgood strings_Trim.f
  simp only [in_eq, Option.bind_some]
  by_cases h : 1 ≤ (L s).length ∧ (L s).length ≤ 60
  · rw [if_pos (by rw [decide_eq_true_eq]; omega), if_pos ⟨by omega, by decide, by decide⟩, decide_eq_true h, Bool.true_and, Option.bind_some, toList_L, L_mk]
    congr 1
    by_cases ha : (L s).all sgn = true
    · rw [ha]
      exact beq_iff_eq.2 ((trim_sgn (L s)).2 ha)
    · rw [Bool.not_eq_true] at ha
      rw [ha, beq_eq_false_iff_ne]
      intro e
      have := (trim_sgn (L s)).1 e
      rw [ha] at this
      exact absurd this (by decide)
  · rw [if_neg (by rw [decide_eq_true_eq]; omega), decide_eq_false h, Bool.false_and]
def ogood (l : List UInt8) : Bool := rgood l && decide (l.length ≤ 40)
theorem le40 (s : ByteArray) : decide (((L s).length : Int) ≤ 40) = decide ((L s).length ≤ 40) := decide_eq_decide.2 (by omega)
theorem odGood_ev (s : ByteArray) (hs : s.size ≤ 140737488351232) : Ev (fun k => spec_odGood.f k s) (ogood (L s)) := by
  unfold spec_odGood.f ogood
  refine Ev.bind (rwGood_ev s hs) ?_
  rw [isize_L, le40 s]
  cases rgood (L s) <;> exact Ev.const rfl
theorem odTwo_ev (s t : ByteArray) (hs : s.size ≤ 140737488351232) (ht : t.size ≤ 140737488351232) : Ev (fun k => spec_odTwo.f k s t) (ogood (L s) && (ogood (L t) && decide ((L s).length = (L t).length))) := by
  unfold spec_odTwo.f
  refine Ev.bind (odGood_ev s hs) ?_
  rw [isize_L, isize_L]
  refine Ev.iff (fun hc => ?_) (fun hc => ?_)
  · rw [hc, Bool.true_and]
    refine Ev.bind (odGood_ev t ht) ?_
    refine Ev.iff (fun hd => ?_) (fun hd => ?_)
    · rw [hd, Bool.true_and]
      refine Ev.const ?_
      congr 1
      by_cases e : (L s).length = (L t).length
      · simp [e]
      · rw [decide_eq_false e, beq_eq_false_iff_ne]; omega
    · rw [Bool.not_eq_true] at hd; rw [hd, Bool.false_and]; exact Ev.now _
  · rw [Bool.not_eq_true] at hc; rw [hc, Bool.false_and]; exact Ev.now _
theorem isOrdered_eq (s : ByteArray) (hs : s.size ≤ 140737488351232) : impl_isOrdered.f s = some (ogood (L s)) := by
  unfold impl_isOrdered.f ogood
  rw [isRow_eq s hs, Option.bind_some, isize_L, le40 s]
  cases rgood (L s) <;> rfl
theorem areOrdered_eq (s t : ByteArray) (hs : s.size ≤ 140737488351232) (ht : t.size ≤ 140737488351232) : impl_areOrdered.f s t = some (ogood (L s) && (ogood (L t) && decide ((L s).length = (L t).length))) := by
  unfold impl_areOrdered.f
  rw [isOrdered_eq s hs, isOrdered_eq t ht, isize_L, isize_L]
  simp only [Option.bind_some]
  have e : (((L s).length : Int) == ((L t).length : Int)) = decide ((L s).length = (L t).length) := by
    by_cases e : (L s).length = (L t).length
    · simp [e]
    · rw [decide_eq_false e, beq_eq_false_iff_ne]; omega
  rw [e]
  cases ogood (L s) <;> cases ogood (L t) <;> simp
theorem rdS_mem {l : List ByteArray} {j : Int} (h0 : 0 ≤ j) (h : j < l.length) : rdOf ByteArray.empty l j ∈ l := by
  have h' : j.toNat < l.length := by omega
  simp [rdOf, h']
theorem of_ok (code : List Int) (hc : ∀ x ∈ code, 0 ≤ x ∧ x ≤ 255) (p s : Int) (l : List ByteArray) (hl : 0 < l.length) (h0 : 0 ≤ p) (h1 : p ≤ 999990) : ∃ v p' s', spec_l1Cur_of.f code p s l = some (v, p', s') ∧ v ∈ l ∧ p ≤ p' ∧ p' ≤ p + 2 := by
  unfold spec_l1Cur_of.f
  obtain ⟨v, p', s', e, v0, v1, q0, q1⟩ := pick_ok code hc p s (l.length : Int) h0 h1
  rw [e]
  simp only [Option.bind_some]
  have hv : v < (l.length : Int) := by omega
  rw [if_pos v0, if_pos hv]
  exact ⟨_, _, _, rfl, rdS_mem v0 hv, q0, q1⟩
theorem rwOther_eq (b : UInt8) (h : sgn b = true) : spec_rwOther.f (b.toNat : Int) = some (bs [flp b]) := by
  unfold spec_rwOther.f
  rcases sgn_is h with rfl | rfl <;> rfl
theorem win_add (i d j : Nat) : (seg i i j ^^ decide (i + 1 ≤ j ∧ j < i + 1 + d)) = decide (i ≤ j ∧ j < i + (d + 1)) := by
  unfold seg
  by_cases c : j = i
  · subst c; rw [decide_eq_true (by omega), decide_eq_false (by omega), decide_eq_true (by omega)]; rfl
  · rw [decide_eq_false (p := i ≤ j ∧ j ≤ i) (by omega), Bool.false_xor]
    exact decide_eq_decide.2 (by omega)
theorem cut_head (l : List UInt8) (i : Nat) : (bs l).extract 0 ((i : Nat) : Int).toNat = bs (l.take i) := by rw [bs_extract]; simp
theorem cut_tail (l : List UInt8) (i : Nat) : (bs l).extract ((i : Nat) : Int).toNat (bs l).size = bs (l.drop i) := by rw [bs_extract, bs_size, Int.toNat_natCast, List.take_of_length_le (by simp)]
theorem cut_mids (l : List UInt8) (i j : Nat) : (bs l).extract ((i : Nat) : Int).toNat ((j : Nat) : Int).toNat = bs ((l.drop i).take (j - i)) := by rw [bs_extract]; simp
theorem odTurn_loop : ∀ (d i : Nat) (l : List UInt8), l.all sgn = true → l.length ≤ 1000 → i + d ≤ l.length →
    Ev (fun k => spec_odTurn.l0 k (bs l) (((i + d : Nat) : Int) - 1) (i : Int)) (bs (msk l (fun j => decide (i ≤ j ∧ j < i + d)))) := by
  intro d
  induction d with
  | zero =>
    intro i l hg hl h
    refine Ev.succ ?_
    simp only [spec_odTurn.l0]
    refine Ev.neg (by omega) (Ev.const ?_)
    rw [msk_zero (fun j _ => decide_eq_false (by omega))]
  | succ d ih =>
    intro i l hg hl h
    have hi : i < l.length := by omega
    have hz := bs_size l
    refine Ev.succ ?_
    simp only [spec_odTurn.l0]
    rw [bs_bt l i hi, rwOther_eq _ (all_get hg hi), show (i : Int) + 1 = ((i + 1 : Nat) : Int) by omega, wrap64_id (x := ((i + 1 : Nat) : Int)) (by omega) (by omega)]
    simp only [Option.bind_some]
    rw [cut_head, cut_tail, bs_append, bs_append, seg_one hi]
    have s1 := bs_size (l.take i)
    have s2 := bs_size [flp l[i]]
    have s3 := bs_size (l.take i ++ [flp l[i]])
    have s4 := bs_size (l.drop (i + 1))
    rw [List.length_take] at s1
    rw [List.length_append, List.length_take] at s3
    rw [List.length_drop] at s4
    simp only [List.length_cons, List.length_nil] at s2 s3
    refine Ev.pos (by omega) (Ev.pos (by omega) (Ev.pos (by omega) (Ev.pos (by omega) (Ev.pos (by omega) (Ev.pos (by omega) (Ev.pos (by omega) (Ev.pos (by omega) ?_)))))))
    have := ih (i + 1) (msk l (seg i i)) (msk_good hg _) (by rw [msk_len]; exact hl) (by rw [msk_len]; omega)
    rw [msk_msk hg, show i + 1 + d = i + (d + 1) by omega] at this
    rw [show (fun j => decide (i ≤ j ∧ j < i + (d + 1))) = (fun j => seg i i j ^^ decide (i + 1 ≤ j ∧ j < i + (d + 1))) from funext fun j => by rw [← win_add, show i + 1 + d = i + (d + 1) by omega]]
    exact this
theorem odTurn_ev (l : List UInt8) (f e : Nat) (hg : l.all sgn = true) (hl : l.length ≤ 1000) (hf : f ≤ e + 1) (he : e < l.length) : Ev (fun k => spec_odTurn.f k (bs l) (f : Int) (e : Int)) (bs (msk l (seg f e))) := by
  unfold spec_odTurn.f
  have := odTurn_loop (e + 1 - f) f l hg hl (by omega)
  rw [show f + (e + 1 - f) = e + 1 by omega, show ((e + 1 : Nat) : Int) - 1 = (e : Int) by omega] at this
  rw [show seg f e = (fun j => decide (f ≤ j ∧ j < e + 1)) from funext fun j => decide_eq_decide.2 (by omega)]
  exact this
theorem turned_eq (l : List UInt8) (hg : l.all sgn = true) (hl : l.length ≤ 1000) : impl_turned.f (bs l) = some (bs (l.map flp)) := by
  unfold impl_turned.f
  have e : (bs l).data.toList = l := L_mk l
  rw [if_pos (by rw [bs_size]; omega), e, map_flp l hg]
theorem turnAll_eq (l : List UInt8) (f e : Nat) (hg : l.all sgn = true) (hl : l.length ≤ 1000) (hf : f ≤ e + 1) (he : e < l.length) : impl_turnAll.f (bs l) (f : Int) (e : Int) = some (bs (msk l (seg f e))) := by
  unfold impl_turnAll.f
  have hz := bs_size l
  have hm : ((l.drop f).take (e + 1 - f)).all sgn = true := by
    rw [List.all_eq_true]; intro x hx
    exact List.all_eq_true.1 hg x (List.mem_of_mem_drop (List.mem_of_mem_take hx))
  rw [show (e : Int) + 1 = ((e + 1 : Nat) : Int) by omega, wrap64_id (x := ((e + 1 : Nat) : Int)) (by omega) (by omega), cut_mids, cut_head, cut_tail, turned_eq _ hm (by simp; omega)]
  simp only [Option.bind_some]
  rw [bs_append, bs_append, ← seg_cut hf he]
  have s1 := bs_size (l.take f)
  have s2 := bs_size (((l.drop f).take (e + 1 - f)).map flp)
  have s3 := bs_size (l.take f ++ ((l.drop f).take (e + 1 - f)).map flp)
  have s4 := bs_size (l.drop (e + 1))
  simp only [List.length_append, List.length_map, List.length_take, List.length_drop] at s1 s2 s3 s4
  rw [if_pos (by omega), if_pos (by omega), if_pos (by omega), if_pos (by omega), if_pos (by omega), if_pos (by omega), if_pos (by omega)]
theorem near_seg {l : List UInt8} {i : Nat} (hi : i < l.length) : msk l (seg (i - 1) (min (i + 1) (l.length - 1))) = msk l (near i) := by
  refine msk_congr (fun j hj => ?_)
  unfold seg near
  exact decide_eq_decide.2 (by omega)
theorem odAround_ev (l : List UInt8) (i : Nat) (hg : l.all sgn = true) (hl : l.length ≤ 1000) (hi : i < l.length) : Ev (fun k => spec_odAround.f k (bs l) (i : Int)) (bs (msk l (near i))) := by
  unfold spec_odAround.f
  have hz := bs_size l
  simp only [l1Most_eq, l1Least_eq, Option.bind_some]
  rw [wrap64_id (x := (i : Int) - 1) (by omega) (by omega), wrap64_id (x := (i : Int) + 1) (by omega) (by omega), wrap64_id (x := ((bs l).size : Int) - 1) (by omega) (by omega)]
  have e1 : mx 0 ((i : Int) - 1) = ((i - 1 : Nat) : Int) := by unfold mx; split <;> omega
  have e2 : mn (((bs l).size : Int) - 1) ((i : Int) + 1) = ((min (i + 1) (l.length - 1) : Nat) : Int) := by unfold mn; split <;> omega
  rw [e1, e2, ← near_seg hi]
  exact Ev.bind (odTurn_ev l _ _ hg hl (by omega) (by omega)) (Ev.now _)
theorem turnAround_eq (l : List UInt8) (i : Nat) (hg : l.all sgn = true) (hl : l.length ≤ 1000) (hi : i < l.length) : impl_turnAround.f (bs l) (i : Int) = some (bs (msk l (near i))) := by
  unfold impl_turnAround.f
  have hz := bs_size l
  rw [wrap64_id (x := (i : Int) - 1) (by omega) (by omega), wrap64_id (x := (i : Int) + 1) (by omega) (by omega), wrap64_id (x := ((bs l).size : Int) - 1) (by omega) (by omega)]
  have e1 : mx ((i : Int) - 1) 0 = ((i - 1 : Nat) : Int) := by unfold mx; split <;> omega
  have e2 : mn ((i : Int) + 1) (((bs l).size : Int) - 1) = ((min (i + 1) (l.length - 1) : Nat) : Int) := by unfold mn; split <;> omega
  rw [e1, e2, turnAll_eq l _ _ hg hl (by omega) (by omega), near_seg hi]
  rfl
/-- A list of n answers. -/
def fl (n : Nat) (E : Nat → Bool) : List Bool := (List.range n).map E
theorem fl_len (n : Nat) (E : Nat → Bool) : (fl n E).length = n := by simp [fl]
theorem fl_get (n : Nat) (E : Nat → Bool) (i : Nat) (h : i < n) : rdOf false (fl n E) (i : Int) = E i := by simp [fl, rdOf, h]
theorem fl_congr {n : Nat} {E F : Nat → Bool} (h : ∀ j, j < n → E j = F j) : fl n E = fl n F := by
  unfold fl
  exact List.map_congr_left (fun j hj => h j (List.mem_range.1 hj))
theorem fl_set (n : Nat) (E : Nat → Bool) (i : Nat) (b : Bool) : (fl n E).set i b = fl n (fun j => if j = i then b else E j) := by
  apply List.ext_getElem (by simp [fl])
  intro j h1 h2
  simp only [fl, List.getElem_set, List.getElem_map, List.getElem_range]
  by_cases c : i = j
  · subst c; simp
  · rw [if_neg c, if_neg (by omega)]
theorem fl_rep (n : Nat) (E : Nat → Bool) (h : ∀ j, j < n → E j = false) : List.replicate n false = fl n E := by
  apply List.ext_getElem (by simp [fl])
  intro j h1 h2
  simp only [fl, List.getElem_replicate, List.getElem_map, List.getElem_range]
  exact (h j (by simpa using h1)).symm
theorem differ_loop (a b : List UInt8) (n : Nat) (ha : a.length = n) (hb : b.length = n) (hn : n ≤ 1000) : ∀ (d i : Nat), i + d = n →
    Ev (fun k => impl_differ.l0 k (bs a) (bs b) (fl n (fun j => decide (j < i) && dif a b j)) (n : Int) (i : Int)) (fl n (dif a b)) := by
  intro d
  induction d with
  | zero =>
    intro i h
    refine Ev.succ ?_
    simp only [impl_differ.l0]
    refine Ev.neg (by omega) (Ev.const ?_)
    rw [fl_congr (F := dif a b) (fun j hj => by rw [decide_eq_true (by omega), Bool.true_and])]
  | succ d ih =>
    intro i h
    have z1 := bs_size a
    have z2 := bs_size b
    have z3 := fl_len n (fun j => decide (j < i) && dif a b j)
    refine Ev.succ ?_
    simp only [impl_differ.l0]
    refine Ev.pos (by omega) (Ev.pos (by omega) (Ev.pos (by omega) (Ev.pos (by omega) (Ev.pos (by omega) ?_))))
    have e : (bt (bs a) (i : Int) != bt (bs b) (i : Int)) = dif a b i := by
      rw [bs_bt a i (by omega), bs_bt b i (by omega), dif_get (by omega) (by omega)]
      by_cases c : a[i] = b[i]
      · rw [c]; simp
      · rw [bne_iff_ne.2 c, bne_iff_ne.2 (fun x => c ((u8_eq _ _).1 x))]
    rw [e, Int.toNat_natCast, fl_set, show (i : Int) + 1 = ((i + 1 : Nat) : Int) by omega, wrap64_id (x := ((i + 1 : Nat) : Int)) (by omega) (by omega)]
    have := ih (i + 1) (by omega)
    rw [fl_congr (F := fun j => if j = i then dif a b i else decide (j < i) && dif a b j)] at this
    · exact this
    · intro j hj
      by_cases c : j = i
      · subst c; rw [if_pos rfl, decide_eq_true (by omega), Bool.true_and]
      · rw [if_neg c]; congr 1; exact decide_eq_decide.2 (by omega)
theorem differ_ev (a b : List UInt8) (h : a.length = b.length) (hn : a.length ≤ 1000) : Ev (fun k => impl_differ.f k (bs a) (bs b)) (fl a.length (dif a b)) := by
  unfold impl_differ.f
  have z1 := bs_size a
  refine Ev.pos (by omega) (Ev.pos (by omega) ?_)
  simp only [Option.bind_some]
  rw [bs_size, Int.toNat_natCast, List.length_replicate, fl_rep a.length (fun j => decide (j < 0) && dif a b j) (fun j _ => by simp)]
  exact differ_loop a b a.length rfl h.symm hn a.length 0 (by omega)
theorem bt_msk {b : List UInt8} (hb : b.all sgn = true) (E : Nat → Bool) (i : Nat) (hi : i < b.length) : (bt (bs (msk b E)) (i : Int) = bt (bs b) (i : Int)) ↔ E i = false := by
  rw [bs_bt b i hi, bs_bt (msk b E) i (by rw [msk_len]; exact hi), msk_get b E i hi, u8_eq]
  cases E i
  · simp
  · simp only [if_true]; exact ⟨fun x => absurd x (flp_ne (all_get hb hi)), fun x => absurd x (by decide)⟩
theorem ogood_all {l : List UInt8} (h : ogood l = true) : l.all sgn = true ∧ 1 ≤ l.length ∧ l.length ≤ 40 := by
  unfold ogood rgood at h
  simp only [Bool.and_eq_true, decide_eq_true_eq] at h
  exact ⟨h.1.2, h.1.1.1, h.2⟩
/-- Two rows as long that are given orders. -/
def otwo (a b : List UInt8) : Bool := ogood a && (ogood b && decide (a.length = b.length))
theorem otwo_all {a b : List UInt8} (h : otwo a b = true) : ogood a = true ∧ ogood b = true ∧ a.length = b.length := by
  unfold otwo at h
  simp only [Bool.and_eq_true, decide_eq_true_eq] at h
  exact h
theorem areT (a b : List UInt8) (ha : a.length ≤ 1000000) (hb : b.length ≤ 1000000) : impl_areOrdered.f (bs a) (bs b) = some (otwo a b) := by
  have := areOrdered_eq (bs a) (bs b) (by rw [bs_size]; omega) (by rw [bs_size]; omega)
  rw [L_mk, L_mk] at this; exact this
theorem twoT (a b : List UInt8) (ha : a.length ≤ 1000000) (hb : b.length ≤ 1000000) : Ev (fun k => spec_odTwo.f k (bs a) (bs b)) (otwo a b) := by
  have := odTwo_ev (bs a) (bs b) (by rw [bs_size]; omega) (by rw [bs_size]; omega)
  rw [L_mk, L_mk] at this; exact this
theorem goodS (a : List UInt8) (ha : a.length ≤ 1000000) : Ev (fun k => spec_odGood.f k (bs a)) (ogood a) := by
  have := odGood_ev (bs a) (by rw [bs_size]; omega)
  rw [L_mk] at this; exact this
theorem goodI (a : List UInt8) (ha : a.length ≤ 1000000) : impl_isOrdered.f (bs a) = some (ogood a) := by
  have := isOrdered_eq (bs a) (by rw [bs_size]; omega)
  rw [L_mk] at this; exact this
/-- A text of seven-bit bytes. -/
def asc (s : ByteArray) : Prop := ∀ b ∈ L s, b.toNat < 128
theorem asc_app {s t : ByteArray} (h : asc s) (h' : asc t) : asc (s ++ t) := by
  intro b hb
  have e : L (s ++ t) = L s ++ L t := by simp [L]
  rw [e, List.mem_append] at hb
  exact hb.elim (h b) (h' b)
theorem asc_of (s : ByteArray) (h : (L s).all (fun b => decide (b.toNat < 128)) = true) : asc s := fun b hb => by simpa using List.all_eq_true.1 h b hb
theorem sureRowA_loop (code : List Int) (hc : ∀ x ∈ code, 0 ≤ x ∧ x ≤ 255) : ∀ (d : Nat) (acc : ByteArray) (p s : Int), asc acc → acc.size + d ≤ 1000 → 0 ≤ p → p + 2 * d ≤ 900000 →
    ∃ r p' s', Ev (fun k => spec_l1Cur_sureRow.l0 k acc (d : Int) code p s) (r, p', s') ∧ asc r ∧ r.size ≤ acc.size + d ∧ p ≤ p' ∧ p' ≤ p + 2 * d := by
  intro d
  induction d with
  | zero =>
    intro acc p s ha h h0 h1
    refine ⟨acc, p, s, Ev.succ ?_, ha, by omega, by omega, by omega⟩
    simp only [spec_l1Cur_sureRow.l0]
    exact Ev.neg (by omega) (Ev.now _)
  | succ d ih =>
    intro acc p s hac h h0 h1
    obtain ⟨v, p1, s1, e1, hv, q0, q1⟩ := of_ok code hc p s [(⟨#[60]⟩ : ByteArray), (⟨#[62]⟩ : ByteArray)] (by simp) h0 (by omega)
    have hs : v.size = 1 := by
      simp only [List.mem_cons, List.not_mem_nil, or_false] at hv
      rcases hv with rfl | rfl <;> rfl
    have hva : asc v := by
      simp only [List.mem_cons, List.not_mem_nil, or_false] at hv
      rcases hv with rfl | rfl <;> exact asc_of _ (by decide)
    have ha : (acc ++ v).size = acc.size + 1 := by rw [ByteArray.size_append, hs]
    obtain ⟨r, p2, s2, e2, b9, b0, b1, b2⟩ := ih (acc ++ v) p1 s1 (asc_app hac hva) (by omega) (by omega) (by omega)
    refine ⟨r, p2, s2, Ev.succ ?_, b9, by omega, by omega, by omega⟩
    simp only [spec_l1Cur_sureRow.l0]
    rw [e1, show ((d + 1 : Nat) : Int) - 1 = (d : Int) by omega, wrap64_id (x := (d : Int)) (by omega) (by omega)]
    simp only [Option.bind_some]
    exact Ev.pos (by omega) (Ev.pos (by omega) e2)
theorem sureRowA_ok (code : List Int) (hc : ∀ x ∈ code, 0 ≤ x ∧ x ≤ 255) (p s n : Int) (hn : n ≤ 200) (h0 : 0 ≤ p) (h1 : p ≤ 800000) : ∃ r p' s', Ev (fun k => spec_l1Cur_sureRow.f k code p s n) (r, p', s') ∧ asc r ∧ r.size ≤ 201 ∧ p ≤ p' ∧ p' ≤ p + 404 := by
  unfold spec_l1Cur_sureRow.f
  obtain ⟨v, p1, s1, e1, v0, v1, q0, q1⟩ := pick_ok code hc p s n h0 (by omega)
  rw [e1]
  simp only [Option.bind_some]
  rw [wrap64_id (x := 1 + v) (by omega) (by omega), show 1 + v = (((1 + v).toNat : Nat) : Int) by omega]
  have hz : (⟨#[]⟩ : ByteArray).size = 0 := rfl
  obtain ⟨r, p2, s2, e2, b9, b0, b1, b2⟩ := sureRowA_loop code hc (1 + v).toNat (⟨#[]⟩ : ByteArray) p1 s1 (asc_of _ (by decide)) (by omega) (by omega) (by omega)
  exact ⟨r, p2, s2, e2, b9, by omega, by omega, by omega⟩
theorem rowA_loop (code : List Int) (hc : ∀ x ∈ code, 0 ≤ x ∧ x ≤ 255) (n : Int) (hn : n ≤ 200) : ∀ (d : Nat) (acc : ByteArray) (p s : Int), asc acc → acc.size + 2 * d ≤ 1000 → 0 ≤ p → p ≤ 700000 →
    ∃ r p' s', Ev (fun k => spec_l1Cur_row.l0 k n acc (d : Int) code p s) (r, p', s') ∧ asc r ∧ r.size ≤ 1000 ∧ p ≤ p' ∧ p' ≤ p + 404 := by
  intro d
  induction d with
  | zero =>
    intro acc p s ha h h0 h1
    obtain ⟨r, p2, s2, e2, b9, b0, b1, b2⟩ := sureRowA_ok code hc p s n hn h0 (by omega)
    by_cases c : (acc.size : Int) ≤ n
    · refine ⟨acc, p, s, Ev.succ ?_, ha, by omega, by omega, by omega⟩
      simp only [spec_l1Cur_row.l0]
      exact Ev.neg (by omega) (Ev.pos c (Ev.now _))
    · refine ⟨r, p2, s2, Ev.succ ?_, b9, by omega, by omega, by omega⟩
      simp only [spec_l1Cur_row.l0]
      exact Ev.neg (by omega) (Ev.neg c (Ev.bind e2 (Ev.now _)))
  | succ d ih =>
    intro acc p s ha h h0 h1
    have z1 : (⟨#[62]⟩ : ByteArray).size = 1 := rfl
    have z2 : (⟨#[60]⟩ : ByteArray).size = 1 := rfl
    have hs : ((⟨#[62]⟩ : ByteArray) ++ acc).size = 1 + acc.size := by rw [ByteArray.size_append, z1]
    have hs2 : (((⟨#[62]⟩ : ByteArray) ++ acc) ++ (⟨#[60]⟩ : ByteArray)).size = 2 + acc.size := by rw [ByteArray.size_append, hs, z2]; omega
    obtain ⟨r, p2, s2, e2, b9, b0, b1, b2⟩ := ih (((⟨#[62]⟩ : ByteArray) ++ acc) ++ (⟨#[60]⟩ : ByteArray)) p s (asc_app (asc_app (asc_of _ (by decide)) ha) (asc_of _ (by decide))) (by omega) h0 h1
    refine ⟨r, p2, s2, Ev.succ ?_, b9, b0, b1, b2⟩
    simp only [spec_l1Cur_row.l0]
    rw [show ((d + 1 : Nat) : Int) - 1 = (d : Int) by omega, wrap64_id (x := (d : Int)) (by omega) (by omega)]
    exact Ev.pos (by omega) (Ev.pos (by omega) (Ev.pos (by omega) e2))
theorem rowA_ok (code : List Int) (hc : ∀ x ∈ code, 0 ≤ x ∧ x ≤ 255) (p s n : Int) (hn : n ≤ 200) (h0 : 0 ≤ p) (h1 : p ≤ 600000) : ∃ r p' s', Ev (fun k => spec_l1Cur_row.f k code p s n) (r, p', s') ∧ asc r ∧ r.size ≤ 1000 ∧ p ≤ p' ∧ p' ≤ p + 410 := by
  unfold spec_l1Cur_row.f
  obtain ⟨v, p1, s1, e1, v0, v1, q0, q1⟩ := pick_ok code hc p s 14 h0 (by omega)
  rw [e1]
  simp only [Option.bind_some]
  by_cases c0 : v = 0
  · obtain ⟨r, p2, s2, e2, hr, b0, b1⟩ := of_ok code hc p1 s1 [(⟨#[]⟩ : ByteArray), (⟨#[120]⟩ : ByteArray), (⟨#[60, 61]⟩ : ByteArray), (⟨#[62, 32]⟩ : ByteArray), (⟨#[60, 60, 60, 60, 60, 60, 60, 60, 60, 60, 60, 60, 60, 60, 60, 60, 60, 60, 60, 60, 60, 60, 60, 60, 60, 60, 60, 60, 60, 60, 60, 60, 60, 60, 60, 60, 60, 60, 60, 60, 60, 60, 60, 60, 60, 60, 60, 60, 60, 60, 60, 60, 60, 60, 60, 60, 60, 60, 60, 60, 60]⟩ : ByteArray), (⟨#[62, 62, 60, 60, 76, 82]⟩ : ByteArray)] (by simp) (by omega) (by omega)
    have hs : r.size ≤ 1000 := by
      simp only [List.mem_cons, List.not_mem_nil, or_false] at hr
      rcases hr with rfl | rfl | rfl | rfl | rfl | rfl <;> decide
    have ha : asc r := by
      simp only [List.mem_cons, List.not_mem_nil, or_false] at hr
      rcases hr with rfl | rfl | rfl | rfl | rfl | rfl <;> exact asc_of _ (by decide)
    refine ⟨r, p2, s2, Ev.pos c0 ?_, ha, hs, by omega, by omega⟩
    rw [e2]
    exact Ev.now _
  · by_cases c1 : v = 1
    · obtain ⟨u, p2, s2, e2, u0, u1, b0, b1⟩ := pick_ok code hc p1 s1 8 (by omega) (by omega)
      obtain ⟨r, p3, s3, e3, d9, d0, d1, d2⟩ := rowA_loop code hc n hn (2 + u).toNat (⟨#[]⟩ : ByteArray) p2 s2 (asc_of _ (by decide)) (by have : (⟨#[]⟩ : ByteArray).size = 0 := rfl; omega) (by omega) (by omega)
      refine ⟨r, p3, s3, Ev.neg c0 (Ev.pos c1 ?_), d9, d0, by omega, by omega⟩
      rw [e2]
      simp only [Option.bind_some]
      rw [wrap64_id (x := 2 + u) (by omega) (by omega), show 2 + u = (((2 + u).toNat : Nat) : Int) by omega]
      exact e3
    · obtain ⟨r, p3, s3, e3, d9, d0, d1, d2⟩ := sureRowA_ok code hc p1 s1 n hn (by omega) (by omega)
      exact ⟨r, p3, s3, Ev.neg c0 (Ev.neg c1 (Ev.bind e3 (Ev.now _))), d9, by omega, by omega, by omega⟩
theorem asc_bt {x : ByteArray} (h : asc x) {i : Nat} (hi : i < x.size) : bt x (i : Int) < 128 := by
  have hi' : i < (L x).length := by rw [← size_L]; exact hi
  rw [bt_nat x i hi']
  have := h _ (List.getElem_mem hi')
  omega
theorem rows_loop (code : List Int) (hc : ∀ x ∈ code, 0 ≤ x ∧ x ≤ 255) (x : ByteArray) (hx : asc x) (hz : x.size ≤ 1000) : ∀ (d i : Nat) (acc : ByteArray) (p s : Int), i + d = x.size → acc.size ≤ i → 0 ≤ p → p + 2 * d ≤ 900000 →
    ∃ r p' s', Ev (fun k => spec_l1Cur_rows.l0 k x acc code p s (i : Int) x) (x, r, p', s') ∧ r.size ≤ x.size ∧ p ≤ p' ∧ p' ≤ p + 2 * d := by
  intro d
  induction d with
  | zero =>
    intro i acc p s h ha h0 h1
    refine ⟨acc, p, s, Ev.succ ?_, by omega, by omega, by omega⟩
    simp only [spec_l1Cur_rows.l0]
    exact Ev.neg (by omega) (Ev.now _)
  | succ d ih =>
    intro i acc p s h ha h0 h1
    obtain ⟨v, p1, s1, e1, hv, q0, q1⟩ := of_ok code hc p s [(⟨#[60]⟩ : ByteArray), (⟨#[62]⟩ : ByteArray)] (by simp) h0 (by omega)
    have hs : v.size = 1 := by
      simp only [List.mem_cons, List.not_mem_nil, or_false] at hv
      rcases hv with rfl | rfl <;> rfl
    have hsz : (acc ++ v).size = acc.size + 1 := by rw [ByteArray.size_append, hs]
    obtain ⟨r, p2, s2, e2, b0, b1, b2⟩ := ih (i + 1) (acc ++ v) p1 s1 (by omega) (by omega) (by omega) (by omega)
    refine ⟨r, p2, s2, Ev.succ ?_, by omega, by omega, by omega⟩
    simp only [spec_l1Cur_rows.l0]
    rw [e1]
    simp only [Option.bind_some]
    exact Ev.pos (by omega) (Ev.pos (by omega) (Ev.pos (asc_bt hx (by omega)) (Ev.pos (by omega) e2)))
theorem rows_ok (code : List Int) (hc : ∀ x ∈ code, 0 ≤ x ∧ x ≤ 255) : ∃ a b p' s', Ev (fun k => spec_l1Cur_rows.f k code 0 0) (a, b, p', s') ∧ a.size ≤ 1000 ∧ b.size ≤ 1000 ∧ 0 ≤ p' ∧ p' ≤ 5000 := by
  unfold spec_l1Cur_rows.f
  obtain ⟨a, p1, s1, e1, a9, a0, a1, a2⟩ := rowA_ok code hc 0 0 14 (by omega) (by omega) (by omega)
  obtain ⟨o, p2, s2, e2, q0, q1⟩ := one_ok code hc p1 s1 12 (by omega) (by omega)
  cases o
  · obtain ⟨r, p3, s3, e3, b0, b1, b2⟩ := rows_loop code hc a a9 a0 a.size 0 (⟨#[]⟩ : ByteArray) p2 s2 (by omega) (by decide) (by omega) (by omega)
    refine ⟨a, r, p3, s3, Ev.bind e1 ?_, by omega, by omega, by omega, by omega⟩
    rw [e2]
    simp only [Option.bind_some]
    exact Ev.neg (show ¬ (false = true) by decide) e3
  · obtain ⟨b, p3, s3, e3, b9, b0, b1, b2⟩ := rowA_ok code hc p2 s2 14 (by omega) (by omega) (by omega)
    refine ⟨a, b, p3, s3, Ev.bind e1 ?_, by omega, by omega, by omega, by omega⟩
    rw [e2]
    simp only [Option.bind_some]
    exact Ev.pos (by first | rfl | trivial) (Ev.bind e3 (Ev.now _))
theorem mSame_loop (l : List Int) (hl : l.length ≤ 1000000) : ∀ (d i : Nat), i + d = l.length → Ev (fun k => laws_mSame.l0 k l l (l.length : Int) (i : Int)) true := by
  intro d
  induction d with
  | zero =>
    intro i h
    refine Ev.succ ?_
    simp only [laws_mSame.l0]
    exact Ev.neg (by omega) (Ev.now _)
  | succ d ih =>
    intro i h
    refine Ev.succ ?_
    simp only [laws_mSame.l0]
    rw [show (i : Int) + 1 = ((i + 1 : Nat) : Int) by omega, wrap64_id (x := ((i + 1 : Nat) : Int)) (by omega) (by omega)]
    exact Ev.pos (by omega) (Ev.pos (by omega) (Ev.pos (by omega) (Ev.pos (by omega) (Ev.pos (by first | rfl | trivial) (ih (i + 1) (by omega))))))
theorem mSame_ev (l : List Int) (hl : l.length ≤ 1000000) : Ev (fun k => laws_mSame.f k l l) true := by
  unfold laws_mSame.f
  exact Ev.pos rfl (mSame_loop l hl l.length 0 (by omega))
theorem mRises_loop (l : List Int) (hl : l.length ≤ 1000000) (hp : l.Pairwise (· < ·)) : ∀ (d i : Nat), i + 1 + d = l.length → Ev (fun k => laws_mRises.l0 k l ((i + 1 : Nat) : Int)) true := by
  intro d
  induction d with
  | zero =>
    intro i h
    refine Ev.succ ?_
    simp only [laws_mRises.l0]
    exact Ev.neg (by omega) (Ev.now _)
  | succ d ih =>
    intro i h
    refine Ev.succ ?_
    simp only [laws_mRises.l0]
    have := List.pairwise_iff_getElem.1 hp i (i + 1) (by omega) (by omega) (by omega)
    have e0 : ∀ (j : Nat) (h : j < l.length), rd l (j : Int) = l[j] := fun j h => by simp [rd, h]
    have e1 := e0 i (by omega)
    have e2 := e0 (i + 1) (by omega)
    rw [wrap64_id (x := ((i + 1 : Nat) : Int) - 1) (by omega) (by omega), show ((i + 1 : Nat) : Int) - 1 = (i : Int) by omega, e1, e2, show ((i + 1 : Nat) : Int) + 1 = ((i + 1 + 1 : Nat) : Int) by omega, wrap64_id (x := ((i + 1 + 1 : Nat) : Int)) (by omega) (by omega)]
    exact Ev.pos (by omega) (Ev.pos (by omega) (Ev.pos (by omega) (Ev.pos (by omega) (Ev.neg (by omega) (ih (i + 1) (by omega))))))
theorem mRises_ev (l : List Int) (hl : l.length ≤ 1000000) (hp : l.Pairwise (· < ·)) : Ev (fun k => laws_mRises.f k l) true := by
  unfold laws_mRises.f
  by_cases c : l.length = 0
  · refine Ev.succ ?_
    simp only [laws_mRises.l0]
    exact Ev.neg (by omega) (Ev.now _)
  · exact mRises_loop l hl hp (l.length - 1) 0 (by omega)
theorem rdL_at {l : List (List Int)} {i : Nat} (h : i < l.length) : rd_L3 l (i : Int) = l[i] := by simp [rd_L3, h]
theorem rdL_drop {l : List (List Int)} {i : Nat} (h : i < l.length) : l.drop i = rd_L3 l (i : Int) :: l.drop (i + 1) := by rw [rdL_at h]; exact List.drop_eq_getElem_cons h
theorem rdL_last (l : List (Nat × Nat)) (f e : Nat) : rd_L3 (rro (l ++ [(f, e)])) (l.length : Int) = [(f : Int), (e : Int)] := by
  have h : l.length < (rro (l ++ [(f, e)])).length := by rw [rro_len]; simp
  rw [rdL_at h]
  simp [rro]
theorem parts_loop (n : Nat) (hn : n ≤ 1000) (D : Nat → Bool) : ∀ (d i : Nat), i + d = n → Ev (fun k => impl_parts.l0 k (fl n D) (rro (rns D i)) (fl n D) (n : Int) (i : Int)) (rro (rns D n)) := by
  intro d
  induction d with
  | zero =>
    intro i h
    obtain rfl : i = n := by omega
    refine Ev.succ ?_
    simp only [impl_parts.l0]
    exact Ev.neg (by omega) (Ev.now _)
  | succ d ih =>
    intro i h
    have ih1 := ih (i + 1) (by omega)
    have z := fl_len n D
    have z2 := rro_len (rns D i)
    have z3 := sta_le D i
    have z4 := (rns_inv D i).2.2.1
    have next : ∀ b : Bool, b = (D i && !(decide (1 ≤ i) && D (i - 1))) → Ev (fun k => impl_parts.j1 k (fl n D) (rro (rns D i)) (i : Int) (D i) (fl n D) (n : Int) (i : Int) b) (rro (rns D n)) := by
      intro b hb
      refine Ev.succ ?_
      simp only [impl_parts.j1]
      rw [show (i : Int) + 1 = ((i + 1 : Nat) : Int) by omega, wrap64_id (x := ((i + 1 : Nat) : Int)) (by omega) (by omega)]
      by_cases c : D i = true
      · by_cases c2 : 1 ≤ i ∧ D (i - 1) = true
        · rw [c, c2.2, decide_eq_true c2.1] at hb
          subst hb
          obtain ⟨l, f, e, e'⟩ := rns_next D i c c2
          rw [e] at z2 z4 ⊢
          rw [e'] at ih1
          have z5 : (rro (l ++ [(f, i - 1)])).length = l.length + 1 := by rw [rro_len]; simp
          rw [z5, wrap64_id (x := ((l.length + 1 : Nat) : Int) - 1) (by omega) (by omega), show ((l.length + 1 : Nat) : Int) - 1 = (l.length : Int) by omega, rdL_last l f (i - 1), Int.toNat_natCast]
          refine Ev.neg (by decide) (Ev.pos c (Ev.pos (by omega) (Ev.pos (by omega) (Ev.pos (by simp) ?_))))
          have e3 : ([(f : Int), ((i - 1 : Nat) : Int)]).set (1 : Int).toNat (i : Int) = [(f : Int), (i : Int)] := rfl
          rw [e3, rro_set]
          exact ih1
        · have hb' : b = true := by
            rw [hb, c]
            by_cases c3 : 1 ≤ i
            · rw [decide_eq_true c3]
              have : D (i - 1) = false := by
                cases hh : D (i - 1)
                · rfl
                · exact absurd ⟨c3, hh⟩ c2
              rw [this]; rfl
            · rw [decide_eq_false c3]; rfl
          subst hb'
          rw [rns_new D i c c2, rro_app] at ih1
          exact Ev.pos (by first | rfl | trivial) (Ev.pos (by omega) ih1)
      · have hb' : b = false := by rw [hb]; rw [Bool.not_eq_true] at c; rw [c]; rfl
        subst hb'
        rw [rns_off D i c] at ih1
        exact Ev.neg (by decide) (Ev.neg c ih1)
    refine Ev.succ ?_
    simp only [impl_parts.l0]
    rw [fl_get n D i (by omega)]
    refine Ev.pos (by omega) (Ev.pos (by omega) (Ev.pos (by omega) (Ev.iff (fun c => Ev.iff (fun c2 => next _ ?_) (fun c2 => ?_)) (fun c => next _ ?_))))
    · rw [c, decide_eq_false (show ¬ 1 ≤ i by omega)]; rfl
    · rw [wrap64_id (x := (i : Int) - 1) (by omega) (by omega), show (i : Int) - 1 = ((i - 1 : Nat) : Int) by omega, fl_get n D (i - 1) (by omega)]
      refine Ev.pos (by omega) (Ev.pos (by omega) (next _ ?_))
      rw [c, decide_eq_true (show 1 ≤ i by omega)]; simp
    · rw [Bool.not_eq_true] at c; rw [c]; rfl
theorem parts_ev (n : Nat) (hn : n ≤ 1000) (D : Nat → Bool) : Ev (fun k => impl_parts.f k (fl n D)) (rro (rns D n)) := by
  unfold impl_parts.f
  rw [fl_len]
  exact parts_loop n hn D n 0 (by omega)
theorem sgn_lt {b : UInt8} (h : sgn b = true) : (b.toNat : Int) < 128 := by
  rcases sgn_is h with rfl | rfl <;> decide
theorem bt_dif {a b : List UInt8} {i : Nat} (h : i < a.length) (h' : i < b.length) : (bt (bs a) (i : Int) = bt (bs b) (i : Int)) ↔ dif a b i = false := by
  rw [bs_bt a i h, bs_bt b i h', dif_get h h', u8_eq]
  simp
theorem bt_difb {a b : List UInt8} {i : Nat} (h : i < a.length) (h' : i < b.length) : (bt (bs a) (i : Int) != bt (bs b) (i : Int)) = dif a b i := by
  have := bt_dif h h'
  cases e : dif a b i
  · rw [bne_eq_false_iff_eq]; exact this.2 e
  · rw [bne_iff_ne]; exact fun x => by rw [this.1 x] at e; exact absurd e (by decide)
theorem odRuns_loop (a b : List UInt8) (n : Nat) (ha : a.length = n) (hb : b.length = n) (hg : a.all sgn = true) (hn : n ≤ 1000) : ∀ (d i : Nat), i + d = n → Ev (fun k => spec_odRuns.l0 k (bs a) (bs b) (rro (rns (dif a b) i)) (i : Int) (bs a)) (rro (rns (dif a b) n)) := by
  intro d
  induction d with
  | zero =>
    intro i h
    obtain rfl : i = n := by omega
    have z1 := bs_size a
    refine Ev.succ ?_
    simp only [spec_odRuns.l0]
    exact Ev.neg (by omega) (Ev.now _)
  | succ d ih =>
    intro i h
    have ih1 := ih (i + 1) (by omega)
    rw [show ((i + 1 : Nat) : Int) = (i : Int) + 1 by omega] at ih1
    have z1 := bs_size a
    have z2 := bs_size b
    have z3 := sta_le (dif a b) i
    have z4 := (rns_inv (dif a b) i).2.2.1
    have z5 := rro_len (rns (dif a b) i)
    have hbt : bt (bs a) (i : Int) < 128 := by
      rw [bs_bt a i (by omega)]; exact sgn_lt (all_get hg _)
    refine Ev.succ ?_
    simp only [spec_odRuns.l0]
    refine Ev.pos (by omega) (Ev.pos (by omega) (Ev.pos hbt (Ev.pos (by omega) (Ev.pos (by omega) (Ev.iff (fun c => ?_) (fun c => ?_))))))
    · rw [bt_dif (by omega) (by omega)] at c
      rw [rns_off (dif a b) i (by rw [c]; decide)] at ih1
      exact ih1
    · have c' : dif a b i = true := by
        cases e : dif a b i
        · exact absurd ((bt_dif (by omega) (by omega)).2 e) c
        · rfl
      have new : ¬ (1 ≤ i ∧ dif a b (i - 1) = true) → Ev (fun k => if (rro (rns (dif a b) i)).length < 5864062014805 then (spec_odRuns.l0 k (bs a) (bs b) ((rro (rns (dif a b) i)) ++ [(([(i : Int), (i : Int)] : List Int))]) ((i : Int) + 1) (bs a)) else none) (rro (rns (dif a b) n)) := by
        intro c2
        rw [rns_new (dif a b) i c' c2, rro_app] at ih1
        exact Ev.pos (by omega) ih1
      refine Ev.iff (fun c3 => ?_) (fun c3 => new (fun c2 => ?_))
      · obtain ⟨l, p, e⟩ : ∃ l p, rns (dif a b) i = l ++ [p] := by
          have hne : rns (dif a b) i ≠ [] := by intro x; rw [x] at c3; simp [rro] at c3
          exact ⟨_, _, (List.dropLast_concat_getLast hne).symm⟩
        obtain ⟨f, g⟩ := p
        have hp := (rns_inv (dif a b) i).1 (f, g) (by rw [e]; simp)
        simp only at hp
        have z6 : (rro (rns (dif a b) i)).length = l.length + 1 := by rw [rro_len, e]; simp
        rw [z6, wrap64_id (x := ((l.length + 1 : Nat) : Int) - 1) (by omega) (by omega), show ((l.length + 1 : Nat) : Int) - 1 = (l.length : Int) by omega]
        have er : rd_L3 (rro (rns (dif a b) i)) (l.length : Int) = [(f : Int), (g : Int)] := by rw [e]; exact rdL_last l f g
        rw [er, wrap64_id (x := (i : Int) - 1) (by omega) (by omega)]
        have e1 : rd [(f : Int), (g : Int)] 1 = g := by simp [rd]
        rw [e1]
        refine Ev.pos (by omega) (Ev.pos (by omega) (Ev.pos (by simp) (Ev.iff (fun c4 => ?_) (fun c4 => ?_))))
        · have hg' : g = i - 1 := by omega
          have c2 : 1 ≤ i ∧ dif a b (i - 1) = true := ⟨by omega, by rw [← hg']; exact hp.2.2⟩
          obtain ⟨l', f', e', e''⟩ := rns_next (dif a b) i c' c2
          rw [e] at e'
          obtain ⟨rfl, e3⟩ := List.append_inj' e' rfl
          have e4 : f = f' := by
            have := List.head_eq_of_cons_eq e3
            exact (Prod.mk.inj this).1
          subst e4
          rw [e'', ← rro_set l f g i, ← e] at ih1
          rw [Int.toNat_natCast]
          exact ih1
        · rw [← z6]
          refine new (fun c2 => c4 ?_)
          obtain ⟨l', f', e', _⟩ := rns_next (dif a b) i c' c2
          rw [e] at e'
          obtain ⟨_, e3⟩ := List.append_inj' e' rfl
          have := List.head_eq_of_cons_eq e3
          have := (Prod.mk.inj this).2
          omega
      · obtain ⟨l, f, e, _⟩ := rns_next (dif a b) i c' c2
        rw [e] at z4
        rw [z5, e] at c3
        simp at c3
theorem odRuns_ev (a b : List UInt8) (h : a.length = b.length) (hg : a.all sgn = true) (hn : a.length ≤ 1000) : Ev (fun k => spec_odRuns.f k (bs a) (bs b)) (rro (rns (dif a b) a.length)) := by
  unfold spec_odRuns.f
  exact odRuns_loop a b a.length rfl h.symm hg hn a.length 0 (by omega)
theorem fl_snoc (n : Nat) (D : Nat → Bool) : fl n D ++ [false] = fl (n + 1) (fun j => decide (j < n) && D j) := by
  unfold fl
  rw [List.range_succ, List.map_append]
  congr 1
  · refine List.map_congr_left (fun j hj => ?_)
    rw [decide_eq_true (List.mem_range.1 hj)]; rfl
  · simp
theorem qd_cut (n : Nat) (D : Nat → Bool) (k : Nat) : (decide (k < n) && D k) = qd n D (k + 1) := by
  unfold qd
  rw [Nat.add_sub_cancel]
  congr 1
  exact decide_eq_decide.2 (by omega)
theorem imFirsts_loop (n : Nat) (D : Nat → Bool) (hn : n ≤ 1000) : ∀ (d i : Nat) (acc : List Int), i + d = n → acc.length ≤ i →
    Ev (fun k => impl_FirstsTo.l0 k acc (fl (n + 1) (fun j => decide (j < n) && D j)) (n : Int) (i : Int)) (acc ++ lst (chg n D) (i + 1) d, true) := by
  intro d
  induction d with
  | zero =>
    intro i acc h ha
    refine Ev.succ ?_
    simp only [impl_FirstsTo.l0]
    refine Ev.neg (by omega) (Ev.const ?_)
    simp [lst]
  | succ d ih =>
    intro i acc h ha
    have z := fl_len (n + 1) (fun j => decide (j < n) && D j)
    refine Ev.succ ?_
    simp only [impl_FirstsTo.l0]
    rw [show (i : Int) + 1 = ((i + 1 : Nat) : Int) by omega, wrap64_id (x := ((i + 1 : Nat) : Int)) (by omega) (by omega), fl_get (n + 1) _ i (by omega), fl_get (n + 1) _ (i + 1) (by omega), qd_cut n D i, qd_cut n D (i + 1)]
    have e : (qd n D (i + 1) != qd n D (i + 1 + 1)) = chg n D (i + 1) := by
      unfold chg; cases qd n D (i + 1) <;> cases qd n D (i + 1 + 1) <;> rfl
    rw [e]
    refine Ev.pos (by omega) (Ev.pos (by omega) (Ev.pos (by omega) (Ev.pos (by omega) (Ev.pos (by omega) (Ev.iff (fun c => ?_) (fun c => ?_))))))
    · have := ih (i + 1) (acc ++ [((i + 1 : Nat) : Int)]) (by omega) (by simp; omega)
      simp only [lst]
      rw [if_pos c]
      rw [List.append_assoc] at this
      exact Ev.pos (by omega) this
    · have := ih (i + 1) acc (by omega) (by omega)
      simp only [lst]
      rw [if_neg c, List.nil_append]
      exact this
theorem spFirsts_loop (a b : List UInt8) (n : Nat) (ha' : a.length = n) (hb : b.length = n) (hg : a.all sgn = true) (hn : n ≤ 1000) : ∀ (d i : Nat) (acc : List Int), i + d = n → acc.length ≤ i →
    Ev (fun k => spec_odFirsts.l0 k (bs a) (bs b) acc (i : Int) (bs a)) (acc ++ lst (chg n (dif a b)) (i + 1) d) := by
  intro d
  induction d with
  | zero =>
    intro i acc h ha
    have z1 := bs_size a
    refine Ev.succ ?_
    simp only [spec_odFirsts.l0]
    refine Ev.neg (by omega) (Ev.const ?_)
    simp [lst]
  | succ d ih =>
    intro i acc h ha
    have z1 := bs_size a
    have z2 := bs_size b
    have hbt : bt (bs a) (i : Int) < 128 := by
      rw [bs_bt a i (by omega)]; exact sgn_lt (all_get hg _)
    refine Ev.succ ?_
    simp only [spec_odFirsts.l0]
    rw [show (i : Int) + 1 = ((i + 1 : Nat) : Int) by omega, wrap64_id (x := ((i + 1 : Nat) : Int)) (by omega) (by omega), bt_difb (a := a) (b := b) (i := i) (by omega) (by omega)]
    have hit : chg n (dif a b) (i + 1) = true → Ev (fun k => if acc.length < 17592186044416 then (spec_odFirsts.l0 k (bs a) (bs b) (acc ++ [((i + 1 : Nat) : Int)]) ((i + 1 : Nat) : Int) (bs a)) else none) (acc ++ lst (chg n (dif a b)) (i + 1) (d + 1)) := by
      intro c
      have := ih (i + 1) (acc ++ [((i + 1 : Nat) : Int)]) (by omega) (by simp; omega)
      simp only [lst]
      rw [if_pos c]
      rw [List.append_assoc] at this
      exact Ev.pos (by omega) this
    have mis : ¬ chg n (dif a b) (i + 1) = true → Ev (fun k => spec_odFirsts.l0 k (bs a) (bs b) acc ((i + 1 : Nat) : Int) (bs a)) (acc ++ lst (chg n (dif a b)) (i + 1) (d + 1)) := by
      intro c
      have := ih (i + 1) acc (by omega) (by omega)
      simp only [lst]
      rw [if_neg c, List.nil_append]
      exact this
    have q1 : qd n (dif a b) (i + 1) = dif a b i := qd_in _ (by omega)
    refine Ev.pos (by omega) (Ev.pos (by omega) (Ev.pos hbt (Ev.pos (by omega) (Ev.pos (by omega) (Ev.iff (fun c0 => ?_) (fun c0 => ?_))))))
    · rw [bt_difb (a := a) (b := b) (i := i + 1) (by omega) (by omega)]
      have q2 : qd n (dif a b) (i + 1 + 1) = dif a b (i + 1) := qd_in _ (by omega)
      have e : (dif a b i != dif a b (i + 1)) = chg n (dif a b) (i + 1) := by
        unfold chg; rw [q1, q2]
      rw [e]
      exact Ev.pos (by omega) (Ev.pos (by omega) (Ev.iff hit mis))
    · have hin : i + 1 = n := by omega
      have q2 : qd n (dif a b) (i + 1 + 1) = false := by rw [hin]; exact qd_end _ _
      have e : (dif a b i != false) = chg n (dif a b) (i + 1) := by
        unfold chg; rw [q1, q2]
      rw [e]
      exact Ev.iff hit mis
/-- What RunsTo answers. -/
def rto (a b : List UInt8) : List (List Int) × Bool := if otwo a b = true then (rro (rns (dif a b) a.length), true) else ([], false)
def fto (a b : List UInt8) : List Int × Bool := if otwo a b = true then (ffs a.length (dif a b), true) else ([], false)
theorem imRunsTo_ev (a b : List UInt8) (ha : a.length ≤ 1000000) (hb : b.length ≤ 1000000) : Ev (fun k => impl_RunsTo.f k (bs a) (bs b)) (rto a b) := by
  unfold impl_RunsTo.f rto
  rw [areT a b ha hb]
  simp only [Option.bind_some]
  refine Ev.iff (fun h => ?_) (fun h => ?_)
  · obtain ⟨h1, h2, h3⟩ := otwo_all h
    obtain ⟨g1, g2, g3⟩ := ogood_all h1
    rw [if_pos h]
    exact Ev.bind (differ_ev a b h3 (by omega)) (Ev.bind (parts_ev a.length (by omega) _) (Ev.now _))
  · rw [if_neg h]; exact Ev.now _
theorem spRunsTo_ev (a b : List UInt8) (ha : a.length ≤ 1000000) (hb : b.length ≤ 1000000) : Ev (fun k => spec_RunsTo.f k (bs a) (bs b)) (rto a b) := by
  unfold spec_RunsTo.f rto
  refine Ev.bind (twoT a b ha hb) (Ev.iff (fun h => ?_) (fun h => ?_))
  · obtain ⟨h1, h2, h3⟩ := otwo_all h
    obtain ⟨g1, g2, g3⟩ := ogood_all h1
    rw [if_pos h]
    exact Ev.bind (odRuns_ev a b h3 g1 (by omega)) (Ev.now _)
  · rw [if_neg h]; exact Ev.now _
theorem imFewest_ev (a b : List UInt8) (ha : a.length ≤ 1000000) (hb : b.length ≤ 1000000) : Ev (fun k => impl_FewestRuns.f k (bs a) (bs b)) (((rto a b).1.length : Int), (rto a b).2) := by
  unfold impl_FewestRuns.f
  exact Ev.bind (imRunsTo_ev a b ha hb) (Ev.now _)
theorem spFewest_ev (a b : List UInt8) (ha : a.length ≤ 1000000) (hb : b.length ≤ 1000000) : Ev (fun k => spec_FewestRuns.f k (bs a) (bs b)) (((rto a b).1.length : Int), (rto a b).2) := by
  unfold spec_FewestRuns.f rto
  refine Ev.bind (twoT a b ha hb) (Ev.iff (fun h => ?_) (fun h => ?_))
  · obtain ⟨h1, h2, h3⟩ := otwo_all h
    obtain ⟨g1, g2, g3⟩ := ogood_all h1
    rw [if_pos h]
    exact Ev.bind (odRuns_ev a b h3 g1 (by omega)) (Ev.now _)
  · rw [if_neg h]; exact Ev.now _
theorem imFirstsTo_ev (a b : List UInt8) (ha : a.length ≤ 1000000) (hb : b.length ≤ 1000000) : Ev (fun k => impl_FirstsTo.f k (bs a) (bs b)) (fto a b) := by
  unfold impl_FirstsTo.f fto
  rw [areT a b ha hb]
  simp only [Option.bind_some]
  refine Ev.iff (fun h => ?_) (fun h => ?_)
  · obtain ⟨h1, h2, h3⟩ := otwo_all h
    obtain ⟨g1, g2, g3⟩ := ogood_all h1
    rw [if_pos h]
    refine Ev.bind (differ_ev a b h3 (by omega)) (Ev.pos (by rw [fl_len]; omega) ?_)
    rw [fl_snoc, bs_size]
    exact imFirsts_loop a.length (dif a b) (by omega) a.length 0 [] (by omega) (by simp)
  · rw [if_neg h]; exact Ev.now _
theorem spOdFirsts_ev (a b : List UInt8) (h : a.length = b.length) (hg : a.all sgn = true) (hn : a.length ≤ 1000) : Ev (fun k => spec_odFirsts.f k (bs a) (bs b)) (ffs a.length (dif a b)) := by
  unfold spec_odFirsts.f
  exact spFirsts_loop a b a.length rfl h.symm hg hn a.length 0 [] (by omega) (by simp)
theorem spFirstsTo_ev (a b : List UInt8) (ha : a.length ≤ 1000000) (hb : b.length ≤ 1000000) : Ev (fun k => spec_FirstsTo.f k (bs a) (bs b)) (fto a b) := by
  unfold spec_FirstsTo.f fto
  refine Ev.bind (twoT a b ha hb) (Ev.iff (fun h => ?_) (fun h => ?_))
  · obtain ⟨h1, h2, h3⟩ := otwo_all h
    obtain ⟨g1, g2, g3⟩ := ogood_all h1
    rw [if_pos h]
    exact Ev.bind (spOdFirsts_ev a b h3 g1 (by omega)) (Ev.now _)
  · rw [if_neg h]; exact Ev.now _
theorem imFewestF_ev (a b : List UInt8) (ha : a.length ≤ 1000000) (hb : b.length ≤ 1000000) : Ev (fun k => impl_FewestFirst.f k (bs a) (bs b)) (((fto a b).1.length : Int), (fto a b).2) := by
  unfold impl_FewestFirst.f
  exact Ev.bind (imFirstsTo_ev a b ha hb) (Ev.now _)
theorem spFewestF_ev (a b : List UInt8) (ha : a.length ≤ 1000000) (hb : b.length ≤ 1000000) : Ev (fun k => spec_FewestFirst.f k (bs a) (bs b)) (((fto a b).1.length : Int), (fto a b).2) := by
  unfold spec_FewestFirst.f fto
  refine Ev.bind (twoT a b ha hb) (Ev.iff (fun h => ?_) (fun h => ?_))
  · obtain ⟨h1, h2, h3⟩ := otwo_all h
    obtain ⟨g1, g2, g3⟩ := ogood_all h1
    rw [if_pos h]
    exact Ev.bind (spOdFirsts_ev a b h3 g1 (by omega)) (Ev.now _)
  · rw [if_neg h]; exact Ev.now _
/-- What TurnRun answers. -/
def trun (a : List UInt8) (f t : Int) : ByteArray × Bool := if ogood a = true ∧ (0 ≤ f ∧ f ≤ (a.length : Int) - 1) ∧ f ≤ t ∧ t ≤ (a.length : Int) - 1 then (bs (msk a (seg f.toNat t.toNat)), true) else (bs [], false)
def tfst (a : List UInt8) (m : Int) : ByteArray × Bool := if ogood a = true ∧ 1 ≤ m ∧ m ≤ a.length then (bs (msk a (seg 0 (m - 1).toNat)), true) else (bs [], false)
def taro (a : List UInt8) (m : Int) : ByteArray × Bool := if ogood a = true ∧ 0 ≤ m ∧ m ≤ (a.length : Int) - 1 then (bs (msk a (near m.toNat)), true) else (bs [], false)
def most (n : Int) : Int × Bool := if 1 ≤ n ∧ n ≤ 40 then ((n + 1) / 2, true) else (0, false)
theorem isRun_eq (a : List UInt8) (f t : Int) (ha : a.length ≤ 1000000) : impl_isRun.f (bs a) f t = some (decide ((0 ≤ f ∧ f ≤ (a.length : Int) - 1) ∧ f ≤ t ∧ t ≤ (a.length : Int) - 1)) := by
  unfold impl_isRun.f
  rw [in_eq, in_eq, bs_size, wrap64_id (x := (a.length : Int) - 1) (by omega) (by omega)]
  simp only [Option.bind_some, decide_eq_true_eq]
  by_cases c : 0 ≤ f ∧ f ≤ (a.length : Int) - 1
  · rw [if_pos c]
    congr 1
    exact decide_eq_decide.2 ⟨fun h => ⟨c, h⟩, fun h => h.2⟩
  · rw [if_neg c, decide_eq_false (fun h => c h.1)]
theorem imTR_eq (a : List UInt8) (f t : Int) (ha : a.length ≤ 1000000) : impl_TurnRun.f (bs a) f t = some (trun a f t) := by
  unfold impl_TurnRun.f trun
  rw [goodI a ha, isRun_eq a f t ha]
  simp only [Option.bind_some, decide_eq_true_eq]
  by_cases h : ogood a = true
  · obtain ⟨g1, g2, g3⟩ := ogood_all h
    rw [if_pos h]
    by_cases c : (0 ≤ f ∧ f ≤ (a.length : Int) - 1) ∧ f ≤ t ∧ t ≤ (a.length : Int) - 1
    · have tt := turnAll_eq a f.toNat t.toNat g1 (by omega) (by omega) (by omega)
      rw [show ((f.toNat : Nat) : Int) = f by omega, show ((t.toNat : Nat) : Int) = t by omega] at tt
      rw [if_pos c, if_pos ⟨h, c⟩, tt]; rfl
    · rw [if_neg c, if_neg (fun x => c x.2)]
  · rw [if_neg h, if_neg (fun x => h x.1)]
theorem spTR_ev (a : List UInt8) (f t : Int) (ha : a.length ≤ 1000000) : Ev (fun k => spec_TurnRun.f k (bs a) f t) (trun a f t) := by
  unfold spec_TurnRun.f trun
  refine Ev.bind (goodS a ha) ?_
  rw [l1In_eq, l1In_eq, bs_size, wrap64_id (x := (a.length : Int) - 1) (by omega) (by omega)]
  simp only [Option.bind_some, decide_eq_true_eq]
  refine Ev.iff (fun h => ?_) (fun h => by rw [if_neg (fun x => h x.1)]; exact Ev.now _)
  obtain ⟨g1, g2, g3⟩ := ogood_all h
  refine Ev.iff (fun c => Ev.iff (fun c2 => ?_) (fun c2 => by rw [if_neg (fun x => c2 x.2.2)]; exact Ev.now _)) (fun c => by rw [if_neg (fun x => c x.2.1)]; exact Ev.now _)
  have tt := odTurn_ev a f.toNat t.toNat g1 (by omega) (by omega) (by omega)
  rw [show ((f.toNat : Nat) : Int) = f by omega, show ((t.toNat : Nat) : Int) = t by omega] at tt
  rw [if_pos ⟨h, c, c2⟩]
  exact Ev.bind tt (Ev.now _)
theorem imTF_eq (a : List UInt8) (m : Int) (ha : a.length ≤ 1000000) : impl_TurnFirst.f (bs a) m = some (tfst a m) := by
  unfold impl_TurnFirst.f tfst
  rw [goodI a ha, in_eq, bs_size]
  simp only [Option.bind_some, decide_eq_true_eq]
  by_cases h : ogood a = true
  · obtain ⟨g1, g2, g3⟩ := ogood_all h
    rw [if_pos h]
    by_cases c : 1 ≤ m ∧ m ≤ (a.length : Int)
    · have tt := turnAll_eq a 0 (m - 1).toNat g1 (by omega) (by omega) (by omega)
      rw [show (((m - 1).toNat : Nat) : Int) = m - 1 by omega, show ((0 : Nat) : Int) = 0 by rfl] at tt
      rw [if_pos c, if_pos ⟨h, c⟩, wrap64_id (x := m - 1) (by omega) (by omega), tt]; rfl
    · rw [if_neg c, if_neg (fun x => c x.2)]
  · rw [if_neg h, if_neg (fun x => h x.1)]
theorem spTF_ev (a : List UInt8) (m : Int) (ha : a.length ≤ 1000000) : Ev (fun k => spec_TurnFirst.f k (bs a) m) (tfst a m) := by
  unfold spec_TurnFirst.f tfst
  refine Ev.bind (goodS a ha) ?_
  rw [l1In_eq, bs_size]
  simp only [Option.bind_some, decide_eq_true_eq]
  refine Ev.iff (fun h => ?_) (fun h => by rw [if_neg (fun x => h x.1)]; exact Ev.now _)
  obtain ⟨g1, g2, g3⟩ := ogood_all h
  refine Ev.iff (fun c => ?_) (fun c => by rw [if_neg (fun x => c x.2)]; exact Ev.now _)
  have tt := odTurn_ev a 0 (m - 1).toNat g1 (by omega) (by omega) (by omega)
  rw [show (((m - 1).toNat : Nat) : Int) = m - 1 by omega, show ((0 : Nat) : Int) = 0 by rfl] at tt
  rw [if_pos ⟨h, c⟩, wrap64_id (x := m - 1) (by omega) (by omega)]
  exact Ev.bind tt (Ev.now _)
theorem imTA_eq (a : List UInt8) (m : Int) (ha : a.length ≤ 1000000) : impl_TurnAround.f (bs a) m = some (taro a m) := by
  unfold impl_TurnAround.f taro
  rw [goodI a ha, in_eq, bs_size, wrap64_id (x := (a.length : Int) - 1) (by omega) (by omega)]
  simp only [Option.bind_some, decide_eq_true_eq]
  by_cases h : ogood a = true
  · obtain ⟨g1, g2, g3⟩ := ogood_all h
    rw [if_pos h]
    by_cases c : 0 ≤ m ∧ m ≤ (a.length : Int) - 1
    · have tt := turnAround_eq a m.toNat g1 (by omega) (by omega)
      rw [show ((m.toNat : Nat) : Int) = m by omega] at tt
      rw [if_pos c, if_pos ⟨h, c⟩, tt]; rfl
    · rw [if_neg c, if_neg (fun x => c x.2)]
  · rw [if_neg h, if_neg (fun x => h x.1)]
theorem spTA_ev (a : List UInt8) (m : Int) (ha : a.length ≤ 1000000) : Ev (fun k => spec_TurnAround.f k (bs a) m) (taro a m) := by
  unfold spec_TurnAround.f taro
  refine Ev.bind (goodS a ha) ?_
  rw [l1In_eq, bs_size, wrap64_id (x := (a.length : Int) - 1) (by omega) (by omega)]
  simp only [Option.bind_some, decide_eq_true_eq]
  refine Ev.iff (fun h => ?_) (fun h => by rw [if_neg (fun x => h x.1)]; exact Ev.now _)
  obtain ⟨g1, g2, g3⟩ := ogood_all h
  refine Ev.iff (fun c => ?_) (fun c => by rw [if_neg (fun x => c x.2)]; exact Ev.now _)
  have tt := odAround_ev a m.toNat g1 (by omega) (by omega)
  rw [show ((m.toNat : Nat) : Int) = m by omega] at tt
  rw [if_pos ⟨h, c⟩]
  exact Ev.bind tt (Ev.now _)
theorem imMR_eq (n : Int) : impl_MostRuns.f n = some (most n) := by
  unfold impl_MostRuns.f impl_isOrderedMany.f most
  rw [in_eq]
  simp only [Option.bind_some, decide_eq_true_eq]
  by_cases c : 1 ≤ n ∧ n ≤ 40
  · rw [if_pos c, if_pos c, wrap64_id (x := n + 1) (by omega) (by omega), tdiv_nn (by omega), wrap64_id (x := (n + 1) / 2) (by omega) (by omega)]
  · rw [if_neg c, if_neg c]
theorem spMR_eq (n : Int) : spec_MostRuns.f n = some (most n) := by
  unfold spec_MostRuns.f spec_odSoldiers.f most
  rw [l1In_eq]
  simp only [Option.bind_some, decide_eq_true_eq]
  by_cases c : 1 ≤ n ∧ n ≤ 40
  · rw [if_pos c, if_pos c, wrap64_id (x := n + 1) (by omega) (by omega), tdiv_nn (by omega), wrap64_id (x := (n + 1) / 2) (by omega) (by omega)]
  · rw [if_neg c, if_neg c]
/-- What PlayRuns answers. -/
def prn (e : List UInt8) (l : List (List Int)) : ByteArray × Bool := if ogood e = true ∧ l.length ≤ 100 ∧ l.all (rok e.length) = true then (bs (msk e (srw l)), true) else (bs [], false)
theorem step_srw (r : List Int) (l : List (List Int)) (E : Nat → Bool) : (fun j => (E j ^^ seg (rd r 0).toNat (rd r 1).toNat j) ^^ srw l j) = (fun j => E j ^^ srw (r :: l) j) := by
  funext j; simp only [srw, Bool.xor_assoc]
theorem rok_iff {n : Nat} {r : List Int} : rok n r = true ↔ (r.length = 2 ∧ (0 ≤ rd r 0 ∧ rd r 0 ≤ (n : Int) - 1) ∧ rd r 0 ≤ rd r 1 ∧ rd r 1 ≤ (n : Int) - 1) := by unfold rok; rw [decide_eq_true_eq]
theorem imPlayR_loop (e : List UInt8) (he : e.all sgn = true) (hn : e.length ≤ 1000) (l : List (List Int)) (hl : l.length ≤ 1000000) : ∀ (d i : Nat) (E : Nat → Bool), i + d = l.length →
    Ev (fun k => impl_PlayRuns.l0 k (bs (msk e E)) l (l.length : Int) (i : Int)) (if (l.drop i).all (rok e.length) = true then (bs (msk e (fun j => E j ^^ srw (l.drop i) j)), true) else (bs [], false)) := by
  intro d
  induction d with
  | zero =>
    intro i E h
    refine Ev.succ ?_
    simp only [impl_PlayRuns.l0]
    rw [List.drop_of_length_le (by omega)]
    refine Ev.neg (by omega) (Ev.const ?_)
    rw [if_pos (by rfl)]
    simp [srw]
  | succ d ih =>
    intro i E h
    refine Ev.succ ?_
    simp only [impl_PlayRuns.l0]
    rw [rdL_drop (show i < l.length by omega), List.all_cons, show (i : Int) + 1 = ((i + 1 : Nat) : Int) by omega, wrap64_id (x := ((i + 1 : Nat) : Int)) (by omega) (by omega), isRun_eq _ _ _ (by rw [msk_len]; omega), msk_len]
    simp only [Option.bind_some]
    generalize rd_L3 l (i : Int) = r
    refine Ev.pos (by omega) (Ev.pos (by omega) (Ev.pos (by omega) (Ev.iff (fun c1 => Ev.pos (by omega) (Ev.pos (by omega) (Ev.iff (fun c => ?_) (fun c => ?_)))) (fun c1 => ?_))))
    · rw [decide_eq_true_eq] at c
      have hr : rok e.length r = true := rok_iff.2 ⟨by omega, c.1, c.2.1, c.2.2⟩
      rw [hr, Bool.true_and]
      have t := turnAll_eq (msk e E) (rd r 0).toNat (rd r 1).toNat (msk_good he _) (by rw [msk_len]; exact hn) (by omega) (by rw [msk_len]; omega)
      rw [show (((rd r 0).toNat : Nat) : Int) = rd r 0 by omega, show (((rd r 1).toNat : Nat) : Int) = rd r 1 by omega, msk_msk he] at t
      rw [t]
      simp only [Option.bind_some]
      have := ih (i + 1) (fun j => E j ^^ seg (rd r 0).toNat (rd r 1).toNat j) (by omega)
      rw [step_srw] at this
      exact this
    · have hr : rok e.length r = false := by
        rw [Bool.eq_false_iff]; intro x; exact c (by rw [decide_eq_true_eq]; exact (rok_iff.1 x).2)
      rw [hr, Bool.false_and]; exact Ev.now _
    · have hr : rok e.length r = false := by
        rw [Bool.eq_false_iff]; intro x; have := (rok_iff.1 x).1; omega
      rw [hr, Bool.false_and]; exact Ev.now _
theorem spPlayR_loop (e : List UInt8) (he : e.all sgn = true) (hn : e.length ≤ 1000) (l : List (List Int)) (hl : l.length ≤ 1000000) : ∀ (d i : Nat) (E : Nat → Bool), i + d = l.length →
    Ev (fun k => spec_PlayRuns.l0 k (bs (msk e E)) l (l.length : Int) (i : Int)) (if (l.drop i).all (rok e.length) = true then (bs (msk e (fun j => E j ^^ srw (l.drop i) j)), true) else (bs [], false)) := by
  intro d
  induction d with
  | zero =>
    intro i E h
    refine Ev.succ ?_
    simp only [spec_PlayRuns.l0]
    rw [List.drop_of_length_le (by omega)]
    refine Ev.neg (by omega) (Ev.const ?_)
    rw [if_pos (by rfl)]
    simp [srw]
  | succ d ih =>
    intro i E h
    have z := bs_size (msk e E)
    rw [msk_len] at z
    refine Ev.succ ?_
    simp only [spec_PlayRuns.l0]
    rw [rdL_drop (show i < l.length by omega), List.all_cons, show (i : Int) + 1 = ((i + 1 : Nat) : Int) by omega, wrap64_id (x := ((i + 1 : Nat) : Int)) (by omega) (by omega), l1In_eq, l1In_eq, z, wrap64_id (x := (e.length : Int) - 1) (by omega) (by omega)]
    simp only [Option.bind_some]
    generalize rd_L3 l (i : Int) = r
    refine Ev.pos (by omega) (Ev.pos (by omega) (Ev.pos (by omega) (Ev.iff (fun c1 => Ev.pos (by omega) (Ev.iff (fun c => Ev.pos (by omega) (Ev.iff (fun c2 => ?_) (fun c2 => ?_))) (fun c => ?_))) (fun c1 => ?_))))
    · rw [decide_eq_true_eq] at c c2
      have hr : rok e.length r = true := rok_iff.2 ⟨by omega, c, c2.1, c2.2⟩
      rw [hr, Bool.true_and]
      have t := odTurn_ev (msk e E) (rd r 0).toNat (rd r 1).toNat (msk_good he _) (by rw [msk_len]; exact hn) (by omega) (by rw [msk_len]; omega)
      rw [show (((rd r 0).toNat : Nat) : Int) = rd r 0 by omega, show (((rd r 1).toNat : Nat) : Int) = rd r 1 by omega, msk_msk he] at t
      have := ih (i + 1) (fun j => E j ^^ seg (rd r 0).toNat (rd r 1).toNat j) (by omega)
      rw [step_srw] at this
      exact Ev.bind t this
    · have hr : rok e.length r = false := by
        rw [Bool.eq_false_iff]; intro x; exact c2 (by rw [decide_eq_true_eq]; exact (rok_iff.1 x).2.2)
      rw [hr, Bool.false_and]; exact Ev.now _
    · have hr : rok e.length r = false := by
        rw [Bool.eq_false_iff]; intro x; exact c (by rw [decide_eq_true_eq]; exact (rok_iff.1 x).2.1)
      rw [hr, Bool.false_and]; exact Ev.now _
    · have hr : rok e.length r = false := by
        rw [Bool.eq_false_iff]; intro x; have := (rok_iff.1 x).1; omega
      rw [hr, Bool.false_and]; exact Ev.now _
theorem prn_of (e : List UInt8) (l : List (List Int)) (h : ogood e = true) (m : l.length ≤ 100) : (if (l.drop 0).all (rok e.length) = true then (bs (msk e (fun j => false ^^ srw (l.drop 0) j)), true) else (bs [], false)) = prn e l := by
  unfold prn
  rw [List.drop_zero]
  by_cases v : l.all (rok e.length) = true
  · rw [if_pos v, if_pos ⟨h, m, v⟩]; simp only [Bool.false_xor]
  · rw [if_neg v, if_neg (fun x => v x.2.2)]
theorem imPlayR_ev (e : List UInt8) (l : List (List Int)) (he : e.length ≤ 1000000) (hl : l.length ≤ 1000000) : Ev (fun k => impl_PlayRuns.f k (bs e) l) (prn e l) := by
  have bad : (¬ (ogood e = true ∧ l.length ≤ 100)) → Ev (fun k => impl_PlayRuns.j0 k (bs e) l true) (prn e l) := by
    intro x
    refine Ev.succ ?_
    simp only [impl_PlayRuns.j0]
    unfold prn
    rw [if_neg (fun y => x ⟨y.1, y.2.1⟩)]
    exact Ev.pos (by first | rfl | trivial) (Ev.now _)
  unfold impl_PlayRuns.f
  rw [goodI e he]
  simp only [Option.bind_some]
  refine Ev.iff (fun h => ?_) (fun h => bad (fun x => h x.1))
  obtain ⟨g1, g2, g3⟩ := ogood_all h
  by_cases m : l.length ≤ 100
  · rw [decide_eq_false (by omega)]
    refine Ev.succ ?_
    simp only [impl_PlayRuns.j0]
    refine Ev.neg (by decide) ?_
    have := imPlayR_loop e g1 (by omega) l hl l.length 0 (fun _ => false) (by omega)
    rw [msk_zero (fun _ _ => rfl), prn_of e l h m] at this
    exact this
  · rw [decide_eq_true (by omega)]
    exact bad (fun x => m x.2)
theorem spPlayR_ev (e : List UInt8) (l : List (List Int)) (he : e.length ≤ 1000000) (hl : l.length ≤ 1000000) : Ev (fun k => spec_PlayRuns.f k (bs e) l) (prn e l) := by
  have bad : (¬ (ogood e = true ∧ l.length ≤ 100)) → Ev (fun k => spec_PlayRuns.j0 k (bs e) l true) (prn e l) := by
    intro x
    refine Ev.succ ?_
    simp only [spec_PlayRuns.j0]
    unfold prn
    rw [if_neg (fun y => x ⟨y.1, y.2.1⟩)]
    exact Ev.pos (by first | rfl | trivial) (Ev.now _)
  unfold spec_PlayRuns.f
  refine Ev.bind (goodS e he) (Ev.iff (fun h => ?_) (fun h => bad (fun x => h x.1)))
  obtain ⟨g1, g2, g3⟩ := ogood_all h
  by_cases m : l.length ≤ 100
  · rw [decide_eq_false (by omega)]
    refine Ev.succ ?_
    simp only [spec_PlayRuns.j0]
    refine Ev.neg (by decide) ?_
    have := spPlayR_loop e g1 (by omega) l hl l.length 0 (fun _ => false) (by omega)
    rw [msk_zero (fun _ _ => rfl), prn_of e l h m] at this
    exact this
  · rw [decide_eq_true (by omega)]
    exact bad (fun x => m x.2)
theorem mRows_loop (l : List (List Int)) (hl : l.length ≤ 1000000) (hr : ∀ r ∈ l, r.length ≤ 1000000) : ∀ (d i : Nat), i + d = l.length → Ev (fun k => laws_mRows.l0 k l l (l.length : Int) (i : Int)) true := by
  intro d
  induction d with
  | zero =>
    intro i h
    refine Ev.succ ?_
    simp only [laws_mRows.l0]
    exact Ev.neg (by omega) (Ev.now _)
  | succ d ih =>
    intro i h
    refine Ev.succ ?_
    simp only [laws_mRows.l0]
    have hm : rd_L3 l (i : Int) ∈ l := by rw [rdL_at (show i < l.length by omega)]; exact List.getElem_mem _
    rw [show (i : Int) + 1 = ((i + 1 : Nat) : Int) by omega, wrap64_id (x := ((i + 1 : Nat) : Int)) (by omega) (by omega)]
    exact Ev.pos (by omega) (Ev.pos (by omega) (Ev.pos (by omega) (Ev.pos (by omega) (Ev.bind (mSame_ev _ (hr _ hm)) (Ev.pos (by first | rfl | trivial) (ih (i + 1) (by omega)))))))
theorem mRows_ev (l : List (List Int)) (hl : l.length ≤ 1000000) (hr : ∀ r ∈ l, r.length ≤ 1000000) : Ev (fun k => laws_mRows.f k l l) true := by
  unfold laws_mRows.f
  exact Ev.pos rfl (mRows_loop l hl hr l.length 0 (by omega))
theorem drawOT_rows (code : List Int) (hc : ∀ x ∈ code, 0 ≤ x ∧ x ≤ 255) : ∃ a b, Ev (fun k => spec_DrawRunsTo.f k code) (bs a, bs b) ∧ a.length ≤ 1000 ∧ b.length ≤ 1000 := by
  unfold spec_DrawRunsTo.f spec_DrawFewestRuns.f
  obtain ⟨x, y, p1, s1, e1, a0, a1, a2, a3⟩ := rows_ok code hc
  refine ⟨L x, L y, ?_, by rw [← size_L]; exact a0, by rw [← size_L]; exact a1⟩
  rw [bs_L, bs_L]
  exact Ev.bind (Ev.bind e1 (Ev.now _)) (Ev.now _)
theorem pick3 (code : List Int) (hc : ∀ x ∈ code, 0 ≤ x ∧ x ≤ 255) (p s n m q : Int) (h0 : 0 ≤ p) (h1 : p ≤ 900000) (x : ByteArray) (F G : Int → Int → Int → Int) : ∃ f t, ((spec_l1Cur_pick.f code p s n).bind fun a => ((spec_l1Cur_pick.f code a.2.1 a.2.2 m).bind fun b => ((spec_l1Cur_pick.f code b.2.1 b.2.2 q).bind fun c => (some (x, F a.1 b.1 c.1, G a.1 b.1 c.1))))) = some (x, f, t) := by
  obtain ⟨v, p2, s2, e2, v0, v1, b0, b1⟩ := pick_ok code hc p s n h0 (by omega)
  obtain ⟨u, p3, s3, e3, u0, u1, c0, c1⟩ := pick_ok code hc p2 s2 m (by omega) (by omega)
  obtain ⟨y, p4, s4, e4, y0, y1, d0, d1⟩ := pick_ok code hc p3 s3 q (by omega) (by omega)
  refine ⟨F v u y, G v u y, ?_⟩
  rw [e2]
  simp only [Option.bind_some]
  rw [e3]
  simp only [Option.bind_some]
  rw [e4]
  simp only [Option.bind_some]
theorem drawTR_ok (code : List Int) (hc : ∀ x ∈ code, 0 ≤ x ∧ x ≤ 255) : ∃ a f t, Ev (fun k => spec_DrawTurnRun.f k code) (bs a, f, t) ∧ a.length ≤ 1000 := by
  unfold spec_DrawTurnRun.f
  obtain ⟨x, p1, s1, e1, a9, a0, a1, a2⟩ := rowA_ok code hc 0 0 14 (by omega) (by omega) (by omega)
  obtain ⟨f, t, h⟩ := pick3 code hc p1 s1 (wrap64 ((x.size : Int) + 2)) (wrap64 ((x.size : Int) + 1)) 8 (by omega) (by omega) x (fun a _ _ => wrap64 (a - 1)) (fun a b c => wrap64 ((wrap64 ((wrap64 (a - 1)) + b)) - (wrap64 (Int.tdiv c 7))))
  refine ⟨L x, f, t, ?_, by rw [← size_L]; exact a0⟩
  rw [bs_L]
  exact Ev.bind e1 (Ev.const h)
theorem drawTF_ok (code : List Int) (hc : ∀ x ∈ code, 0 ≤ x ∧ x ≤ 255) : ∃ a m, Ev (fun k => spec_DrawTurnFirst.f k code) (bs a, m) ∧ a.length ≤ 1000 := by
  unfold spec_DrawTurnFirst.f
  obtain ⟨x, p1, s1, e1, a9, a0, a1, a2⟩ := rowA_ok code hc 0 0 14 (by omega) (by omega) (by omega)
  obtain ⟨v, p2, s2, e2, v0, v1, b0, b1⟩ := pick_ok code hc p1 s1 (wrap64 ((x.size : Int) + 3)) (by omega) (by omega)
  refine ⟨L x, wrap64 (v - 1), ?_, by rw [← size_L]; exact a0⟩
  · rw [bs_L]
    refine Ev.bind e1 ?_
    rw [e2]
    simp only [Option.bind_some]
    exact Ev.now _
theorem drawMR_ok (code : List Int) (hc : ∀ x ∈ code, 0 ≤ x ∧ x ≤ 255) : ∃ n, spec_DrawMostRuns.f code = some n := by
  unfold spec_DrawMostRuns.f spec_DrawCountByNeighbours.f
  obtain ⟨u, p2, s2, e2, hu, a0, a1⟩ := among_ok code hc 0 0 [1, 2, 3, 4, 5, 6, 8, 11, 40, 41, 0, (-1)] (by simp) (by omega) (by omega)
  rw [e2]
  exact ⟨_, rfl⟩
theorem drawPR_loop (code : List Int) (hc : ∀ x ∈ code, 0 ≤ x ∧ x ≤ 255) (x : ByteArray) (hx : x.size ≤ 1000) : ∀ (d : Nat) (M : List (List Int)) (p s : Int), M.length + d ≤ 100 → 0 ≤ p → p + 6 * d ≤ 900000 →
    ∃ M', Ev (fun k => spec_DrawPlayRuns.l0 k x M (d : Int) code p s) (x, M') ∧ M'.length ≤ 101 := by
  have fin : ∀ (d : Nat) (M : List (List Int)) (p s : Int), M.length ≤ 100 → 0 ≤ p → p ≤ 900000 → ∃ M', Ev (fun k => spec_DrawPlayRuns.j1 k x M (d : Int) false code p s) (x, M') ∧ M'.length ≤ 101 := by
    intro d M p s h h0 h1
    obtain ⟨v, p1, s1, e1, q0, q1⟩ := one_ok code hc p s 8 h0 (by omega)
    cases v with
    | true =>
      obtain ⟨u, p2, s2, e2, u0, u1, b0, b1⟩ := pick_ok code hc p1 s1 6 (by omega) (by omega)
      refine ⟨M ++ [rd_L3 ([[], [1], [1, 0], [(-1), 0], [0, 99], [0, 0, 0]] : List (List Int)) u], Ev.succ ?_, by simp; omega⟩
      simp only [spec_DrawPlayRuns.j1]
      rw [e1]
      simp only [Option.bind_some]
      rw [e2]
      simp only [Option.bind_some]
      exact Ev.neg (show ¬ (false = true) by decide) (Ev.pos (by first | rfl | trivial) (Ev.pos (by omega) (Ev.pos (by simp only [List.length_cons, List.length_nil]; omega) (Ev.pos (by omega) (Ev.now _)))))
    | false =>
      refine ⟨M, Ev.succ ?_, by omega⟩
      simp only [spec_DrawPlayRuns.j1]
      rw [e1]
      simp only [Option.bind_some]
      exact Ev.neg (show ¬ (false = true) by decide) (Ev.neg (show ¬ (false = true) by decide) (Ev.now _))
  intro d
  induction d with
  | zero =>
    intro M p s h h0 h1
    obtain ⟨M', e, hM⟩ := fin 0 M p s (by omega) h0 (by omega)
    refine ⟨M', Ev.succ ?_, hM⟩
    simp only [spec_DrawPlayRuns.l0]
    exact Ev.neg (by omega) e
  | succ d ih =>
    intro M p s h h0 h1
    by_cases c : (x.size : Int) > 0
    · obtain ⟨v, p1, s1, e1, v0, v1, a0, a1⟩ := pick_ok code hc p s (x.size : Int) h0 (by omega)
      obtain ⟨u, p2, s2, e2, u0, u1, b0, b1⟩ := pick_ok code hc p1 s1 (wrap64 ((x.size : Int) - v)) (by omega) (by omega)
      obtain ⟨M', e3, hM⟩ := ih (M ++ [[v, wrap64 (v + u)]]) p2 s2 (by simp; omega) (by omega) (by omega)
      refine ⟨M', Ev.succ ?_, hM⟩
      simp only [spec_DrawPlayRuns.l0]
      refine Ev.pos (by omega) (Ev.succ ?_)
      simp only [spec_DrawPlayRuns.j1]
      rw [e1]
      simp only [Option.bind_some]
      rw [e2, show ((d + 1 : Nat) : Int) - 1 = (d : Int) by omega, wrap64_id (x := (d : Int)) (by omega) (by omega)]
      simp only [Option.bind_some]
      exact Ev.pos (decide_eq_true c) (Ev.pos (by omega) e3)
    · obtain ⟨M', e, hM⟩ := fin (d + 1) M p s (by omega) h0 (by omega)
      refine ⟨M', Ev.succ ?_, hM⟩
      simp only [spec_DrawPlayRuns.l0]
      rw [decide_eq_false c]
      exact Ev.pos (by omega) e
theorem drawPR_ok (code : List Int) (hc : ∀ x ∈ code, 0 ≤ x ∧ x ≤ 255) : ∃ a l, Ev (fun k => spec_DrawPlayRuns.f k code) (bs a, l) ∧ a.length ≤ 1000 ∧ l.length ≤ 101 := by
  unfold spec_DrawPlayRuns.f
  obtain ⟨x, p1, s1, e1, a9, a0, a1, a2⟩ := rowA_ok code hc 0 0 14 (by omega) (by omega) (by omega)
  obtain ⟨v, p2, s2, e2, v0, v1, b0, b1⟩ := pick_ok code hc p1 s1 5 (by omega) (by omega)
  obtain ⟨M, e3, hM⟩ := drawPR_loop code hc x a0 v.toNat [] p2 s2 (by simp; omega) (by omega) (by omega)
  rw [show ((v.toNat : Nat) : Int) = v by omega] at e3
  refine ⟨L x, M, ?_, by rw [← size_L]; exact a0, hM⟩
  rw [bs_L]
  refine Ev.bind e1 ?_
  rw [e2]
  exact e3
theorem ogood_msk {l : List UInt8} (h : ogood l = true) (p : Nat → Bool) : ogood (msk l p) = true := by
  unfold ogood rgood at h ⊢
  simp only [Bool.and_eq_true, decide_eq_true_eq] at h ⊢
  rw [msk_len]
  exact ⟨⟨h.1.1, msk_good h.1.2 p⟩, h.2⟩
theorem bt_mskb {a : List UInt8} (ha : a.all sgn = true) (p : Nat → Bool) {i : Nat} (h : i < a.length) : (bt (bs (msk a p)) (i : Int) != bt (bs a) (i : Int)) = p i := by
  have := bt_msk ha p i h
  cases e : p i
  · rw [bne_eq_false_iff_eq]; exact this.2 e
  · rw [bne_iff_ne]; intro x; rw [this.1 x] at e; exact absurd e (by decide)
theorem ot_l4 (c : List UInt8) (hc : ogood c = true) (l : List (List Int)) (hl : l.length ≤ 1000) (hv : l.all (rok c.length) = true) : ∀ (d i : Nat) (E : Nat → Bool), i + d = l.length → (∀ j, (E j ^^ srw (l.drop i) j) = srw l j) →
    Ev (fun k => laws_FnOrdersTurn.l4 k (bs (msk c (srw l))) (bs (msk c E)) l (l.length : Int) (i : Int)) true := by
  obtain ⟨g1, g2, g3⟩ := ogood_all hc
  intro d
  induction d with
  | zero =>
    intro i E h hE
    refine Ev.succ ?_
    simp only [laws_FnOrdersTurn.l4]
    refine Ev.neg (by omega) (Ev.const ?_)
    rw [List.drop_of_length_le (by omega)] at hE
    have e : E = srw l := funext fun j => by have := hE j; simpa [srw] using this
    rw [e]; simp
  | succ d ih =>
    intro i E h hE
    refine Ev.succ ?_
    simp only [laws_FnOrdersTurn.l4]
    have hm : rd_L3 l (i : Int) ∈ l := by rw [rdL_at (show i < l.length by omega)]; exact List.getElem_mem _
    have hr := rok_iff.1 (List.all_eq_true.1 hv _ hm)
    rw [rdL_drop (show i < l.length by omega)] at hE
    rw [imTR_eq _ _ _ (by rw [msk_len]; omega), show (i : Int) + 1 = ((i + 1 : Nat) : Int) by omega, wrap64_id (x := ((i + 1 : Nat) : Int)) (by omega) (by omega)]
    simp only [Option.bind_some]
    generalize rd_L3 l (i : Int) = r at hr hE
    have e : trun (msk c E) (rd r 0) (rd r 1) = (bs (msk c (fun j => E j ^^ seg (rd r 0).toNat (rd r 1).toNat j)), true) := by
      unfold trun
      rw [msk_len, if_pos ⟨ogood_msk hc E, hr.2.1, hr.2.2⟩, msk_msk g1]
    rw [e]
    have := ih (i + 1) (fun j => E j ^^ seg (rd r 0).toNat (rd r 1).toNat j) (by omega) (fun j => by
      have := hE j
      simp only [srw] at this
      rw [← this, Bool.xor_assoc])
    exact Ev.pos (by omega) (Ev.pos (by omega) (Ev.pos (by omega) (Ev.pos (by omega) (Ev.pos (by omega) (Ev.pos (by first | rfl | trivial) this)))))
theorem ot_j7 (c : List UInt8) (l : List (List Int)) (hl : l.length ≤ 1000) : Ev (fun k => laws_FnOrdersTurn.j7 k (bs c) l (prn c l).1 (prn c l).2) true := by
  refine Ev.succ ?_
  simp only [laws_FnOrdersTurn.j7]
  by_cases h : ogood c = true ∧ l.length ≤ 100 ∧ l.all (rok c.length) = true
  · have e : prn c l = (bs (msk c (srw l)), true) := by unfold prn; rw [if_pos h]
    rw [e]
    have := ot_l4 c h.1 l hl h.2.2 l.length 0 (fun _ => false) (by omega) (fun j => by rw [List.drop_zero, Bool.false_xor])
    rw [msk_zero (fun _ _ => rfl)] at this
    exact Ev.pos (by first | rfl | trivial) this
  · have e : prn c l = (bs [], false) := by unfold prn; rw [if_neg h]
    rw [e]
    exact Ev.neg (show ¬ (false = true) by decide) (Ev.now _)
theorem ot_l3 (a : List UInt8) (m : Int) (h : ogood a = true ∧ 0 ≤ m ∧ m ≤ (a.length : Int) - 1) (y53 : ByteArray) (y54 : List (List Int)) (y55 : ByteArray) (y56 : Bool) (h7 : Ev (fun k => laws_FnOrdersTurn.j7 k y53 y54 y55 y56) true) : ∀ (d i : Nat), i + d = a.length →
    Ev (fun k => laws_FnOrdersTurn.l3 k (bs a) m (bs (msk a (near m.toNat))) y53 y54 y55 y56 (i : Int) (bs a)) true := by
  obtain ⟨g1, g2, g3⟩ := ogood_all h.1
  have z1 := bs_size a
  have z2 := bs_size (msk a (near m.toNat))
  rw [msk_len] at z2
  intro d
  induction d with
  | zero =>
    intro i hi
    refine Ev.succ ?_
    simp only [laws_FnOrdersTurn.l3]
    exact Ev.neg (by omega) h7
  | succ d ih =>
    intro i hi
    have hbt : bt (bs a) (i : Int) < 128 := by
      rw [bs_bt a i (by omega)]; exact sgn_lt (all_get g1 _)
    have := ih (i + 1) (by omega)
    rw [show ((i + 1 : Nat) : Int) = (i : Int) + 1 by omega] at this
    refine Ev.succ ?_
    simp only [laws_FnOrdersTurn.l3]
    rw [bt_mskb g1 _ (show i < a.length by omega), wrap64_id (x := m - 1) (by omega) (by omega), wrap64_id (x := m + 1) (by omega) (by omega)]
    refine Ev.pos (by omega) (Ev.pos (by omega) (Ev.pos hbt (Ev.pos (by omega) (Ev.pos (by omega) (Ev.iff (fun c => Ev.neg ?_ this) (fun c => Ev.neg ?_ this))))))
    · have e : near m.toNat i = decide ((i : Int) ≤ m + 1) := by unfold near; exact decide_eq_decide.2 (by omega)
      rw [e]; simp
    · have e : near m.toNat i = false := by unfold near; exact decide_eq_false (by omega)
      rw [e]; decide
theorem ot_j5 (a : List UInt8) (m : Int) (y53 : ByteArray) (y54 : List (List Int)) (y55 : ByteArray) (y56 : Bool) (h7 : Ev (fun k => laws_FnOrdersTurn.j7 k y53 y54 y55 y56) true) : Ev (fun k => laws_FnOrdersTurn.j5 k (bs a) m (taro a m).1 (taro a m).2 y53 y54 y55 y56) true := by
  refine Ev.succ ?_
  simp only [laws_FnOrdersTurn.j5]
  by_cases h : ogood a = true ∧ 0 ≤ m ∧ m ≤ (a.length : Int) - 1
  · have e : taro a m = (bs (msk a (near m.toNat)), true) := by unfold taro; rw [if_pos h]
    rw [e]
    exact Ev.pos (by first | rfl | trivial) (ot_l3 a m h y53 y54 y55 y56 h7 a.length 0 (by omega))
  · have e : taro a m = (bs [], false) := by unfold taro; rw [if_neg h]
    rw [e]
    exact Ev.neg (show ¬ (false = true) by decide) h7
theorem ot_l2 (a : List UInt8) (m : Int) (h : ogood a = true ∧ 1 ≤ m ∧ m ≤ a.length) (y49 : ByteArray) (y50 : Bool) (y53 : ByteArray) (y54 : List (List Int)) (y55 : ByteArray) (y56 : Bool) (h5 : Ev (fun k => laws_FnOrdersTurn.j5 k (bs a) m y49 y50 y53 y54 y55 y56) true) : ∀ (d i : Nat), i + d = a.length →
    Ev (fun k => laws_FnOrdersTurn.l2 k (bs a) m (bs (msk a (seg 0 (m - 1).toNat))) y49 y50 y53 y54 y55 y56 (i : Int) (bs a)) true := by
  obtain ⟨g1, g2, g3⟩ := ogood_all h.1
  have z1 := bs_size a
  have z2 := bs_size (msk a (seg 0 (m - 1).toNat))
  rw [msk_len] at z2
  intro d
  induction d with
  | zero =>
    intro i hi
    refine Ev.succ ?_
    simp only [laws_FnOrdersTurn.l2]
    exact Ev.neg (by omega) h5
  | succ d ih =>
    intro i hi
    have hbt : bt (bs a) (i : Int) < 128 := by
      rw [bs_bt a i (by omega)]; exact sgn_lt (all_get g1 _)
    have := ih (i + 1) (by omega)
    rw [show ((i + 1 : Nat) : Int) = (i : Int) + 1 by omega] at this
    refine Ev.succ ?_
    simp only [laws_FnOrdersTurn.l2]
    rw [bt_mskb g1 _ (show i < a.length by omega)]
    refine Ev.pos (by omega) (Ev.pos (by omega) (Ev.pos hbt (Ev.pos (by omega) (Ev.pos (by omega) (Ev.neg ?_ this)))))
    have e : seg 0 (m - 1).toNat i = decide ((i : Int) < m) := by unfold seg; exact decide_eq_decide.2 (by omega)
    rw [e]; simp
theorem ot_j3 (a : List UInt8) (m : Int) (y49 : ByteArray) (y50 : Bool) (y53 : ByteArray) (y54 : List (List Int)) (y55 : ByteArray) (y56 : Bool) (h5 : Ev (fun k => laws_FnOrdersTurn.j5 k (bs a) m y49 y50 y53 y54 y55 y56) true) : Ev (fun k => laws_FnOrdersTurn.j3 k (bs a) m (tfst a m).1 (tfst a m).2 y49 y50 y53 y54 y55 y56) true := by
  refine Ev.succ ?_
  simp only [laws_FnOrdersTurn.j3]
  by_cases h : ogood a = true ∧ 1 ≤ m ∧ m ≤ a.length
  · have e : tfst a m = (bs (msk a (seg 0 (m - 1).toNat)), true) := by unfold tfst; rw [if_pos h]
    rw [e]
    exact Ev.pos (by first | rfl | trivial) (ot_l2 a m h y49 y50 y53 y54 y55 y56 h5 a.length 0 (by omega))
  · have e : tfst a m = (bs [], false) := by unfold tfst; rw [if_neg h]
    rw [e]
    exact Ev.neg (show ¬ (false = true) by decide) h5
theorem ot_l1 (a : List UInt8) (f t : Int) (h : ogood a = true ∧ (0 ≤ f ∧ f ≤ (a.length : Int) - 1) ∧ f ≤ t ∧ t ≤ (a.length : Int) - 1) (y43 : ByteArray) (y44 : Int) (y45 : ByteArray) (y46 : Bool) (y49 : ByteArray) (y50 : Bool) (y53 : ByteArray) (y54 : List (List Int)) (y55 : ByteArray) (y56 : Bool) (h3 : Ev (fun k => laws_FnOrdersTurn.j3 k y43 y44 y45 y46 y49 y50 y53 y54 y55 y56) true) : ∀ (d i : Nat), i + d = a.length →
    Ev (fun k => laws_FnOrdersTurn.l1 k (bs a) f t (bs (msk a (seg f.toNat t.toNat))) y43 y44 y45 y46 y49 y50 y53 y54 y55 y56 (i : Int) (bs a)) true := by
  obtain ⟨g1, g2, g3⟩ := ogood_all h.1
  have z1 := bs_size a
  have z2 := bs_size (msk a (seg f.toNat t.toNat))
  rw [msk_len] at z2
  intro d
  induction d with
  | zero =>
    intro i hi
    refine Ev.succ ?_
    simp only [laws_FnOrdersTurn.l1]
    exact Ev.neg (by omega) h3
  | succ d ih =>
    intro i hi
    have hbt : bt (bs a) (i : Int) < 128 := by
      rw [bs_bt a i (by omega)]; exact sgn_lt (all_get g1 _)
    have := ih (i + 1) (by omega)
    rw [show ((i + 1 : Nat) : Int) = (i : Int) + 1 by omega] at this
    refine Ev.succ ?_
    simp only [laws_FnOrdersTurn.l1]
    rw [bt_mskb g1 _ (show i < a.length by omega)]
    refine Ev.pos (by omega) (Ev.pos (by omega) (Ev.pos hbt (Ev.pos (by omega) (Ev.pos (by omega) (Ev.iff (fun c => Ev.neg ?_ this) (fun c => Ev.neg ?_ this))))))
    · have e : seg f.toNat t.toNat i = decide ((i : Int) ≤ t) := by unfold seg; exact decide_eq_decide.2 (by omega)
      rw [e]; simp
    · have e : seg f.toNat t.toNat i = false := by unfold seg; exact decide_eq_false (by omega)
      rw [e]; decide
theorem ot_j1 (code : List Int) (hc : ∀ x ∈ code, 0 ≤ x ∧ x ≤ 255) : Ev (fun k => laws_FnOrdersTurn.j1 k code) true := by
  obtain ⟨a, f, t, d1, ha⟩ := drawTR_ok code hc
  obtain ⟨b, m, d2, hb⟩ := drawTF_ok code hc
  obtain ⟨c, l, d3, hcl, hl⟩ := drawPR_ok code hc
  obtain ⟨n, d4⟩ := drawMR_ok code hc
  have h7 := ot_j7 c l (by omega)
  have h5 := ot_j5 b m _ _ _ _ h7
  have h3 := ot_j3 b m _ _ _ _ _ _ h5
  refine Ev.succ ?_
  simp only [laws_FnOrdersTurn.j1, d4, Option.bind_some, imMR_eq, spMR_eq]
  refine Ev.bind d1 ?_
  simp only [imTR_eq a f t (by omega), Option.bind_some]
  refine Ev.bind (spTR_ev a f t (by omega)) (Ev.bind d2 ?_)
  simp only [imTF_eq b m (by omega), imTA_eq b m (by omega), Option.bind_some]
  refine Ev.bind (spTF_ev b m (by omega)) (Ev.bind (spTA_ev b m (by omega)) (Ev.bind d3 (Ev.bind (imPlayR_ev c l (by omega) (by omega)) (Ev.bind (spPlayR_ev c l (by omega) (by omega)) ?_))))
  simp only [bne_self_eq_false, Bool.false_eq_true, if_false, if_true]
  by_cases h : ogood a = true ∧ (0 ≤ f ∧ f ≤ (a.length : Int) - 1) ∧ f ≤ t ∧ t ≤ (a.length : Int) - 1
  · have e : trun a f t = (bs (msk a (seg f.toNat t.toNat)), true) := by unfold trun; rw [if_pos h]
    rw [e]
    exact Ev.pos (by first | rfl | trivial) (ot_l1 a f t h _ _ _ _ _ _ _ _ _ _ h3 a.length 0 (by omega))
  · have e : trun a f t = (bs [], false) := by unfold trun; rw [if_neg h]
    rw [e]
    exact Ev.neg (show ¬ (false = true) by decide) h3
theorem ot_l0 (more : List Int) (h1 : Ev (fun k => laws_FnOrdersTurn.j1 k more) true) (a b : List UInt8) (h : otwo a b = true) : ∀ (d i : Nat) (E : Nat → Bool), i + d = (ffs a.length (dif a b)).length → (∀ j, (E j ^^ px ((ffs a.length (dif a b)).drop i) j) = px (ffs a.length (dif a b)) j) →
    Ev (fun k => laws_FnOrdersTurn.l0 k more (bs a) (bs b) (sta (dif a b) a.length : Int) (bs (msk a E)) (ffs a.length (dif a b)) ((ffs a.length (dif a b)).length : Int) (i : Int)) true := by
  obtain ⟨k1, k2, k3⟩ := otwo_all h
  obtain ⟨g1, g2, g3⟩ := ogood_all k1
  obtain ⟨b1, b2, b3⟩ := ogood_all k2
  have hs := sta_le (dif a b) a.length
  have hff := lst_len (chg a.length (dif a b)) a.length 1
  have hfl : (ffs a.length (dif a b)).length ≤ a.length := hff
  have hmem := ffs_mem a.length (dif a b)
  have hpx := px_all a.length (dif a b)
  generalize hF : ffs a.length (dif a b) = F at hfl hmem hpx
  intro d
  induction d with
  | zero =>
    intro i E hi hE
    rw [List.drop_of_length_le (by omega)] at hE
    have e : msk a E = b := by
      have e1 : msk a E = msk a (dif b a) := msk_congr (fun j hj => by
        have := hE j
        simp only [px, Bool.xor_false] at this
        rw [this, hpx j hj, dif_comm])
      rw [e1]; exact msk_dif b1 g1 k3.symm
    refine Ev.succ ?_
    simp only [laws_FnOrdersTurn.l0]
    refine Ev.neg (by omega) (Ev.pos (by rw [e]) ?_)
    rw [bs_size]
    refine Ev.iff (fun c => ?_) (fun _ => h1)
    rw [show ((a.length : Int) / 2) = ((a.length / 2 : Nat) : Int) by omega, wrap64_id (x := ((a.length / 2 : Nat) : Int)) (by omega) (by omega), imTR_eq a 0 _ (by omega)]
    simp only [Option.bind_some]
    have et : trun a 0 ((a.length / 2 : Nat) : Int) = (bs (msk a (seg 0 (a.length / 2))), true) := by
      unfold trun
      rw [if_pos ⟨k1, by omega, by omega, by omega⟩, Int.toNat_natCast]; rfl
    rw [et]
    refine Ev.bind (imFewest_ev (msk a (seg 0 (a.length / 2))) b (by rw [msk_len]; omega) (by omega)) ?_
    have h2 : otwo (msk a (seg 0 (a.length / 2))) b = true := by
      unfold otwo
      rw [ogood_msk k1, k2, msk_len, decide_eq_true k3]; rfl
    have er : rto (msk a (seg 0 (a.length / 2))) b = (rro (rns (dif (msk a (seg 0 (a.length / 2))) b) a.length), true) := by
      unfold rto; rw [if_pos h2, msk_len]
    rw [er]
    have el : (rro (rns (dif (msk a (seg 0 (a.length / 2))) b) a.length)).length = sta (fun j => dif a b j ^^ seg 0 (a.length / 2) j) a.length := by
      rw [rro_len, (rns_inv _ _).2.2.1]
      exact sta_congr _ (fun j hj => dif_msk g1 b1 k3 _ j hj)
    simp only [el]
    have n1 := sta_near (dif a b) a.length (a.length / 2) (by omega)
    have n2 := sta_near2 (dif a b) a.length (a.length / 2) (by omega)
    rw [wrap64_id (x := (sta (dif a b) a.length : Int) - 1) (by omega) (by omega), wrap64_id (x := (sta (dif a b) a.length : Int) + 1) (by omega) (by omega)]
    exact Ev.pos (by first | rfl | trivial) (Ev.pos (by first | rfl | trivial) (Ev.neg (by omega) (Ev.neg (by omega) h1)))
  | succ d ih =>
    intro i E hi hE
    have hlt : i < F.length := by omega
    have hm := hmem _ (rd_mem hlt)
    rw [rd_cons_drop hlt] at hE
    refine Ev.succ ?_
    simp only [laws_FnOrdersTurn.l0]
    rw [imTF_eq _ _ (by rw [msk_len]; omega), show (i : Int) + 1 = ((i + 1 : Nat) : Int) by omega, wrap64_id (x := ((i + 1 : Nat) : Int)) (by omega) (by omega)]
    simp only [Option.bind_some]
    generalize rd F (i : Int) = x at hm hE
    have e : tfst (msk a E) x = (bs (msk a (fun j => E j ^^ seg 0 (x - 1).toNat j)), true) := by
      unfold tfst
      rw [msk_len, if_pos ⟨ogood_msk k1 E, hm.1, hm.2⟩, msk_msk g1]
    rw [e]
    have := ih (i + 1) (fun j => E j ^^ seg 0 (x - 1).toNat j) (by omega) (fun j => by
      have h2 := hE j
      simp only [px] at h2
      have e2 : seg 0 (x - 1).toNat j = decide ((j : Int) < x) := by unfold seg; exact decide_eq_decide.2 (by omega)
      rw [← h2, e2, Bool.xor_assoc])
    exact Ev.pos (by omega) (Ev.pos (by omega) (Ev.pos (by omega) (Ev.pos (by first | rfl | trivial) this)))
theorem FnOrdersTurn : StatFnOrdersTurn := by
  intro code more hl0 hc hl1 hm
  refine Ev.get ?_
  unfold laws_FnOrdersTurn.f laws_big.f
  obtain ⟨a, b, d0, ha, hb⟩ := drawOT_rows code hc
  have h1 := ot_j1 more hm
  by_cases hbig : (code.length : Int) > 1048576
  · simp only [if_pos hbig, Option.bind_some]
    exact Ev.pos (by first | rfl | trivial) (Ev.now _)
  simp only [if_neg hbig, Option.bind_some]
  refine Ev.iff (fun _ => Ev.now _) (fun _ => ?_)
  have hr1 : (rto a b).1.length ≤ 1000000 := by
    unfold rto
    split
    · have := sta_le (dif a b) a.length
      simp only [rro_len, (rns_inv _ _).2.2.1]; omega
    · simp
  have hr2 : ∀ r ∈ (rto a b).1, r.length ≤ 1000000 := by
    unfold rto
    split
    · intro r hr
      simp only [rro, List.mem_map] at hr
      obtain ⟨p, _, rfl⟩ := hr
      simp
    · intro r hr; simp at hr
  have hf1 : (fto a b).1.length ≤ 1000000 := by
    unfold fto
    split
    · have := lst_len (chg a.length (dif a b)) a.length 1
      show (ffs a.length (dif a b)).length ≤ _
      unfold ffs; omega
    · simp
  refine Ev.bind d0 (Ev.bind (imRunsTo_ev a b (by omega) (by omega)) (Ev.bind (spRunsTo_ev a b (by omega) (by omega)) (Ev.bind (imFewest_ev a b (by omega) (by omega)) (Ev.bind (spFewest_ev a b (by omega) (by omega)) (Ev.bind (imFirstsTo_ev a b (by omega) (by omega)) (Ev.bind (spFirstsTo_ev a b (by omega) (by omega)) (Ev.bind (imFewestF_ev a b (by omega) (by omega)) (Ev.bind (spFewestF_ev a b (by omega) (by omega)) ?_))))))))
  have h2 : (fto a b).2 = (rto a b).2 := by unfold fto rto; split <;> rfl
  rw [h2]
  simp only [bne_self_eq_false, Bool.false_eq_true, if_false, if_true]
  refine Ev.bind (mRows_ev _ hr1 hr2) (Ev.pos (by first | rfl | trivial) (Ev.bind (mSame_ev _ hf1) (Ev.pos (by first | rfl | trivial) ?_)))
  by_cases h : otwo a b = true
  · obtain ⟨k1, k2, k3⟩ := otwo_all h
    obtain ⟨g1, g2, g3⟩ := ogood_all k1
    obtain ⟨b1, b2, b3⟩ := ogood_all k2
    have e1 : rto a b = (rro (rns (dif a b) a.length), true) := by unfold rto; rw [if_pos h]
    have e2 : fto a b = (ffs a.length (dif a b), true) := by unfold fto; rw [if_pos h]
    have el : (rro (rns (dif a b) a.length)).length = sta (dif a b) a.length := by rw [rro_len, (rns_inv _ _).2.2.1]
    have hs := sta_le (dif a b) a.length
    have hm2 := sta_most (dif a b) a.length
    have hf2 := ffs_two a.length (dif a b) g2
    have hrise : (ffs a.length (dif a b)).Pairwise (· < ·) := lst_rise _ _ _
    have hl := ot_l0 more h1 a b h (ffs a.length (dif a b)).length 0 (fun _ => false) (by omega) (fun j => by rw [List.drop_zero, Bool.false_xor])
    rw [msk_zero (fun _ _ => rfl)] at hl
    rw [e2] at hf1
    rw [e1, e2]
    refine Ev.pos (by first | rfl | trivial) (Ev.bind (imPlayR_ev a _ (by omega) (by rw [el]; omega)) ?_)
    have ep : prn a (rro (rns (dif a b) a.length)) = (bs b, true) := by
      unfold prn
      rw [if_pos ⟨k1, by rw [el]; omega, rok_rns _ _⟩]
      congr 2
      have e3 : msk a (srw (rro (rns (dif a b) a.length))) = msk a (dif b a) := msk_congr (fun j hj => by
        rw [srw_rro, (rns_inv _ _).2.2.2, decide_eq_true hj, Bool.true_and, dif_comm])
      rw [e3]; exact msk_dif b1 g1 k3.symm
    rw [ep, imMR_eq, bs_size]
    simp only [Option.bind_some]
    have em : most (a.length : Int) = (((a.length : Int) + 1) / 2, true) := by unfold most; rw [if_pos (by omega)]
    rw [em]
    simp only [el]
    rw [wrap64_id (x := 2 * (sta (dif a b) a.length : Int)) (by omega) (by omega)]
    simp only [if_true]
    refine Ev.neg (by omega) ?_
    exact Ev.bind (mRises_ev _ hf1 hrise) (Ev.pos (by first | rfl | trivial) (Ev.neg (by omega) (Ev.neg (by omega) hl)))
  · have e1 : rto a b = ([], false) := by unfold rto; rw [if_neg h]
    rw [e1]
    exact Ev.neg (show ¬ (false = true) by decide) h1

end Go.Proofs.YteoklfgmdcofcaaDoor.Pure
