/- The law FnOrdersReach, pure: what the printed functions answer, and that it is what the law asks. No condition. -/
import Derived.Test.YtnkklkpbchffkaaGreatDoorStatFnOrdersReach
import Derived.Test.YtnkklkpbchffkaaGreatDoorPlBase
import Derived.Test.YtnkklkpbchffkaaGreatDoorPlList
import Derived.Test.YtnkklkpbchffkaaGreatDoorPlClue
import Derived.Test.YtnkklkpbchffkaaGreatDoorPlBytes
import Derived.Test.YtnkklkpbchffkaaGreatDoorPlTick
import Derived.Test.YtnkklkpbchffkaaGreatDoorPlRow
import Derived.Test.YtnkklkpbchffkaaGreatDoorPlVal
import Derived.Test.YtnkklkpbchffkaaGreatDoorPlMk
import Derived.Test.YtnkklkpbchffkaaGreatDoorPlOrd
namespace Go.Proofs.YtnkklkpbchffkaaGreatDoor.Pure
open Go.RowKit Go.Proofs.YtnkklkpbchffkaaGreatDoor.PFnOrdersReach Go.Proofs.YtnkklkpbchffkaaGreatDoorW.PrintWords Go.Proofs.YtnkklkpbchffkaaGreatDoorW.PrintMore Go.Proofs.YtnkklkpbchffkaaGreatDoor.Opn Go.Proofs.YtnkklkpbchffkaaGreatDoor.Pl
set_option linter.unusedVariables false
set_option linter.unusedSimpArgs false
theorem in_eq (a b c : Int) : impl_in.f a b c = some (decide (b ≤ a ∧ a ≤ c)) := by
  unfold impl_in.f; by_cases h : b ≤ a <;> simp [h]
theorem l1In_eq (a b c : Int) : spec_l1In.f a b c = some (decide (b ≤ a ∧ a ≤ c)) := by
  unfold spec_l1In.f; by_cases h : b ≤ a <;> simp [h]
theorem l1Least_eq (a b : Int) : spec_l1Least.f a b = some (mn a b) := by
  unfold spec_l1Least.f mn
  split <;> split <;> congr 1 <;> omega
theorem l1Most_eq (a b : Int) : spec_l1Most.f a b = some (mx a b) := by
  unfold spec_l1Most.f mx
  split <;> split <;> congr 1 <;> omega
theorem low8 (y : Int) : 0 ≤ wrap64 (Go.bits .and .u64 ((IntKind.u64.wrap y) / 1099511627776) 255) ∧ wrap64 (Go.bits .and .u64 ((IntKind.u64.wrap y) / 1099511627776) 255) ≤ 255 := by
  have hw : IntKind.u64.wrap y = y % 18446744073709551616 := by simp [IntKind.wrap, IntKind.bits, IntKind.signed]
  rw [hw]
  have hx0 : 0 ≤ y % 18446744073709551616 / 1099511627776 := by omega
  have hx1 : y % 18446744073709551616 / 1099511627776 < 2 ^ 24 := by omega
  have hm := bits_mask .u64 24 (by decide) (fun n h0 h1 => by simp [IntKind.wrap, IntKind.bits, IntKind.signed]; omega) 8 (by decide) _ hx0 hx1
  have e : (2 : Int) ^ 8 - 1 = 255 := by decide
  simp only [e] at hm
  rw [hm, wrap64_id (by omega) (by omega)]
  omega
theorem next_ok (code : List Int) (hc : ∀ x ∈ code, 0 ≤ x ∧ x ≤ 255) (p s : Int) (h0 : 0 ≤ p) (h1 : p ≤ 1000000) : ∃ v s', spec_l1Cur_next.f code p s = some (v, p + 1, s') ∧ 0 ≤ v ∧ v ≤ 255 := by
  unfold spec_l1Cur_next.f
  rw [wrap64_id (x := p + 1) (by omega) (by omega)]
  by_cases c1 : p < (code.length : Int)
  · have hm := hc _ (rd_mem (l := code) (j := p.toNat) (by omega))
    rw [show ((p.toNat : Nat) : Int) = p by omega] at hm
    rw [if_pos c1, if_pos h0, wrap64_id (x := rd code p) (by omega) (by omega)]
    by_cases c2 : p + 1 ≤ (code.length : Int)
    · rw [if_pos c2]; exact ⟨_, _, rfl, hm.1, hm.2⟩
    · rw [if_neg c2]; exact ⟨_, _, rfl, (low8 _).1, (low8 _).2⟩
  · rw [if_neg c1]
    by_cases c2 : p + 1 ≤ (code.length : Int)
    · rw [if_pos c2]; exact ⟨_, _, rfl, by omega, by omega⟩
    · rw [if_neg c2]; exact ⟨_, _, rfl, (low8 _).1, (low8 _).2⟩
theorem pick_ok (code : List Int) (hc : ∀ x ∈ code, 0 ≤ x ∧ x ≤ 255) (p s n : Int) (h0 : 0 ≤ p) (h1 : p ≤ 999990) : ∃ v p' s', spec_l1Cur_pick.f code p s n = some (v, p', s') ∧ 0 ≤ v ∧ (v < n ∨ v = 0) ∧ p ≤ p' ∧ p' ≤ p + 2 := by
  unfold spec_l1Cur_pick.f
  by_cases c1 : n ≤ 1
  · rw [if_pos c1]; exact ⟨0, p, s, rfl, by omega, .inr rfl, by omega, by omega⟩
  · rw [if_neg c1]
    obtain ⟨v, s1, e1, v0, v1⟩ := next_ok code hc p s h0 (by omega)
    rw [e1]
    simp only [Option.bind_some]
    by_cases c2 : n > 200
    · rw [if_pos c2]
      obtain ⟨u, s2, e2, u0, u1⟩ := next_ok code hc (p + 1) s1 (by omega) (by omega)
      rw [e2]
      simp only [Option.bind_some]
      rw [if_neg (show ¬ n = 0 by omega), wrap64_id (x := v * 256) (by omega) (by omega), wrap64_id (x := v * 256 + u) (by omega) (by omega), tmod_nn (by omega)]
      exact ⟨_, _, _, rfl, Int.emod_nonneg _ (by omega), .inl (Int.emod_lt_of_pos _ (by omega)), by omega, by omega⟩
    · rw [if_neg c2, if_neg (show ¬ n = 0 by omega), tmod_nn (by omega)]
      exact ⟨_, _, _, rfl, Int.emod_nonneg _ (by omega), .inl (Int.emod_lt_of_pos _ (by omega)), by omega, by omega⟩
theorem among_ok (code : List Int) (hc : ∀ x ∈ code, 0 ≤ x ∧ x ≤ 255) (p s : Int) (l : List Int) (hl : 0 < l.length) (h0 : 0 ≤ p) (h1 : p ≤ 999990) : ∃ v p' s', spec_l1Cur_among.f code p s l = some (v, p', s') ∧ v ∈ l ∧ p ≤ p' ∧ p' ≤ p + 2 := by
  unfold spec_l1Cur_among.f
  obtain ⟨v, p', s', e, v0, v1, q0, q1⟩ := pick_ok code hc p s (l.length : Int) h0 h1
  rw [e]
  simp only [Option.bind_some]
  have hv : v < (l.length : Int) := by omega
  rw [if_pos v0, if_pos hv]
  have := rd_mem (l := l) (j := v.toNat) (by omega)
  rw [show ((v.toNat : Nat) : Int) = v by omega] at this
  exact ⟨_, _, _, rfl, this, q0, q1⟩
theorem one_ok (code : List Int) (hc : ∀ x ∈ code, 0 ≤ x ∧ x ≤ 255) (p s n : Int) (h0 : 0 ≤ p) (h1 : p ≤ 999990) : ∃ v p' s', spec_l1Cur_one.f code p s n = some (v, p', s') ∧ p ≤ p' ∧ p' ≤ p + 2 := by
  unfold spec_l1Cur_one.f
  obtain ⟨v, p', s', e, _, _, q0, q1⟩ := pick_ok code hc p s n h0 h1
  rw [e]
  exact ⟨_, _, _, rfl, q0, q1⟩
theorem rwGood_loop (s : ByteArray) (hs : s.size ≤ 140737488351232) : ∀ (d i : Nat), i + d = (L s).length → Ev (fun k => spec_rwGood.l0 k s (i : Int)) (((L s).drop i).all sgn) := by
  have hl := size_L s
  intro d
  induction d with
  | zero =>
    intro i hi
    refine Ev.succ ?_
    simp only [spec_rwGood.l0]
    refine Ev.neg (by omega) (Ev.const ?_)
    rw [List.drop_of_length_le (by omega)]; rfl
  | succ d ih =>
    intro i hi
    have hlt : i < (L s).length := by omega
    refine Ev.succ ?_
    simp only [spec_rwGood.l0]
    rw [List.drop_eq_getElem_cons hlt, List.all_cons, wrap64_id (x := (i : Int) + 1) (by omega) (by omega)]
    refine Ev.pos (by omega) (Ev.pos (by omega) ?_)
    refine Ev.iff (fun hc => ?_) (fun hc => Ev.iff (fun hd => ?_) (fun hd => ?_))
    · rw [bt60 s i hlt] at hc
      rw [hc]; exact ih (i + 1) (by omega)
    · rw [bt62 s i hlt] at hd
      rw [hd]; exact ih (i + 1) (by omega)
    · rw [bt60 s i hlt] at hc
      rw [bt62 s i hlt] at hd
      have e : sgn (L s)[i] = false := by unfold sgn; rw [beq_eq_false_iff_ne.2 hc, beq_eq_false_iff_ne.2 hd]; rfl
      rw [e]; exact Ev.now _
theorem rwGood_ev (s : ByteArray) (hs : s.size ≤ 140737488351232) : Ev (fun k => spec_rwGood.f k s) (rgood (L s)) := by
  have hl := size_L s
  unfold spec_rwGood.f rgood
  simp only [l1In_eq, Option.bind_some]
  refine Ev.iff (fun hc => ?_) (fun hc => ?_)
  · rw [decide_eq_true_eq] at hc
    rw [decide_eq_true (by omega), Bool.true_and]
    have := rwGood_loop s hs (L s).length 0 (by omega)
    rw [List.drop_zero] at this
    exact this
  · rw [decide_eq_true_eq] at hc
    rw [decide_eq_false (by omega), Bool.false_and]
    exact Ev.now _
theorem isRow_eq (s : ByteArray) (hs : s.size ≤ 140737488351232) : impl_isRow.f s = some (rgood (L s)) := by
  have hl := size_L s
  unfold impl_isRow.f rgood strings_Trim.f
  simp only [in_eq, Option.bind_some]
  by_cases h : 1 ≤ (L s).length ∧ (L s).length ≤ 60
  · rw [if_pos (by rw [decide_eq_true_eq]; omega), if_pos ⟨by omega, by decide, by decide⟩, decide_eq_true h, Bool.true_and, Option.bind_some, toList_L, L_mk]
    congr 1
    by_cases ha : (L s).all sgn = true
    · rw [ha]
      exact beq_iff_eq.2 ((trim_sgn (L s)).2 ha)
    · rw [Bool.not_eq_true] at ha
      rw [ha, beq_eq_false_iff_ne]
      intro e
      have := (trim_sgn (L s)).1 e
      rw [ha] at this
      exact absurd this (by decide)
  · rw [if_neg (by rw [decide_eq_true_eq]; omega), decide_eq_false h, Bool.false_and]
def ogood (l : List UInt8) : Bool := rgood l && decide (l.length ≤ 40)
theorem le40 (s : ByteArray) : decide (((L s).length : Int) ≤ 40) = decide ((L s).length ≤ 40) := decide_eq_decide.2 (by omega)
theorem odGood_ev (s : ByteArray) (hs : s.size ≤ 140737488351232) : Ev (fun k => spec_odGood.f k s) (ogood (L s)) := by
  unfold spec_odGood.f ogood
  refine Ev.bind (rwGood_ev s hs) ?_
  rw [isize_L, le40 s]
  cases rgood (L s) <;> exact Ev.const rfl
theorem odTwo_ev (s t : ByteArray) (hs : s.size ≤ 140737488351232) (ht : t.size ≤ 140737488351232) : Ev (fun k => spec_odTwo.f k s t) (ogood (L s) && (ogood (L t) && decide ((L s).length = (L t).length))) := by
  unfold spec_odTwo.f
  refine Ev.bind (odGood_ev s hs) ?_
  rw [isize_L, isize_L]
  refine Ev.iff (fun hc => ?_) (fun hc => ?_)
  · rw [hc, Bool.true_and]
    refine Ev.bind (odGood_ev t ht) ?_
    refine Ev.iff (fun hd => ?_) (fun hd => ?_)
    · rw [hd, Bool.true_and]
      refine Ev.const ?_
      congr 1
      by_cases e : (L s).length = (L t).length
      · simp [e]
      · rw [decide_eq_false e, beq_eq_false_iff_ne]; omega
    · rw [Bool.not_eq_true] at hd; rw [hd, Bool.false_and]; exact Ev.now _
  · rw [Bool.not_eq_true] at hc; rw [hc, Bool.false_and]; exact Ev.now _
theorem isOrdered_eq (s : ByteArray) (hs : s.size ≤ 140737488351232) : impl_isOrdered.f s = some (ogood (L s)) := by
  unfold impl_isOrdered.f ogood
  rw [isRow_eq s hs, Option.bind_some, isize_L, le40 s]
  cases rgood (L s) <;> rfl
theorem areOrdered_eq (s t : ByteArray) (hs : s.size ≤ 140737488351232) (ht : t.size ≤ 140737488351232) : impl_areOrdered.f s t = some (ogood (L s) && (ogood (L t) && decide ((L s).length = (L t).length))) := by
  unfold impl_areOrdered.f
  rw [isOrdered_eq s hs, isOrdered_eq t ht, isize_L, isize_L]
  simp only [Option.bind_some]
  have e : (((L s).length : Int) == ((L t).length : Int)) = decide ((L s).length = (L t).length) := by
    by_cases e : (L s).length = (L t).length
    · simp [e]
    · rw [decide_eq_false e, beq_eq_false_iff_ne]; omega
  rw [e]
  cases ogood (L s) <;> cases ogood (L t) <;> simp
theorem rwMake_loop : ∀ (j m : Nat) (o : List UInt8), j + o.length ≤ 1000 → m < 4611686018427387904 → Ev (fun k => spec_rwMake.l0 k (j : Int) (m : Int) (up o)) (up (mk j m ++ o)) := by
  intro j
  induction j with
  | zero =>
    intro m o h hm
    refine Ev.succ ?_
    simp only [spec_rwMake.l0]
    exact Ev.neg (by omega) (Ev.now _)
  | succ j ih =>
    intro m o h hm
    have hs := up_size o
    refine Ev.succ ?_
    simp only [spec_rwMake.l0]
    rw [tmod_nn (by omega), tdiv_nn (by omega), show ((j + 1 : Nat) : Int) - 1 = (j : Int) by omega, wrap64_id (x := (j : Int)) (by omega) (by omega), wrap64_id (x := (m : Int) / 2) (by omega) (by omega), show (m : Int) / 2 = ((m / 2 : Nat) : Int) by omega]
    have e62 : (⟨#[62]⟩ : ByteArray) ++ up o = up (62 :: o) := up_app [62] o
    have e60 : (⟨#[60]⟩ : ByteArray) ++ up o = up (60 :: o) := up_app [60] o
    rw [e62, e60, mk, List.append_assoc]
    refine Ev.pos (by omega) (Ev.iff (fun hc => ?_) (fun hc => ?_))
    · have e : sgnOf (m % 2) = 62 := by unfold sgnOf; rw [if_pos (by omega)]
      rw [e]
      exact Ev.pos (by omega) (ih (m / 2) (62 :: o) (by simp; omega) (by omega))
    · have e : sgnOf (m % 2) = 60 := by unfold sgnOf; rw [if_neg (by omega)]
      rw [e]
      exact Ev.pos (by omega) (ih (m / 2) (60 :: o) (by simp; omega) (by omega))
theorem rwMake_ev (n m : Nat) (hn : n ≤ 60) (hm : m < 4611686018427387904) : Ev (fun k => spec_rwMake.f k (n : Int) (m : Int)) (up (mk n m)) := by
  unfold spec_rwMake.f
  have := rwMake_loop n m [] (by simp; omega) hm
  rw [List.append_nil] at this
  exact this
theorem rdS_mem {l : List ByteArray} {j : Int} (h0 : 0 ≤ j) (h : j < l.length) : rdOf ByteArray.empty l j ∈ l := by
  have h' : j.toNat < l.length := by omega
  simp [rdOf, h']
theorem of_ok (code : List Int) (hc : ∀ x ∈ code, 0 ≤ x ∧ x ≤ 255) (p s : Int) (l : List ByteArray) (hl : 0 < l.length) (h0 : 0 ≤ p) (h1 : p ≤ 999990) : ∃ v p' s', spec_l1Cur_of.f code p s l = some (v, p', s') ∧ v ∈ l ∧ p ≤ p' ∧ p' ≤ p + 2 := by
  unfold spec_l1Cur_of.f
  obtain ⟨v, p', s', e, v0, v1, q0, q1⟩ := pick_ok code hc p s (l.length : Int) h0 h1
  rw [e]
  simp only [Option.bind_some]
  have hv : v < (l.length : Int) := by omega
  rw [if_pos v0, if_pos hv]
  exact ⟨_, _, _, rfl, rdS_mem v0 hv, q0, q1⟩
theorem rwOther_eq (b : UInt8) (h : sgn b = true) : spec_rwOther.f (b.toNat : Int) = some (bs [flp b]) := by
  unfold spec_rwOther.f
  rcases sgn_is h with rfl | rfl <;> rfl
theorem win_add (i d j : Nat) : (seg i i j ^^ decide (i + 1 ≤ j ∧ j < i + 1 + d)) = decide (i ≤ j ∧ j < i + (d + 1)) := by
  unfold seg
  by_cases c : j = i
  · subst c; rw [decide_eq_true (by omega), decide_eq_false (by omega), decide_eq_true (by omega)]; rfl
  · rw [decide_eq_false (p := i ≤ j ∧ j ≤ i) (by omega), Bool.false_xor]
    exact decide_eq_decide.2 (by omega)
theorem cut_head (l : List UInt8) (i : Nat) : (bs l).extract 0 ((i : Nat) : Int).toNat = bs (l.take i) := by rw [bs_extract]; simp
theorem cut_tail (l : List UInt8) (i : Nat) : (bs l).extract ((i : Nat) : Int).toNat (bs l).size = bs (l.drop i) := by rw [bs_extract, bs_size, Int.toNat_natCast, List.take_of_length_le (by simp)]
theorem cut_mids (l : List UInt8) (i j : Nat) : (bs l).extract ((i : Nat) : Int).toNat ((j : Nat) : Int).toNat = bs ((l.drop i).take (j - i)) := by rw [bs_extract]; simp
theorem odTurn_loop : ∀ (d i : Nat) (l : List UInt8), l.all sgn = true → l.length ≤ 1000 → i + d ≤ l.length →
    Ev (fun k => spec_odTurn.l0 k (bs l) (((i + d : Nat) : Int) - 1) (i : Int)) (bs (msk l (fun j => decide (i ≤ j ∧ j < i + d)))) := by
  intro d
  induction d with
  | zero =>
    intro i l hg hl h
    refine Ev.succ ?_
    simp only [spec_odTurn.l0]
    refine Ev.neg (by omega) (Ev.const ?_)
    rw [msk_zero (fun j _ => decide_eq_false (by omega))]
  | succ d ih =>
    intro i l hg hl h
    have hi : i < l.length := by omega
    have hz := bs_size l
    refine Ev.succ ?_
    simp only [spec_odTurn.l0]
    rw [bs_bt l i hi, rwOther_eq _ (all_get hg hi), show (i : Int) + 1 = ((i + 1 : Nat) : Int) by omega, wrap64_id (x := ((i + 1 : Nat) : Int)) (by omega) (by omega)]
    simp only [Option.bind_some]
    rw [cut_head, cut_tail, bs_append, bs_append, seg_one hi]
    have s1 := bs_size (l.take i)
    have s2 := bs_size [flp l[i]]
    have s3 := bs_size (l.take i ++ [flp l[i]])
    have s4 := bs_size (l.drop (i + 1))
    rw [List.length_take] at s1
    rw [List.length_append, List.length_take] at s3
    rw [List.length_drop] at s4
    simp only [List.length_cons, List.length_nil] at s2 s3
    refine Ev.pos (by omega) (Ev.pos (by omega) (Ev.pos (by omega) (Ev.pos (by omega) (Ev.pos (by omega) (Ev.pos (by omega) (Ev.pos (by omega) (Ev.pos (by omega) ?_)))))))
    have := ih (i + 1) (msk l (seg i i)) (msk_good hg _) (by rw [msk_len]; exact hl) (by rw [msk_len]; omega)
    rw [msk_msk hg, show i + 1 + d = i + (d + 1) by omega] at this
    rw [show (fun j => decide (i ≤ j ∧ j < i + (d + 1))) = (fun j => seg i i j ^^ decide (i + 1 ≤ j ∧ j < i + (d + 1))) from funext fun j => by rw [← win_add, show i + 1 + d = i + (d + 1) by omega]]
    exact this
theorem odTurn_ev (l : List UInt8) (f e : Nat) (hg : l.all sgn = true) (hl : l.length ≤ 1000) (hf : f ≤ e + 1) (he : e < l.length) : Ev (fun k => spec_odTurn.f k (bs l) (f : Int) (e : Int)) (bs (msk l (seg f e))) := by
  unfold spec_odTurn.f
  have := odTurn_loop (e + 1 - f) f l hg hl (by omega)
  rw [show f + (e + 1 - f) = e + 1 by omega, show ((e + 1 : Nat) : Int) - 1 = (e : Int) by omega] at this
  rw [show seg f e = (fun j => decide (f ≤ j ∧ j < e + 1)) from funext fun j => decide_eq_decide.2 (by omega)]
  exact this
theorem turned_eq (l : List UInt8) (hg : l.all sgn = true) (hl : l.length ≤ 1000) : impl_turned.f (bs l) = some (bs (l.map flp)) := by
  unfold impl_turned.f
  have e : (bs l).data.toList = l := L_mk l
  rw [if_pos (by rw [bs_size]; omega), e, map_flp l hg]
theorem turnAll_eq (l : List UInt8) (f e : Nat) (hg : l.all sgn = true) (hl : l.length ≤ 1000) (hf : f ≤ e + 1) (he : e < l.length) : impl_turnAll.f (bs l) (f : Int) (e : Int) = some (bs (msk l (seg f e))) := by
  unfold impl_turnAll.f
  have hz := bs_size l
  have hm : ((l.drop f).take (e + 1 - f)).all sgn = true := by
    rw [List.all_eq_true]; intro x hx
    exact List.all_eq_true.1 hg x (List.mem_of_mem_drop (List.mem_of_mem_take hx))
  rw [show (e : Int) + 1 = ((e + 1 : Nat) : Int) by omega, wrap64_id (x := ((e + 1 : Nat) : Int)) (by omega) (by omega), cut_mids, cut_head, cut_tail, turned_eq _ hm (by simp; omega)]
  simp only [Option.bind_some]
  rw [bs_append, bs_append, ← seg_cut hf he]
  have s1 := bs_size (l.take f)
  have s2 := bs_size (((l.drop f).take (e + 1 - f)).map flp)
  have s3 := bs_size (l.take f ++ ((l.drop f).take (e + 1 - f)).map flp)
  have s4 := bs_size (l.drop (e + 1))
  simp only [List.length_append, List.length_map, List.length_take, List.length_drop] at s1 s2 s3 s4
  rw [if_pos (by omega), if_pos (by omega), if_pos (by omega), if_pos (by omega), if_pos (by omega), if_pos (by omega), if_pos (by omega)]
theorem near_seg {l : List UInt8} {i : Nat} (hi : i < l.length) : msk l (seg (i - 1) (min (i + 1) (l.length - 1))) = msk l (near i) := by
  refine msk_congr (fun j hj => ?_)
  unfold seg near
  exact decide_eq_decide.2 (by omega)
theorem odAround_ev (l : List UInt8) (i : Nat) (hg : l.all sgn = true) (hl : l.length ≤ 1000) (hi : i < l.length) : Ev (fun k => spec_odAround.f k (bs l) (i : Int)) (bs (msk l (near i))) := by
  unfold spec_odAround.f
  have hz := bs_size l
  simp only [l1Most_eq, l1Least_eq, Option.bind_some]
  rw [wrap64_id (x := (i : Int) - 1) (by omega) (by omega), wrap64_id (x := (i : Int) + 1) (by omega) (by omega), wrap64_id (x := ((bs l).size : Int) - 1) (by omega) (by omega)]
  have e1 : mx 0 ((i : Int) - 1) = ((i - 1 : Nat) : Int) := by unfold mx; split <;> omega
  have e2 : mn (((bs l).size : Int) - 1) ((i : Int) + 1) = ((min (i + 1) (l.length - 1) : Nat) : Int) := by unfold mn; split <;> omega
  rw [e1, e2, ← near_seg hi]
  exact Ev.bind (odTurn_ev l _ _ hg hl (by omega) (by omega)) (Ev.now _)
theorem turnAround_eq (l : List UInt8) (i : Nat) (hg : l.all sgn = true) (hl : l.length ≤ 1000) (hi : i < l.length) : impl_turnAround.f (bs l) (i : Int) = some (bs (msk l (near i))) := by
  unfold impl_turnAround.f
  have hz := bs_size l
  rw [wrap64_id (x := (i : Int) - 1) (by omega) (by omega), wrap64_id (x := (i : Int) + 1) (by omega) (by omega), wrap64_id (x := ((bs l).size : Int) - 1) (by omega) (by omega)]
  have e1 : mx ((i : Int) - 1) 0 = ((i - 1 : Nat) : Int) := by unfold mx; split <;> omega
  have e2 : mn ((i : Int) + 1) (((bs l).size : Int) - 1) = ((min (i + 1) (l.length - 1) : Nat) : Int) := by unfold mn; split <;> omega
  rw [e1, e2, turnAll_eq l _ _ hg hl (by omega) (by omega), near_seg hi]
  rfl
/-- A list of n answers. -/
def fl (n : Nat) (E : Nat → Bool) : List Bool := (List.range n).map E
theorem fl_len (n : Nat) (E : Nat → Bool) : (fl n E).length = n := by simp [fl]
theorem fl_get (n : Nat) (E : Nat → Bool) (i : Nat) (h : i < n) : rdOf false (fl n E) (i : Int) = E i := by simp [fl, rdOf, h]
theorem fl_congr {n : Nat} {E F : Nat → Bool} (h : ∀ j, j < n → E j = F j) : fl n E = fl n F := by
  unfold fl
  exact List.map_congr_left (fun j hj => h j (List.mem_range.1 hj))
theorem fl_set (n : Nat) (E : Nat → Bool) (i : Nat) (b : Bool) : (fl n E).set i b = fl n (fun j => if j = i then b else E j) := by
  apply List.ext_getElem (by simp [fl])
  intro j h1 h2
  simp only [fl, List.getElem_set, List.getElem_map, List.getElem_range]
  by_cases c : i = j
  · subst c; simp
  · rw [if_neg c, if_neg (by omega)]
theorem fl_rep (n : Nat) (E : Nat → Bool) (h : ∀ j, j < n → E j = false) : List.replicate n false = fl n E := by
  apply List.ext_getElem (by simp [fl])
  intro j h1 h2
  simp only [fl, List.getElem_replicate, List.getElem_map, List.getElem_range]
  exact (h j (by simpa using h1)).symm
theorem differ_loop (a b : List UInt8) (n : Nat) (ha : a.length = n) (hb : b.length = n) (hn : n ≤ 1000) : ∀ (d i : Nat), i + d = n →
    Ev (fun k => impl_differ.l0 k (bs a) (bs b) (fl n (fun j => decide (j < i) && dif a b j)) (n : Int) (i : Int)) (fl n (dif a b)) := by
  intro d
  induction d with
  | zero =>
    intro i h
    refine Ev.succ ?_
    simp only [impl_differ.l0]
    refine Ev.neg (by omega) (Ev.const ?_)
    rw [fl_congr (F := dif a b) (fun j hj => by rw [decide_eq_true (by omega), Bool.true_and])]
  | succ d ih =>
    intro i h
    have z1 := bs_size a
    have z2 := bs_size b
    have z3 := fl_len n (fun j => decide (j < i) && dif a b j)
    refine Ev.succ ?_
    simp only [impl_differ.l0]
    refine Ev.pos (by omega) (Ev.pos (by omega) (Ev.pos (by omega) (Ev.pos (by omega) (Ev.pos (by omega) ?_))))
    have e : (bt (bs a) (i : Int) != bt (bs b) (i : Int)) = dif a b i := by
      rw [bs_bt a i (by omega), bs_bt b i (by omega), dif_get (by omega) (by omega)]
      by_cases c : a[i] = b[i]
      · rw [c]; simp
      · rw [bne_iff_ne.2 c, bne_iff_ne.2 (fun x => c ((u8_eq _ _).1 x))]
    rw [e, Int.toNat_natCast, fl_set, show (i : Int) + 1 = ((i + 1 : Nat) : Int) by omega, wrap64_id (x := ((i + 1 : Nat) : Int)) (by omega) (by omega)]
    have := ih (i + 1) (by omega)
    rw [fl_congr (F := fun j => if j = i then dif a b i else decide (j < i) && dif a b j)] at this
    · exact this
    · intro j hj
      by_cases c : j = i
      · subst c; rw [if_pos rfl, decide_eq_true (by omega), Bool.true_and]
      · rw [if_neg c]; congr 1; exact decide_eq_decide.2 (by omega)
theorem differ_ev (a b : List UInt8) (h : a.length = b.length) (hn : a.length ≤ 1000) : Ev (fun k => impl_differ.f k (bs a) (bs b)) (fl a.length (dif a b)) := by
  unfold impl_differ.f
  have z1 := bs_size a
  refine Ev.pos (by omega) (Ev.pos (by omega) ?_)
  simp only [Option.bind_some]
  rw [bs_size, Int.toNat_natCast, List.length_replicate, fl_rep a.length (fun j => decide (j < 0) && dif a b j) (fun j _ => by simp)]
  exact differ_loop a b a.length rfl h.symm hn a.length 0 (by omega)
/-- What a walk's end answers. -/
def wend (n : Nat) (acc : List Int) (r : List Int × (Nat → Bool)) : List Int × Bool := if nul n r.2 = true then (acc ++ r.1, true) else ([], false)
/-- The windows that lead through n differences. -/
def wres (n w : Nat) (D : Nat → Bool) : List Int × Bool := wend n [] (wgo w (n + 1 - w) 0 D)
theorem win_cell (E : Nat → Bool) (w i c : Nat) (j : Nat) : (if j = i + c then !(E (i + c) ^^ win c i (i + c)) else E j ^^ win c i j) = (E j ^^ win (c + 1) i j) := by
  unfold win
  by_cases e : j = i + c
  · subst e
    rw [if_pos rfl, decide_eq_false (by omega), decide_eq_true (by omega)]; cases E (i + c) <;> rfl
  · rw [if_neg e]; congr 1; exact decide_eq_decide.2 (by omega)
theorem windowsTo_in (n w i : Nat) (hw : i + w ≤ n) (hn : n ≤ 1000) (E : Nat → Bool) (acc : List Int) (r : List Int × Bool)
    (h : Ev (fun k => impl_windowsTo.l0 k (w : Int) acc (fl n (fun j => E j ^^ win w i j)) (n : Int) ((i + 1 : Nat) : Int)) r) :
    ∀ (d c : Nat), c + d = w → Ev (fun k => impl_windowsTo.l1 k (w : Int) acc (fl n (fun j => E j ^^ win c i j)) (i : Int) (n : Int) (i : Int) (w : Int) (c : Int)) r := by
  intro d
  induction d with
  | zero =>
    intro c hc
    obtain rfl : c = w := by omega
    refine Ev.succ ?_
    simp only [impl_windowsTo.l1]
    rw [show (i : Int) + 1 = ((i + 1 : Nat) : Int) by omega, wrap64_id (x := ((i + 1 : Nat) : Int)) (by omega) (by omega)]
    exact Ev.neg (by omega) h
  | succ d ih =>
    intro c hc
    have z := fl_len n (fun j => E j ^^ win c i j)
    refine Ev.succ ?_
    simp only [impl_windowsTo.l1]
    rw [show (i : Int) + (c : Int) = ((i + c : Nat) : Int) by omega, wrap64_id (x := ((i + c : Nat) : Int)) (by omega) (by omega), show (c : Int) + 1 = ((c + 1 : Nat) : Int) by omega, wrap64_id (x := ((c + 1 : Nat) : Int)) (by omega) (by omega), fl_get n _ (i + c) (by omega), Int.toNat_natCast, fl_set]
    refine Ev.pos (by omega) (Ev.pos (by omega) (Ev.pos (by omega) ?_))
    have := ih (c + 1) (by omega)
    rw [fl_congr (F := fun j => if j = i + c then !(E (i + c) ^^ win c i (i + c)) else E j ^^ win c i j) (fun j _ => (win_cell E w i c j).symm)] at this
    exact this
theorem windowsTo_loop (n w : Nat) (hw : 1 ≤ w) (hwn : w ≤ n) (hn : n ≤ 1000) : ∀ (d i : Nat) (E : Nat → Bool) (acc : List Int), i + d = n → (∀ j, j < i → E j = false) → acc.length ≤ i →
    Ev (fun k => impl_windowsTo.l0 k (w : Int) acc (fl n E) (n : Int) (i : Int)) (wend n acc (wgo w (n + 1 - w - i) i E)) := by
  intro d
  induction d with
  | zero =>
    intro i E acc h hE ha
    refine Ev.succ ?_
    simp only [impl_windowsTo.l0]
    refine Ev.neg (by omega) (Ev.const ?_)
    rw [show n + 1 - w - i = 0 by omega]
    show some (acc, true) = some (if nul n E = true then (acc ++ [], true) else ([], false))
    rw [if_pos ((nul_iff n E).2 (fun j hj => hE j (by omega))), List.append_nil]
  | succ d ih =>
    intro i E acc h hE ha
    have z := fl_len n E
    refine Ev.succ ?_
    simp only [impl_windowsTo.l0]
    rw [fl_get n E i (by omega), show (i : Int) + 1 = ((i + 1 : Nat) : Int) by omega, wrap64_id (x := ((i + 1 : Nat) : Int)) (by omega) (by omega), wrap64_id (x := (i : Int) + (w : Int)) (by omega) (by omega)]
    refine Ev.pos (by omega) (Ev.pos (by omega) (Ev.pos (by omega) (Ev.iff (fun hc => ?_) (fun hc => ?_))))
    · by_cases c : i + w ≤ n
      · refine Ev.neg (by omega) (Ev.pos (by omega) ?_)
        have hE' : ∀ j, j < i + 1 → (E j ^^ win w i j) = false := by
          intro j hj
          by_cases e : j = i
          · subst e; rw [hc]; unfold win; rw [decide_eq_true (by omega)]; rfl
          · rw [hE j (by omega)]; unfold win; rw [decide_eq_false (by omega)]; rfl
        have := ih (i + 1) (fun j => E j ^^ win w i j) (acc ++ [((i : Nat) : Int)]) (by omega) hE' (by simp; omega)
        rw [show n + 1 - w - i = (n + 1 - w - (i + 1)) + 1 by omega, wgo_hit w _ i E hc]
        unfold wend at this ⊢
        rw [List.append_assoc, List.singleton_append] at this
        have t := windowsTo_in n w i (by omega) hn E (acc ++ [((i : Nat) : Int)]) _ this w 0 (by omega)
        rw [fl_congr (F := E) (fun j _ => by unfold win; rw [decide_eq_false (by omega), Bool.xor_false])] at t
        exact t
      · refine Ev.pos (by omega) (Ev.const ?_)
        rw [show n + 1 - w - i = 0 by omega]
        show some ([], false) = some (if nul n E = true then (acc ++ [], true) else ([], false))
        rw [if_neg]
        intro hx
        have := (nul_iff _ _).1 hx i (by omega)
        rw [hc] at this; exact absurd this (by decide)
    · rw [Bool.not_eq_true] at hc
      have := ih (i + 1) E acc (by omega) (fun j hj => by
        by_cases e : j = i
        · subst e; exact hc
        · exact hE j (by omega)) (by omega)
      by_cases c : i + w ≤ n
      · rw [show n + 1 - w - i = (n + 1 - w - (i + 1)) + 1 by omega, wgo_miss w _ i E hc]
        exact this
      · rw [show n + 1 - w - i = 0 by omega]
        rw [show n + 1 - w - (i + 1) = 0 by omega] at this
        exact this
theorem windowsTo_ev (a b : List UInt8) (w : Nat) (h : a.length = b.length) (hn : a.length ≤ 1000) (hw : 1 ≤ w) (hw' : w ≤ a.length) : Ev (fun k => impl_windowsTo.f k (bs a) (bs b) (w : Int)) (wres a.length w (dif a b)) := by
  unfold impl_windowsTo.f
  refine Ev.bind (differ_ev a b h hn) ?_
  rw [fl_len]
  have := windowsTo_loop a.length w hw hw' hn a.length 0 (dif a b) [] (by omega) (fun j hj => by omega) (by simp)
  rw [Nat.sub_zero] at this
  exact this
theorem bt_msk {b : List UInt8} (hb : b.all sgn = true) (E : Nat → Bool) (i : Nat) (hi : i < b.length) : (bt (bs (msk b E)) (i : Int) = bt (bs b) (i : Int)) ↔ E i = false := by
  rw [bs_bt b i hi, bs_bt (msk b E) i (by rw [msk_len]; exact hi), msk_get b E i hi, u8_eq]
  cases E i
  · simp
  · simp only [if_true]; exact ⟨fun x => absurd x (flp_ne (all_get hb hi)), fun x => absurd x (by decide)⟩
theorem msk_beq {b : List UInt8} (hb : b.all sgn = true) (E : Nat → Bool) : ((bs (msk b E)).toList == (bs b).toList) = nul b.length E := by
  rw [bs_toList, bs_toList]
  have := msk_iff hb E
  cases e : nul b.length E
  · rw [beq_eq_false_iff_ne]
    intro x
    have := (nul_iff _ _).2 (this.1 x)
    rw [this] at e; exact absurd e (by decide)
  · rw [this.2 ((nul_iff _ _).1 e)]; simp
theorem odWindows_loop (b : List UInt8) (hb : b.all sgn = true) (w : Nat) (hw : 1 ≤ w) (hwn : w ≤ b.length) (hn : b.length ≤ 1000) : ∀ (d i : Nat) (E : Nat → Bool) (acc : List Int), i + d = b.length + 1 - w → acc.length ≤ i →
    Ev (fun k => spec_odWindows.l0 k (bs (msk b E)) (bs b) (w : Int) acc (i : Int)) (acc ++ (wgo w d i E).1, nul b.length (wgo w d i E).2) := by
  intro d
  induction d with
  | zero =>
    intro i E acc h ha
    have z := bs_size (msk b E)
    rw [msk_len] at z
    refine Ev.succ ?_
    simp only [spec_odWindows.l0]
    rw [wrap64_id (x := (i : Int) + (w : Int)) (by omega) (by omega)]
    refine Ev.neg (by omega) (Ev.const ?_)
    simp only [wgo, List.append_nil]
    rw [msk_beq hb]
  | succ d ih =>
    intro i E acc h ha
    have z := bs_size (msk b E)
    have z2 := bs_size b
    rw [msk_len] at z
    have hi : i < b.length := by omega
    refine Ev.succ ?_
    simp only [spec_odWindows.l0]
    rw [wrap64_id (x := (i : Int) + (w : Int)) (by omega) (by omega), show (i : Int) + 1 = ((i + 1 : Nat) : Int) by omega, wrap64_id (x := ((i + 1 : Nat) : Int)) (by omega) (by omega), wrap64_id (x := (i : Int) + (w : Int) - 1) (by omega) (by omega), show (i : Int) + (w : Int) - 1 = ((i + w - 1 : Nat) : Int) by omega]
    refine Ev.pos (by omega) (Ev.pos (by omega) (Ev.pos (by omega) (Ev.pos (by omega) ?_)))
    cases e : E i
    · rw [wgo_miss w d i E e]
      exact Ev.pos ((bt_msk hb E i hi).2 e) (ih (i + 1) E acc (by omega) (by omega))
    · rw [wgo_hit w d i E e]
      refine Ev.neg (fun x => by rw [(bt_msk hb E i hi).1 x] at e; exact absurd e (by decide)) (Ev.bind (odTurn_ev (msk b E) i (i + w - 1) (msk_good hb _) (by rw [msk_len]; exact hn) (by omega) (by rw [msk_len]; omega)) (Ev.pos (by omega) ?_))
      rw [msk_msk hb, win_seg w i hw]
      have := ih (i + 1) (fun j => E j ^^ win w i j) (acc ++ [((i : Nat) : Int)]) (by omega) (by simp; omega)
      rw [List.append_assoc, List.singleton_append] at this
      exact this
theorem odWindows_ev (a b : List UInt8) (w : Nat) (ha : a.all sgn = true) (hb : b.all sgn = true) (h : a.length = b.length) (hn : b.length ≤ 1000) (hw : 1 ≤ w) (hw' : w ≤ b.length) :
    Ev (fun k => spec_odWindows.f k (bs a) (bs b) (w : Int)) ((wgo w (b.length + 1 - w) 0 (dif a b)).1, nul b.length (wgo w (b.length + 1 - w) 0 (dif a b)).2) := by
  unfold spec_odWindows.f
  have := odWindows_loop b hb w hw hw' hn (b.length + 1 - w) 0 (dif a b) [] (by omega) (by simp)
  rw [msk_dif ha hb h, List.nil_append] at this
  exact this
theorem ogood_all {l : List UInt8} (h : ogood l = true) : l.all sgn = true ∧ 1 ≤ l.length ∧ l.length ≤ 40 := by
  unfold ogood rgood at h
  simp only [Bool.and_eq_true, decide_eq_true_eq] at h
  exact ⟨h.1.2, h.1.1.1, h.2⟩
/-- Two rows as long that are given orders. -/
def otwo (a b : List UInt8) : Bool := ogood a && (ogood b && decide (a.length = b.length))
theorem otwo_all {a b : List UInt8} (h : otwo a b = true) : ogood a = true ∧ ogood b = true ∧ a.length = b.length := by
  unfold otwo at h
  simp only [Bool.and_eq_true, decide_eq_true_eq] at h
  exact h
theorem otwo_comm (a b : List UInt8) : otwo a b = otwo b a := by
  unfold otwo
  cases ogood a <;> cases ogood b <;> simp [eq_comm]
/-- What windows lead to. -/
def wto (a b : List UInt8) (w : Int) : List Int × Bool := if otwo a b = true ∧ 1 ≤ w ∧ w ≤ a.length then wres a.length w.toNat (dif a b) else ([], false)
/-- Whether windows lead. -/
def wcan (a b : List UInt8) (w : Int) : Bool × Bool := if otwo a b = true ∧ 1 ≤ w ∧ w ≤ a.length then ((wres a.length w.toNat (dif a b)).2, true) else (false, false)
theorem areT (a b : List UInt8) (ha : a.length ≤ 1000000) (hb : b.length ≤ 1000000) : impl_areOrdered.f (bs a) (bs b) = some (otwo a b) := by
  have := areOrdered_eq (bs a) (bs b) (by rw [bs_size]; omega) (by rw [bs_size]; omega)
  rw [L_mk, L_mk] at this; exact this
theorem twoT (a b : List UInt8) (ha : a.length ≤ 1000000) (hb : b.length ≤ 1000000) : Ev (fun k => spec_odTwo.f k (bs a) (bs b)) (otwo a b) := by
  have := odTwo_ev (bs a) (bs b) (by rw [bs_size]; omega) (by rw [bs_size]; omega)
  rw [L_mk, L_mk] at this; exact this
theorem wend_two (n : Nat) (r : List Int × (Nat → Bool)) : wend n [] r = if nul n r.2 = true then (r.1, true) else ([], false) := by unfold wend; rw [List.nil_append]
theorem imWindowsTo_ev (a b : List UInt8) (w : Int) (ha : a.length ≤ 1000000) (hb : b.length ≤ 1000000) : Ev (fun k => impl_WindowsTo.f k (bs a) (bs b) w) (wto a b w) := by
  unfold impl_WindowsTo.f wto
  rw [areT a b ha hb, in_eq, bs_size]
  simp only [Option.bind_some]
  refine Ev.iff (fun h => ?_) (fun h => ?_)
  · obtain ⟨h1, h2, h3⟩ := otwo_all h
    obtain ⟨g1, g2, g3⟩ := ogood_all h1
    refine Ev.iff (fun c => ?_) (fun c => ?_)
    · rw [decide_eq_true_eq] at c
      rw [if_pos ⟨h, c.1, c.2⟩]
      have := windowsTo_ev a b w.toNat h3 (by omega) (by omega) (by omega)
      rw [show ((w.toNat : Nat) : Int) = w by omega] at this
      exact Ev.bind this (Ev.now _)
    · rw [decide_eq_true_eq] at c
      rw [if_neg (fun x => c x.2)]; exact Ev.now _
  · rw [if_neg (fun x => h x.1)]; exact Ev.now _
theorem imCanW_ev (a b : List UInt8) (w : Int) (ha : a.length ≤ 1000000) (hb : b.length ≤ 1000000) : Ev (fun k => impl_CanByWindows.f k (bs a) (bs b) w) (wcan a b w) := by
  unfold impl_CanByWindows.f wcan
  rw [areT a b ha hb, in_eq, bs_size]
  simp only [Option.bind_some]
  refine Ev.iff (fun h => ?_) (fun h => ?_)
  · obtain ⟨h1, h2, h3⟩ := otwo_all h
    obtain ⟨g1, g2, g3⟩ := ogood_all h1
    refine Ev.iff (fun c => ?_) (fun c => ?_)
    · rw [decide_eq_true_eq] at c
      rw [if_pos ⟨h, c.1, c.2⟩]
      have := windowsTo_ev a b w.toNat h3 (by omega) (by omega) (by omega)
      rw [show ((w.toNat : Nat) : Int) = w by omega] at this
      exact Ev.bind this (Ev.now _)
    · rw [decide_eq_true_eq] at c
      rw [if_neg (fun x => c x.2)]; exact Ev.now _
  · rw [if_neg (fun x => h x.1)]; exact Ev.now _
theorem odWide_ev (a b : List UInt8) (w : Int) (ha : a.length ≤ 1000000) (hb : b.length ≤ 1000000) : Ev (fun k => spec_odWide.f k (bs a) (bs b) w) (otwo a b && decide (1 ≤ w ∧ w ≤ a.length)) := by
  unfold spec_odWide.f
  refine Ev.bind (twoT a b ha hb) ?_
  rw [l1In_eq, bs_size]
  simp only [Option.bind_some]
  cases otwo a b
  · exact Ev.now _
  · exact Ev.now _
theorem spWindowsTo_ev (a b : List UInt8) (w : Int) (ha : a.length ≤ 1000000) (hb : b.length ≤ 1000000) : Ev (fun k => spec_WindowsTo.f k (bs a) (bs b) w) (wto a b w) := by
  unfold spec_WindowsTo.f wto
  refine Ev.bind (odWide_ev a b w ha hb) (Ev.iff (fun h => ?_) (fun h => ?_))
  · simp only [Bool.and_eq_true, decide_eq_true_eq] at h
    obtain ⟨h1, h2, h3⟩ := otwo_all h.1
    obtain ⟨g1, g2, g3⟩ := ogood_all h1
    obtain ⟨k1, k2, k3⟩ := ogood_all h2
    rw [if_pos ⟨h.1, h.2.1, h.2.2⟩]
    have := odWindows_ev a b w.toNat g1 k1 h3 (by omega) (by omega) (by omega)
    rw [show ((w.toNat : Nat) : Int) = w by omega] at this
    refine Ev.bind this ?_
    unfold wres
    rw [wend_two, h3]
    refine Ev.iff (fun c => ?_) (fun c => ?_)
    · have c' : nul b.length (wgo w.toNat (b.length + 1 - w.toNat) 0 (dif a b)).2 = true := c
      rw [if_pos c']; exact Ev.now _
    · have c' : ¬ nul b.length (wgo w.toNat (b.length + 1 - w.toNat) 0 (dif a b)).2 = true := c
      rw [if_neg c']; exact Ev.now _
  · rw [if_neg (fun x => h (by simp only [Bool.and_eq_true, decide_eq_true_eq]; exact ⟨x.1, x.2⟩))]; exact Ev.now _
theorem spCanW_ev (a b : List UInt8) (w : Int) (ha : a.length ≤ 1000000) (hb : b.length ≤ 1000000) : Ev (fun k => spec_CanByWindows.f k (bs a) (bs b) w) (wcan a b w) := by
  unfold spec_CanByWindows.f wcan
  refine Ev.bind (odWide_ev a b w ha hb) (Ev.iff (fun h => ?_) (fun h => ?_))
  · simp only [Bool.and_eq_true, decide_eq_true_eq] at h
    obtain ⟨h1, h2, h3⟩ := otwo_all h.1
    obtain ⟨g1, g2, g3⟩ := ogood_all h1
    obtain ⟨k1, k2, k3⟩ := ogood_all h2
    rw [if_pos ⟨h.1, h.2.1, h.2.2⟩]
    have := odWindows_ev a b w.toNat g1 k1 h3 (by omega) (by omega) (by omega)
    rw [show ((w.toNat : Nat) : Int) = w by omega] at this
    refine Ev.bind this (Ev.const ?_)
    unfold wres
    rw [wend_two, h3]
    cases c : nul b.length (wgo w.toNat (b.length + 1 - w.toNat) 0 (dif a b)).2 <;> rfl
  · rw [if_neg (fun x => h (by simp only [Bool.and_eq_true, decide_eq_true_eq]; exact ⟨x.1, x.2⟩))]; exact Ev.now _
theorem goodS (a : List UInt8) (ha : a.length ≤ 1000000) : Ev (fun k => spec_odGood.f k (bs a)) (ogood a) := by
  have := odGood_ev (bs a) (by rw [bs_size]; omega)
  rw [L_mk] at this; exact this
theorem goodI (a : List UInt8) (ha : a.length ≤ 1000000) : impl_isOrdered.f (bs a) = some (ogood a) := by
  have := isOrdered_eq (bs a) (by rw [bs_size]; omega)
  rw [L_mk] at this; exact this
theorem l1All_loop (l : List Int) (lo hi : Int) (hl : l.length ≤ 1000000) : ∀ (d i : Nat), i + d = l.length → Ev (fun k => spec_l1All.l0 k lo hi l (l.length : Int) (i : Int)) ((l.drop i).all (fun x => decide (lo ≤ x ∧ x ≤ hi))) := by
  intro d
  induction d with
  | zero =>
    intro i h
    refine Ev.succ ?_
    simp only [spec_l1All.l0]
    rw [List.drop_of_length_le (by omega)]
    exact Ev.neg (by omega) (Ev.now _)
  | succ d ih =>
    intro i h
    refine Ev.succ ?_
    simp only [spec_l1All.l0]
    rw [rd_cons_drop (show i < l.length by omega), List.all_cons, l1In_eq, show (i : Int) + 1 = ((i + 1 : Nat) : Int) by omega, wrap64_id (x := ((i + 1 : Nat) : Int)) (by omega) (by omega)]
    simp only [Option.bind_some]
    refine Ev.pos (by omega) (Ev.pos (by omega) (Ev.pos (by omega) (Ev.iff (fun c => ?_) (fun c => ?_))))
    · rw [c, Bool.true_and]; exact ih (i + 1) (by omega)
    · rw [Bool.not_eq_true] at c; rw [c, Bool.false_and]; exact Ev.now _
theorem l1All_ev (l : List Int) (lo hi : Int) (hl : l.length ≤ 1000000) : Ev (fun k => spec_l1All.f k l lo hi) (l.all (fun x => decide (lo ≤ x ∧ x ≤ hi))) := by
  unfold spec_l1All.f
  have := l1All_loop l lo hi hl l.length 0 (by omega)
  rw [List.drop_zero] at this; exact this
theorem step_pl (w : Nat) (x : Int) (l : List Int) (E : Nat → Bool) : (fun j => (E j ^^ win w x.toNat j) ^^ pl w l j) = (fun j => E j ^^ pl w (x :: l) j) := by
  funext j; simp only [pl, Bool.xor_assoc]
/-- What playing windows answers. -/
def pw (e : List UInt8) (w : Int) (l : List Int) : ByteArray × Bool := if (ogood e = true ∧ 1 ≤ w ∧ w ≤ e.length) ∧ l.length ≤ 100 ∧ l.all (fun x => decide (0 ≤ x ∧ x ≤ e.length - w)) = true then (bs (msk e (pl w.toNat l)), true) else (bs [], false)
theorem imPlayW_loop (e : List UInt8) (he : e.all sgn = true) (hn : e.length ≤ 1000) (w : Nat) (hw : 1 ≤ w) (hw' : w ≤ e.length) (l : List Int) (hl : l.length ≤ 1000000) : ∀ (d i : Nat) (E : Nat → Bool), i + d = l.length →
    Ev (fun k => impl_PlayWindows.l0 k (bs (msk e E)) (w : Int) l (l.length : Int) (i : Int)) (if (l.drop i).all (fun x => decide (0 ≤ x ∧ x ≤ (e.length : Int) - w)) = true then (bs (msk e (fun j => E j ^^ pl w (l.drop i) j)), true) else (bs [], false)) := by
  intro d
  induction d with
  | zero =>
    intro i E h
    refine Ev.succ ?_
    simp only [impl_PlayWindows.l0]
    rw [List.drop_of_length_le (by omega)]
    refine Ev.neg (by omega) (Ev.const ?_)
    rw [if_pos (by rfl)]
    simp [pl]
  | succ d ih =>
    intro i E h
    have z := bs_size (msk e E)
    rw [msk_len] at z
    refine Ev.succ ?_
    simp only [impl_PlayWindows.l0]
    rw [rd_cons_drop (show i < l.length by omega), List.all_cons, in_eq, show (i : Int) + 1 = ((i + 1 : Nat) : Int) by omega, wrap64_id (x := ((i + 1 : Nat) : Int)) (by omega) (by omega), z, wrap64_id (x := (e.length : Int) - (w : Int)) (by omega) (by omega)]
    simp only [Option.bind_some]
    refine Ev.pos (by omega) (Ev.pos (by omega) (Ev.pos (by omega) (Ev.iff (fun c => ?_) (fun c => ?_))))
    · have c' := c
      rw [decide_eq_true_eq] at c'
      rw [c, Bool.true_and]
      generalize rd l (i : Int) = x at c'
      rw [wrap64_id (x := x + (w : Int)) (by omega) (by omega), wrap64_id (x := x + (w : Int) - 1) (by omega) (by omega)]
      have t := turnAll_eq (msk e E) x.toNat (x.toNat + w - 1) (msk_good he _) (by rw [msk_len]; exact hn) (by omega) (by rw [msk_len]; omega)
      rw [show ((x.toNat : Nat) : Int) = x by omega, show ((x.toNat + w - 1 : Nat) : Int) = x + w - 1 by omega, msk_msk he, win_seg w x.toNat hw] at t
      rw [t]
      simp only [Option.bind_some]
      have := ih (i + 1) (fun j => E j ^^ win w x.toNat j) (by omega)
      rw [step_pl] at this
      exact this
    · rw [Bool.not_eq_true] at c; rw [c, Bool.false_and]; exact Ev.now _
theorem imPlayW_ev (e : List UInt8) (w : Int) (l : List Int) (he : e.length ≤ 1000000) (hl : l.length ≤ 1000000) : Ev (fun k => impl_PlayWindows.f k (bs e) w l) (pw e w l) := by
  have bad : (¬ ((ogood e = true ∧ 1 ≤ w ∧ w ≤ e.length) ∧ l.length ≤ 100)) → Ev (fun k => impl_PlayWindows.j0 k (bs e) w l true) (pw e w l) := by
    intro x
    refine Ev.succ ?_
    simp only [impl_PlayWindows.j0]
    unfold pw
    rw [if_neg (fun y => x ⟨y.1, y.2.1⟩)]
    exact Ev.pos (by first | rfl | trivial) (Ev.now _)
  unfold impl_PlayWindows.f
  rw [goodI e he, in_eq, bs_size]
  simp only [Option.bind_some]
  refine Ev.iff (fun h => Ev.iff (fun c => ?_) (fun c => bad (fun x => c (by rw [decide_eq_true_eq]; exact x.1.2)))) (fun h => bad (fun x => h x.1.1))
  rw [decide_eq_true_eq] at c
  obtain ⟨g1, g2, g3⟩ := ogood_all h
  by_cases m : l.length ≤ 100
  · rw [decide_eq_false (by omega)]
    refine Ev.succ ?_
    simp only [impl_PlayWindows.j0]
    refine Ev.neg (by decide) ?_
    have := imPlayW_loop e g1 (by omega) w.toNat (by omega) (by omega) l hl l.length 0 (fun _ => false) (by omega)
    rw [msk_zero (fun _ _ => rfl), List.drop_zero, show ((w.toNat : Nat) : Int) = w by omega] at this
    unfold pw
    by_cases v : l.all (fun x => decide (0 ≤ x ∧ x ≤ (e.length : Int) - w)) = true
    · rw [if_pos ⟨⟨h, c.1, c.2⟩, m, v⟩]
      rw [if_pos v] at this
      simp only [Bool.false_xor] at this; exact this
    · rw [if_neg (fun x => v x.2.2)]
      rw [if_neg v] at this
      exact this
  · rw [decide_eq_true (by omega)]
    exact bad (fun x => m x.2)
theorem spPlayW_loop (e : List UInt8) (he : e.all sgn = true) (hn : e.length ≤ 1000) (w : Nat) (hw : 1 ≤ w) (hw' : w ≤ e.length) (l : List Int) (hl : l.length ≤ 1000000) (hv : l.all (fun x => decide (0 ≤ x ∧ x ≤ (e.length : Int) - w)) = true) : ∀ (d i : Nat) (E : Nat → Bool), i + d = l.length →
    Ev (fun k => spec_PlayWindows.l0 k (bs (msk e E)) (w : Int) l (l.length : Int) (i : Int)) (bs (msk e (fun j => E j ^^ pl w (l.drop i) j)), true) := by
  intro d
  induction d with
  | zero =>
    intro i E h
    refine Ev.succ ?_
    simp only [spec_PlayWindows.l0]
    rw [List.drop_of_length_le (by omega)]
    refine Ev.neg (by omega) (Ev.const ?_)
    simp [pl]
  | succ d ih =>
    intro i E h
    refine Ev.succ ?_
    simp only [spec_PlayWindows.l0]
    have c' := List.all_eq_true.1 hv _ (rd_mem (show i < l.length by omega))
    rw [decide_eq_true_eq] at c'
    rw [rd_cons_drop (show i < l.length by omega), show (i : Int) + 1 = ((i + 1 : Nat) : Int) by omega, wrap64_id (x := ((i + 1 : Nat) : Int)) (by omega) (by omega)]
    generalize rd l (i : Int) = x at c'
    rw [wrap64_id (x := x + (w : Int)) (by omega) (by omega), wrap64_id (x := x + (w : Int) - 1) (by omega) (by omega)]
    have t := odTurn_ev (msk e E) x.toNat (x.toNat + w - 1) (msk_good he _) (by rw [msk_len]; exact hn) (by omega) (by rw [msk_len]; omega)
    rw [show ((x.toNat : Nat) : Int) = x by omega, show ((x.toNat + w - 1 : Nat) : Int) = x + w - 1 by omega, msk_msk he, win_seg w x.toNat hw] at t
    have := ih (i + 1) (fun j => E j ^^ win w x.toNat j) (by omega)
    rw [step_pl] at this
    exact Ev.pos (by omega) (Ev.pos (by omega) (Ev.pos (by omega) (Ev.bind t this)))
theorem spPlayW_ev (e : List UInt8) (w : Int) (l : List Int) (he : e.length ≤ 1000000) (hl : l.length ≤ 1000000) : Ev (fun k => spec_PlayWindows.f k (bs e) w l) (pw e w l) := by
  have bad : (¬ ((ogood e = true ∧ 1 ≤ w ∧ w ≤ e.length) ∧ l.length ≤ 100 ∧ l.all (fun x => decide (0 ≤ x ∧ x ≤ (e.length : Int) - w)) = true)) → Ev (fun k => spec_PlayWindows.j0 k (bs e) w l true) (pw e w l) := by
    intro x
    refine Ev.succ ?_
    simp only [spec_PlayWindows.j0]
    unfold pw
    rw [if_neg x]
    exact Ev.pos (by first | rfl | trivial) (Ev.now _)
  unfold spec_PlayWindows.f
  refine Ev.bind (goodS e he) ?_
  rw [l1In_eq, bs_size]
  simp only [Option.bind_some]
  refine Ev.iff (fun h => Ev.iff (fun c => ?_) (fun c => bad (fun x => c (by rw [decide_eq_true_eq]; exact x.1.2)))) (fun h => bad (fun x => h x.1.1))
  rw [decide_eq_true_eq] at c
  obtain ⟨g1, g2, g3⟩ := ogood_all h
  refine Ev.iff (fun m => bad (fun x => by omega)) (fun m => ?_)
  rw [wrap64_id (x := (e.length : Int) - w) (by omega) (by omega)]
  refine Ev.bind (l1All_ev l 0 _ hl) ?_
  cases v : l.all (fun x => decide (0 ≤ x ∧ x ≤ (e.length : Int) - w))
  · exact bad (fun x => by rw [x.2.2] at v; exact absurd v (by decide))
  · refine Ev.succ ?_
    simp only [spec_PlayWindows.j0]
    refine Ev.neg (by decide) ?_
    unfold pw
    rw [if_pos ⟨⟨h, c.1, c.2⟩, by omega, v⟩]
    have v' : l.all (fun x => decide (0 ≤ x ∧ x ≤ (e.length : Int) - (w.toNat : Int))) = true := by rw [show ((w.toNat : Nat) : Int) = w by omega]; exact v
    have := spPlayW_loop e g1 (by omega) w.toNat (by omega) (by omega) l hl v' l.length 0 (fun _ => false) (by omega)
    rw [msk_zero (fun _ _ => rfl), List.drop_zero, show ((w.toNat : Nat) : Int) = w by omega] at this
    simp only [Bool.false_xor] at this; exact this
theorem step_pn (x : Int) (l : List Int) (E : Nat → Bool) : (fun j => (E j ^^ near x.toNat j) ^^ pn l j) = (fun j => E j ^^ pn (x :: l) j) := by
  funext j; simp only [pn, Bool.xor_assoc]
/-- What playing orders to soldiers answers. -/
def pnb (e : List UInt8) (l : List Int) : ByteArray × Bool := if ogood e = true ∧ l.length ≤ 100 ∧ l.all (fun x => decide (0 ≤ x ∧ x ≤ (e.length : Int) - 1)) = true then (bs (msk e (pn l)), true) else (bs [], false)
theorem imPlayN_loop (e : List UInt8) (he : e.all sgn = true) (hn : e.length ≤ 1000) (h1 : 1 ≤ e.length) (l : List Int) (hl : l.length ≤ 1000000) : ∀ (d i : Nat) (E : Nat → Bool), i + d = l.length →
    Ev (fun k => impl_PlayNeighbours.l0 k (bs (msk e E)) l (l.length : Int) (i : Int)) (if (l.drop i).all (fun x => decide (0 ≤ x ∧ x ≤ (e.length : Int) - 1)) = true then (bs (msk e (fun j => E j ^^ pn (l.drop i) j)), true) else (bs [], false)) := by
  intro d
  induction d with
  | zero =>
    intro i E h
    refine Ev.succ ?_
    simp only [impl_PlayNeighbours.l0]
    rw [List.drop_of_length_le (by omega)]
    refine Ev.neg (by omega) (Ev.const ?_)
    rw [if_pos (by rfl)]
    simp [pn]
  | succ d ih =>
    intro i E h
    have z := bs_size (msk e E)
    rw [msk_len] at z
    refine Ev.succ ?_
    simp only [impl_PlayNeighbours.l0]
    rw [rd_cons_drop (show i < l.length by omega), List.all_cons, in_eq, show (i : Int) + 1 = ((i + 1 : Nat) : Int) by omega, wrap64_id (x := ((i + 1 : Nat) : Int)) (by omega) (by omega), z, wrap64_id (x := (e.length : Int) - 1) (by omega) (by omega)]
    simp only [Option.bind_some]
    refine Ev.pos (by omega) (Ev.pos (by omega) (Ev.pos (by omega) (Ev.iff (fun c => ?_) (fun c => ?_))))
    · have c' := c
      rw [decide_eq_true_eq] at c'
      rw [c, Bool.true_and]
      generalize rd l (i : Int) = x at c'
      have t := turnAround_eq (msk e E) x.toNat (msk_good he _) (by rw [msk_len]; exact hn) (by rw [msk_len]; omega)
      rw [show ((x.toNat : Nat) : Int) = x by omega, msk_msk he] at t
      rw [t]
      simp only [Option.bind_some]
      have := ih (i + 1) (fun j => E j ^^ near x.toNat j) (by omega)
      rw [step_pn] at this
      exact this
    · rw [Bool.not_eq_true] at c; rw [c, Bool.false_and]; exact Ev.now _
theorem imPlayN_ev (e : List UInt8) (l : List Int) (he : e.length ≤ 1000000) (hl : l.length ≤ 1000000) : Ev (fun k => impl_PlayNeighbours.f k (bs e) l) (pnb e l) := by
  have bad : (¬ (ogood e = true ∧ l.length ≤ 100)) → Ev (fun k => impl_PlayNeighbours.j0 k (bs e) l true) (pnb e l) := by
    intro x
    refine Ev.succ ?_
    simp only [impl_PlayNeighbours.j0]
    unfold pnb
    rw [if_neg (fun y => x ⟨y.1, y.2.1⟩)]
    exact Ev.pos (by first | rfl | trivial) (Ev.now _)
  unfold impl_PlayNeighbours.f
  rw [goodI e he]
  simp only [Option.bind_some]
  refine Ev.iff (fun h => ?_) (fun h => bad (fun x => h x.1))
  obtain ⟨g1, g2, g3⟩ := ogood_all h
  by_cases m : l.length ≤ 100
  · rw [decide_eq_false (by omega)]
    refine Ev.succ ?_
    simp only [impl_PlayNeighbours.j0]
    refine Ev.neg (by decide) ?_
    have := imPlayN_loop e g1 (by omega) g2 l hl l.length 0 (fun _ => false) (by omega)
    rw [msk_zero (fun _ _ => rfl), List.drop_zero] at this
    unfold pnb
    by_cases v : l.all (fun x => decide (0 ≤ x ∧ x ≤ (e.length : Int) - 1)) = true
    · rw [if_pos ⟨h, m, v⟩]
      rw [if_pos v] at this
      simp only [Bool.false_xor] at this; exact this
    · rw [if_neg (fun x => v x.2.2)]
      rw [if_neg v] at this
      exact this
  · rw [decide_eq_true (by omega)]
    exact bad (fun x => m x.2)
theorem odPlay_loop (e : List UInt8) (he : e.all sgn = true) (hn : e.length ≤ 1000) (h1 : 1 ≤ e.length) (l : List Int) (hl : l.length ≤ 1000000) (hv : l.all (fun x => decide (0 ≤ x ∧ x ≤ (e.length : Int) - 1)) = true) : ∀ (d i : Nat) (E : Nat → Bool), i + d = l.length →
    Ev (fun k => spec_odPlay.l0 k (bs (msk e E)) l (l.length : Int) (i : Int)) (bs (msk e (fun j => E j ^^ pn (l.drop i) j))) := by
  intro d
  induction d with
  | zero =>
    intro i E h
    refine Ev.succ ?_
    simp only [spec_odPlay.l0]
    rw [List.drop_of_length_le (by omega)]
    refine Ev.neg (by omega) (Ev.const ?_)
    simp [pn]
  | succ d ih =>
    intro i E h
    refine Ev.succ ?_
    simp only [spec_odPlay.l0]
    have c' := List.all_eq_true.1 hv _ (rd_mem (show i < l.length by omega))
    rw [decide_eq_true_eq] at c'
    rw [rd_cons_drop (show i < l.length by omega), show (i : Int) + 1 = ((i + 1 : Nat) : Int) by omega, wrap64_id (x := ((i + 1 : Nat) : Int)) (by omega) (by omega)]
    generalize rd l (i : Int) = x at c'
    have t := odAround_ev (msk e E) x.toNat (msk_good he _) (by rw [msk_len]; exact hn) (by rw [msk_len]; omega)
    rw [show ((x.toNat : Nat) : Int) = x by omega, msk_msk he] at t
    have := ih (i + 1) (fun j => E j ^^ near x.toNat j) (by omega)
    rw [step_pn] at this
    exact Ev.pos (by omega) (Ev.pos (by omega) (Ev.pos (by omega) (Ev.bind t this)))
theorem spPlayN_ev (e : List UInt8) (l : List Int) (he : e.length ≤ 1000000) (hl : l.length ≤ 1000000) : Ev (fun k => spec_PlayNeighbours.f k (bs e) l) (pnb e l) := by
  unfold spec_PlayNeighbours.f
  refine Ev.bind (goodS e he) (Ev.iff (fun h => ?_) (fun h => ?_))
  · obtain ⟨g1, g2, g3⟩ := ogood_all h
    rw [bs_size, wrap64_id (x := (e.length : Int) - 1) (by omega) (by omega)]
    refine Ev.iff (fun m => ?_) (fun m => Ev.bind (l1All_ev l 0 _ hl) (Ev.iff (fun v => ?_) (fun v => ?_)))
    · unfold pnb
      rw [if_neg (fun x => by omega)]; exact Ev.now _
    · unfold pnb
      rw [if_pos ⟨h, by omega, v⟩]
      have := odPlay_loop e g1 (by omega) g2 l hl v l.length 0 (fun _ => false) (by omega)
      rw [msk_zero (fun _ _ => rfl), List.drop_zero] at this
      unfold spec_odPlay.f
      refine Ev.bind this (Ev.const ?_)
      simp only [Bool.false_xor]
    · unfold pnb
      rw [if_neg (fun x => v x.2.2)]; exact Ev.now _
  · unfold pnb
    rw [if_neg (fun x => h x.1)]; exact Ev.now _
theorem nbw_loop (n : Nat) (hn : n ≤ 1000) (D : Nat → Bool) (f : Bool) : ∀ (d i : Nat) (acc : List Int), i + d = n → acc.length ≤ i →
    Ev (fun k => impl_neighboursWith.l0 k acc (cha D f i).1 (cha D f i).2 (fl n D) (n : Int) (i : Int)) (acc ++ lst (who D f) i d, !who D f n) := by
  intro d
  induction d with
  | zero =>
    intro i acc h ha
    obtain rfl : i = n := by omega
    refine Ev.succ ?_
    simp only [impl_neighboursWith.l0]
    refine Ev.neg (by omega) (Ev.const ?_)
    simp only [lst, List.append_nil]
    rfl
  | succ d ih =>
    intro i acc h ha
    have z := fl_len n D
    have e : (D i != ((cha D f i).1 != (cha D f i).2)) = (cha D f (i + 1)).2 := by
      simp only [cha] <;> cases D i <;> cases (cha D f i).1 <;> cases (cha D f i).2 <;> rfl
    have e1 : (cha D f (i + 1)).1 = (cha D f i).2 := rfl
    refine Ev.succ ?_
    simp only [impl_neighboursWith.l0]
    rw [fl_get n D i (by omega), e, ← e1, show (i : Int) + 1 = ((i + 1 : Nat) : Int) by omega, wrap64_id (x := ((i + 1 : Nat) : Int)) (by omega) (by omega)]
    refine Ev.pos (by omega) (Ev.pos (by omega) (Ev.pos (by omega) (Ev.iff (fun c => ?_) (fun c => ?_))))
    · have c' : who D f i = true := c
      have := ih (i + 1) (acc ++ [((i : Nat) : Int)]) (by omega) (by simp; omega)
      simp only [lst]
      rw [if_pos c', ← List.append_assoc]
      exact Ev.pos (by omega) this
    · have c' : ¬ who D f i = true := c
      have := ih (i + 1) acc (by omega) (by omega)
      simp only [lst]
      rw [if_neg c', List.nil_append]
      exact this
theorem nbw_ev (n : Nat) (hn : n ≤ 1000) (D : Nat → Bool) (f : Bool) : Ev (fun k => impl_neighboursWith.f k (fl n D) f) (lst (who D f) 0 n, !who D f n) := by
  unfold impl_neighboursWith.f
  rw [fl_len]
  have := nbw_loop n hn D f n 0 [] (by omega) (by simp)
  rw [List.nil_append] at this
  exact this
theorem odChase_loop (b : List UInt8) (hb : b.all sgn = true) (hn : b.length ≤ 1000) (D : Nat → Bool) (f : Bool) : ∀ (d i : Nat) (acc : List Int), i + d = b.length → 1 ≤ i → acc.length ≤ i →
    Ev (fun k => spec_odChase.l0 k (bs (msk b (fun j => D j ^^ cov (who D f) i j))) (bs b) acc (i : Int)) (acc ++ lst (who D f) i d, !who D f b.length) := by
  intro d
  induction d with
  | zero =>
    intro i acc h h1 ha
    obtain rfl : i = b.length := by omega
    have z := bs_size (msk b (fun j => D j ^^ cov (who D f) b.length j))
    rw [msk_len] at z
    refine Ev.succ ?_
    simp only [spec_odChase.l0]
    refine Ev.neg (by omega) (Ev.const ?_)
    rw [msk_beq hb, cov_nul D f b.length h1]
    simp only [lst, List.append_nil]
  | succ d ih =>
    intro i acc h h1 ha
    have z := bs_size (msk b (fun j => D j ^^ cov (who D f) i j))
    have z2 := bs_size b
    rw [msk_len] at z
    obtain ⟨m, rfl⟩ : ∃ m, i = m + 1 := ⟨i - 1, by omega⟩
    have hm : m < b.length := by omega
    have hb' := bt_msk hb (fun j => D j ^^ cov (who D f) (m + 1) j) m hm
    rw [show (D m ^^ cov (who D f) (m + 1) m) = who D f (m + 1) from (who_next D f m).symm] at hb'
    have hs : (fun j => D j ^^ cov (who D f) (m + 1 + 1) j) = (fun j => (D j ^^ cov (who D f) (m + 1) j) ^^ (who D f (m + 1) && near (m + 1) j)) := by
      funext j; rw [cov_succ, Bool.xor_assoc]
    refine Ev.succ ?_
    simp only [spec_odChase.l0]
    rw [wrap64_id (x := ((m + 1 : Nat) : Int) - 1) (by omega) (by omega), show ((m + 1 : Nat) : Int) - 1 = (m : Int) by omega, show ((m + 1 : Nat) : Int) + 1 = ((m + 1 + 1 : Nat) : Int) by omega, wrap64_id (x := ((m + 1 + 1 : Nat) : Int)) (by omega) (by omega)]
    refine Ev.pos (by omega) (Ev.pos (by omega) (Ev.pos (by omega) (Ev.pos (by omega) ?_)))
    cases e : who D f (m + 1)
    · have := ih (m + 1 + 1) acc (by omega) (by omega) (by omega)
      rw [hs, e] at this
      simp only [Bool.false_and, Bool.xor_false] at this
      simp only [lst]
      rw [if_neg (by rw [e]; decide), List.nil_append]
      exact Ev.pos (hb'.2 e) this
    · have := ih (m + 1 + 1) (acc ++ [((m + 1 : Nat) : Int)]) (by omega) (by omega) (by simp; omega)
      rw [hs, e] at this
      simp only [Bool.true_and] at this
      simp only [lst]
      rw [if_pos e, ← List.append_assoc]
      refine Ev.neg (fun x => by rw [hb'.1 x] at e; exact absurd e (by decide)) (Ev.pos (by omega) (Ev.bind (odAround_ev _ (m + 1) (msk_good hb _) (by rw [msk_len]; exact hn) (by rw [msk_len]; omega)) ?_))
      rw [msk_msk hb]
      exact this
theorem odChase_ev (a b : List UInt8) (ha : a.all sgn = true) (hb : b.all sgn = true) (h : a.length = b.length) (h1 : 1 ≤ b.length) (hn : b.length ≤ 1000) (f : Bool) :
    Ev (fun k => spec_odChase.f k (bs a) (bs b) f) (lst (who (dif a b) f) 0 b.length, !who (dif a b) f b.length) := by
  have hm := msk_dif ha hb h
  obtain ⟨m, em⟩ : ∃ m, b.length = m + 1 := ⟨b.length - 1, by omega⟩
  have hs : (fun j => dif a b j ^^ cov (who (dif a b) f) 1 j) = (fun j => dif a b j ^^ (f && near 0 j)) := by
    funext j; rw [show (1 : Nat) = 0 + 1 from rfl, cov_succ, cov_zero, Bool.false_xor]; rfl
  unfold spec_odChase.f
  cases f
  · refine Ev.neg (by decide) (Ev.succ ?_)
    simp only [spec_odChase.j0]
    have := odChase_loop b hb hn (dif a b) false m 1 [] (by omega) (by omega) (by simp)
    rw [hs] at this
    simp only [Bool.false_and, Bool.xor_false] at this
    rw [hm] at this
    have e : lst (who (dif a b) false) 0 b.length = [] ++ lst (who (dif a b) false) 1 m := by rw [em]; simp only [lst]; rfl
    rw [e]
    exact this
  · refine Ev.pos (by first | rfl | trivial) (Ev.pos (by decide) (Ev.bind (odAround_ev a 0 ha (by omega) (by omega)) (Ev.succ ?_)))
    simp only [spec_odChase.j0]
    have := odChase_loop b hb hn (dif a b) true m 1 [0] (by omega) (by omega) (by simp)
    rw [hs, ← msk_msk hb] at this
    simp only [Bool.true_and] at this
    rw [hm] at this
    have e : lst (who (dif a b) true) 0 b.length = [0] ++ lst (who (dif a b) true) 1 m := by rw [em]; simp only [lst]; rfl
    rw [e]
    exact this
/-- The fewest orders to neighbours. -/
def nres (n : Nat) (D : Nat → Bool) : List Int × Bool :=
  if who D true n = false ∧ (who D false n = true ∨ (lst (who D true) 0 n).length ≤ (lst (who D false) 0 n).length) then (lst (who D true) 0 n, true)
  else if who D false n = false then (lst (who D false) 0 n, true) else ([], false)
theorem compare_lt (x y : Int) (l m : List Int) (hl : l.length ≤ 1000000) (h : x < y) : Ev (fun k => slices_Compare_int_int.f k (x :: l) (y :: m)) (-1) := by
  unfold slices_Compare_int_int.f
  refine Ev.succ ?_
  simp only [slices_Compare_int_int.l0]
  have e1 : rd (x :: l) 0 = x := by simp [rd]
  have e2 : rd (y :: m) 0 = y := by simp [rd]
  rw [e1, e2]
  have ec : cmp_Compare_int.f x y = some (-1) := by
    unfold cmp_Compare_int.f cmp_isNaN_int.f
    simp [h]
  rw [ec]
  simp only [Option.bind_some, List.length_cons]
  exact Ev.pos (by omega) (Ev.pos (by omega) (Ev.pos (by omega) (Ev.neg (by omega) (Ev.pos (by omega) (Ev.neg (by decide) (Ev.now _))))))
theorem lst_true (D : Nat → Bool) (m : Nat) : lst (who D true) 0 (m + 1) = 0 :: lst (who D true) 1 m := by simp only [lst]; rfl
theorem lst_false (D : Nat → Bool) (m : Nat) : lst (who D false) 0 (m + 1) = lst (who D false) 1 m := by simp only [lst]; rfl
theorem imNbTo_ev (a b : List UInt8) (h : a.length = b.length) (h1 : 1 ≤ a.length) (hn : a.length ≤ 1000) : Ev (fun k => impl_neighboursTo.f k (bs a) (bs b)) (nres a.length (dif a b)) := by
  unfold impl_neighboursTo.f
  generalize hD : dif a b = D
  refine Ev.bind (hD ▸ differ_ev a b h hn) (Ev.bind (nbw_ev a.length hn D false) (Ev.bind (nbw_ev a.length hn D true) ?_))
  unfold nres
  obtain ⟨m, em⟩ : ∃ m, a.length = m + 1 := ⟨a.length - 1, by omega⟩
  have hlt := lst_len (who D true) a.length 0
  have hj : ∀ (v w : List Int) (p q : Bool), Ev (fun k => impl_neighboursTo.j0 k v p w q) (if q = true then (w, true) else if p = true then (v, true) else ([], false)) := by
    intro v w p q
    refine Ev.succ ?_
    simp only [impl_neighboursTo.j0]
    cases q <;> cases p <;> exact Ev.now _
  cases e1 : who D true a.length <;> cases e2 : who D false a.length
  · refine Ev.pos (by first | rfl | trivial) (Ev.pos (by first | rfl | trivial) ?_)
    by_cases c : (lst (who D true) 0 a.length).length < (lst (who D false) 0 a.length).length
    · refine Ev.pos (by simpa using c) ?_
      rw [if_pos ⟨rfl, .inr (by omega)⟩]
      exact hj _ _ _ true
    · refine Ev.neg (by simpa using c) ?_
      by_cases c2 : (lst (who D true) 0 a.length).length = (lst (who D false) 0 a.length).length
      · refine Ev.pos (by simp only; omega) ?_
        rw [if_pos ⟨rfl, .inr (by omega)⟩]
        have hc : Ev (fun k => slices_Compare_int_int.f k (lst (who D true) 0 a.length) (lst (who D false) 0 a.length)) (-1) := by
          rw [em, lst_true, lst_false]
          rw [em, lst_true, lst_false] at c2
          cases e : lst (who D false) 1 m with
          | nil => rw [e] at c2; simp at c2
          | cons y r =>
            obtain ⟨k, hk, hk1, _, _⟩ := (lst_mem (who D false) m 1 y).1 (by rw [e]; simp)
            have hl2 := lst_len (who D true) m 1
            exact compare_lt 0 y _ _ (by omega) (by omega)
        refine Ev.bind hc ?_
        exact hj _ _ _ true
      · refine Ev.neg (by simp only; omega) ?_
        rw [if_neg (fun x => by rcases x.2 with y | y; exact absurd y (by decide); omega), if_pos rfl]
        exact hj _ _ true false
  · refine Ev.pos (by first | rfl | trivial) (Ev.neg (by simp) ?_)
    rw [if_pos ⟨rfl, .inl rfl⟩]
    exact hj _ _ _ true
  · refine Ev.neg (by simp) ?_
    rw [if_neg (fun x => absurd x.1 (by decide)), if_pos rfl]
    exact hj _ _ true false
  · refine Ev.neg (by simp) ?_
    rw [if_neg (fun x => absurd x.1 (by decide)), if_neg (by decide)]
    exact hj _ _ false false
theorem odBest_ev (a b : List UInt8) (ha : a.all sgn = true) (hb : b.all sgn = true) (h : a.length = b.length) (h1 : 1 ≤ a.length) (hn : a.length ≤ 1000) : Ev (fun k => spec_odBest.f k (bs a) (bs b)) (nres a.length (dif a b)) := by
  unfold spec_odBest.f
  have t := odChase_ev a b ha hb h (by omega) (by omega) true
  have f := odChase_ev a b ha hb h (by omega) (by omega) false
  rw [← h] at t f
  generalize dif a b = D at t f
  refine Ev.bind t (Ev.bind f ?_)
  unfold nres
  have hj : ∀ (v w : List Int) (p q : Bool), Ev (fun k => spec_odBest.j0 k v w p q) (if q = true then (v, true) else if p = true then (w, true) else ([], false)) := by
    intro v w p q
    refine Ev.succ ?_
    simp only [spec_odBest.j0]
    cases q <;> cases p <;> exact Ev.now _
  cases e1 : who D true a.length <;> cases e2 : who D false a.length
  · refine Ev.pos (by first | rfl | trivial) (Ev.pos (by first | rfl | trivial) ?_)
    by_cases c : (lst (who D true) 0 a.length).length ≤ (lst (who D false) 0 a.length).length
    · rw [if_pos ⟨rfl, .inr c⟩, decide_eq_true (by simpa using c)]
      exact hj _ _ _ true
    · rw [if_neg (fun x => by rcases x.2 with y | y; exact absurd y (by decide); exact c y), if_pos rfl, decide_eq_false (by simpa using c)]
      exact hj _ _ true false
  · refine Ev.pos (by first | rfl | trivial) (Ev.neg (by simp) ?_)
    rw [if_pos ⟨rfl, .inl rfl⟩]
    exact hj _ _ _ true
  · refine Ev.neg (by simp) ?_
    rw [if_neg (fun x => absurd x.1 (by decide)), if_pos rfl]
    exact hj _ _ true false
  · refine Ev.neg (by simp) ?_
    rw [if_neg (fun x => absurd x.1 (by decide)), if_neg (by decide)]
    exact hj _ _ false false
/-- What orders to neighbours lead to. -/
def nto (a b : List UInt8) : List Int × Bool := if otwo a b = true then nres a.length (dif a b) else ([], false)
def ncan (a b : List UInt8) : Bool × Bool := if otwo a b = true then ((nres a.length (dif a b)).2, true) else (false, false)
theorem imNTo_ev (a b : List UInt8) (ha : a.length ≤ 1000000) (hb : b.length ≤ 1000000) : Ev (fun k => impl_NeighboursTo.f k (bs a) (bs b)) (nto a b) := by
  unfold impl_NeighboursTo.f nto
  rw [areT a b ha hb]
  simp only [Option.bind_some]
  refine Ev.iff (fun h => ?_) (fun h => ?_)
  · obtain ⟨h1, h2, h3⟩ := otwo_all h
    obtain ⟨g1, g2, g3⟩ := ogood_all h1
    rw [if_pos h]
    exact Ev.bind (imNbTo_ev a b h3 g2 (by omega)) (Ev.now _)
  · rw [if_neg h]; exact Ev.now _
theorem imNCan_ev (a b : List UInt8) (ha : a.length ≤ 1000000) (hb : b.length ≤ 1000000) : Ev (fun k => impl_CanByNeighbours.f k (bs a) (bs b)) (ncan a b) := by
  unfold impl_CanByNeighbours.f ncan
  rw [areT a b ha hb]
  simp only [Option.bind_some]
  refine Ev.iff (fun h => ?_) (fun h => ?_)
  · obtain ⟨h1, h2, h3⟩ := otwo_all h
    obtain ⟨g1, g2, g3⟩ := ogood_all h1
    rw [if_pos h]
    exact Ev.bind (imNbTo_ev a b h3 g2 (by omega)) (Ev.now _)
  · rw [if_neg h]; exact Ev.now _
theorem spNTo_ev (a b : List UInt8) (ha : a.length ≤ 1000000) (hb : b.length ≤ 1000000) : Ev (fun k => spec_NeighboursTo.f k (bs a) (bs b)) (nto a b) := by
  unfold spec_NeighboursTo.f nto
  refine Ev.bind (twoT a b ha hb) (Ev.iff (fun h => ?_) (fun h => ?_))
  · obtain ⟨h1, h2, h3⟩ := otwo_all h
    obtain ⟨g1, g2, g3⟩ := ogood_all h1
    obtain ⟨k1, k2, k3⟩ := ogood_all h2
    rw [if_pos h]
    exact Ev.bind (odBest_ev a b g1 k1 h3 g2 (by omega)) (Ev.now _)
  · rw [if_neg h]; exact Ev.now _
theorem spNCan_ev (a b : List UInt8) (ha : a.length ≤ 1000000) (hb : b.length ≤ 1000000) : Ev (fun k => spec_CanByNeighbours.f k (bs a) (bs b)) (ncan a b) := by
  unfold spec_CanByNeighbours.f ncan
  refine Ev.bind (twoT a b ha hb) (Ev.iff (fun h => ?_) (fun h => ?_))
  · obtain ⟨h1, h2, h3⟩ := otwo_all h
    obtain ⟨g1, g2, g3⟩ := ogood_all h1
    obtain ⟨k1, k2, k3⟩ := ogood_all h2
    rw [if_pos h]
    exact Ev.bind (odBest_ev a b g1 k1 h3 g2 (by omega)) (Ev.now _)
  · rw [if_neg h]; exact Ev.now _
abbrev zer : Nat → Bool := fun _ => false
/-- The idle orders. -/
def idl (n : Int) : List Int × Bool := if (1 ≤ n ∧ n ≤ 40) ∧ n.toNat % 3 = 2 then (lst (who zer true) 0 n.toNat, true) else ([], false)
theorem dif_self (a : List UInt8) : dif a a = zer := by funext i; simp [dif]
theorem imIdle_ev (n : Nat) (hn : n ≤ 40) : Ev (fun k => impl_idle.f k (n : Int)) (lst (who zer true) 0 n, decide (n % 3 = 2)) := by
  unfold impl_idle.f
  rw [Int.toNat_natCast, fl_rep n zer (fun _ _ => rfl)]
  have := nbw_ev n (by omega) zer true
  rw [who_three n (by omega), Bool.not_not] at this
  exact Ev.pos (by omega) (Ev.pos (by omega) (Ev.bind this (Ev.now _)))
theorem odIdle_ev (n : Nat) (h1 : 1 ≤ n) (hn : n ≤ 40) : Ev (fun k => spec_odIdle.f k (n : Int)) (lst (who zer true) 0 n, decide (n % 3 = 2)) := by
  unfold spec_odIdle.f
  refine Ev.bind (rwMake_ev n 0 (by omega) (by omega)) ?_
  have hl := mk_len n 0
  have := odChase_ev (mk n 0) (mk n 0) (mk_all n 0) (mk_all n 0) rfl (by omega) (by omega) true
  rw [dif_self, hl, who_three n (by omega), Bool.not_not] at this
  exact Ev.bind this (Ev.now _)
theorem isMany_eq (n : Int) : impl_isOrderedMany.f n = some (decide (1 ≤ n ∧ n ≤ 40)) := by
  unfold impl_isOrderedMany.f; rw [in_eq]; rfl
theorem odSold_eq (n : Int) : spec_odSoldiers.f n = some (decide (1 ≤ n ∧ n ≤ 40)) := by
  unfold spec_odSoldiers.f; rw [l1In_eq]; rfl
theorem imIO_ev (n : Int) : Ev (fun k => impl_IdleOrders.f k n) (idl n) := by
  unfold impl_IdleOrders.f idl
  rw [isMany_eq]
  simp only [Option.bind_some]
  refine Ev.iff (fun c => ?_) (fun c => ?_)
  · rw [decide_eq_true_eq] at c
    have := imIdle_ev n.toNat (by omega)
    rw [show ((n.toNat : Nat) : Int) = n by omega] at this
    refine Ev.bind this (Ev.iff (fun d => ?_) (fun d => ?_))
    · have d' : n.toNat % 3 = 2 := by simpa using d
      rw [if_pos ⟨c, d'⟩]; exact Ev.now _
    · have d' : ¬ n.toNat % 3 = 2 := by simpa using d
      rw [if_neg (fun x => d' x.2)]; exact Ev.now _
  · rw [if_neg (fun x => c (by rw [decide_eq_true_eq]; exact x.1))]; exact Ev.now _
theorem spIO_ev (n : Int) : Ev (fun k => spec_IdleOrders.f k n) (idl n) := by
  unfold spec_IdleOrders.f idl
  rw [odSold_eq]
  simp only [Option.bind_some]
  refine Ev.iff (fun c => ?_) (fun c => ?_)
  · rw [decide_eq_true_eq] at c
    have := odIdle_ev n.toNat (by omega) (by omega)
    rw [show ((n.toNat : Nat) : Int) = n by omega] at this
    refine Ev.bind this (Ev.iff (fun d => ?_) (fun d => ?_))
    · have d' : n.toNat % 3 = 2 := by simpa using d
      rw [if_pos ⟨c, d'⟩]; exact Ev.now _
    · have d' : ¬ n.toNat % 3 = 2 := by simpa using d
      rw [if_neg (fun x => d' x.2)]; exact Ev.now _
  · rw [if_neg (fun x => c (by rw [decide_eq_true_eq]; exact x.1))]; exact Ev.now _
/-- How many rows are led to by orders to neighbours. -/
def cbn (n : Int) : Int × Bool := if 1 ≤ n ∧ n ≤ 40 then (if n.toNat % 3 = 2 then (shl .i64 1 (wrap64 (n - 1)), true) else (shl .i64 1 n, true)) else (0, false)
theorem imCBN_ev (n : Int) : Ev (fun k => impl_CountByNeighbours.f k n) (cbn n) := by
  unfold impl_CountByNeighbours.f cbn
  rw [isMany_eq]
  simp only [Option.bind_some]
  refine Ev.iff (fun c => ?_) (fun c => ?_)
  · rw [decide_eq_true_eq] at c
    rw [if_pos c]
    have := imIdle_ev n.toNat (by omega)
    rw [show ((n.toNat : Nat) : Int) = n by omega] at this
    have w := wrap64_id (x := n - 1) (by omega) (by omega)
    refine Ev.bind this (Ev.iff (fun d => ?_) (fun d => ?_))
    · have d' : n.toNat % 3 = 2 := by simpa using d
      rw [if_pos d']; exact Ev.pos (by omega) (Ev.now _)
    · have d' : ¬ n.toNat % 3 = 2 := by simpa using d
      rw [if_neg d']; exact Ev.pos (by omega) (Ev.now _)
  · rw [if_neg (fun x => c (by rw [decide_eq_true_eq]; exact x))]; exact Ev.now _
theorem spCBN_ev (n : Int) : Ev (fun k => spec_CountByNeighbours.f k n) (cbn n) := by
  unfold spec_CountByNeighbours.f cbn
  rw [odSold_eq]
  simp only [Option.bind_some]
  refine Ev.iff (fun c => ?_) (fun c => ?_)
  · rw [decide_eq_true_eq] at c
    rw [if_pos c]
    have := odIdle_ev n.toNat (by omega) (by omega)
    rw [show ((n.toNat : Nat) : Int) = n by omega] at this
    have w := wrap64_id (x := n - 1) (by omega) (by omega)
    refine Ev.bind this (Ev.iff (fun d => ?_) (fun d => ?_))
    · have d' : n.toNat % 3 = 2 := by simpa using d
      rw [if_pos d']; exact Ev.pos (by omega) (Ev.now _)
    · have d' : ¬ n.toNat % 3 = 2 := by simpa using d
      rw [if_neg d']; exact Ev.pos (by omega) (Ev.now _)
  · rw [if_neg (fun x => c (by rw [decide_eq_true_eq]; exact x))]; exact Ev.now _
def cbw (m w : Int) : Int × Bool := if (1 ≤ m ∧ m ≤ 40) ∧ 1 ≤ w ∧ w ≤ m then (shl .i64 1 (wrap64 (wrap64 (m - w) + 1)), true) else (0, false)
theorem imCBW_eq (m w : Int) : impl_CountByWindows.f m w = some (cbw m w) := by
  unfold impl_CountByWindows.f cbw
  rw [isMany_eq, in_eq]
  simp only [Option.bind_some, decide_eq_true_eq]
  by_cases c : 1 ≤ m ∧ m ≤ 40
  · rw [if_pos c]
    by_cases d : 1 ≤ w ∧ w ≤ m
    · have e1 := wrap64_id (x := m - w) (by omega) (by omega)
      have e2 := wrap64_id (x := m - w + 1) (by omega) (by omega)
      rw [if_pos d, if_pos (by rw [e1, e2]; omega), if_pos ⟨c, d⟩]
    · rw [if_neg d, if_neg (fun x => d x.2)]
  · rw [if_neg c, if_neg (fun x => c x.1)]
theorem spCBW_eq (m w : Int) : spec_CountByWindows.f m w = some (cbw m w) := by
  unfold spec_CountByWindows.f cbw
  rw [odSold_eq, l1In_eq]
  simp only [Option.bind_some, decide_eq_true_eq]
  by_cases c : 1 ≤ m ∧ m ≤ 40
  · rw [if_pos c]
    by_cases d : 1 ≤ w ∧ w ≤ m
    · have e1 := wrap64_id (x := m - w) (by omega) (by omega)
      have e2 := wrap64_id (x := m - w + 1) (by omega) (by omega)
      rw [if_pos d, if_pos (by rw [e1, e2]; omega), if_pos ⟨c, d⟩]
    · rw [if_neg d, if_neg (fun x => d x.2)]
  · rw [if_neg c, if_neg (fun x => c x.1)]
/-- A text of seven-bit bytes. -/
def asc (s : ByteArray) : Prop := ∀ b ∈ L s, b.toNat < 128
theorem asc_app {s t : ByteArray} (h : asc s) (h' : asc t) : asc (s ++ t) := by
  intro b hb
  have e : L (s ++ t) = L s ++ L t := by simp [L]
  rw [e, List.mem_append] at hb
  exact hb.elim (h b) (h' b)
theorem asc_of (s : ByteArray) (h : (L s).all (fun b => decide (b.toNat < 128)) = true) : asc s := fun b hb => by simpa using List.all_eq_true.1 h b hb
theorem sureRowA_loop (code : List Int) (hc : ∀ x ∈ code, 0 ≤ x ∧ x ≤ 255) : ∀ (d : Nat) (acc : ByteArray) (p s : Int), asc acc → acc.size + d ≤ 1000 → 0 ≤ p → p + 2 * d ≤ 900000 →
    ∃ r p' s', Ev (fun k => spec_l1Cur_sureRow.l0 k acc (d : Int) code p s) (r, p', s') ∧ asc r ∧ r.size ≤ acc.size + d ∧ p ≤ p' ∧ p' ≤ p + 2 * d := by
  intro d
  induction d with
  | zero =>
    intro acc p s ha h h0 h1
    refine ⟨acc, p, s, Ev.succ ?_, ha, by omega, by omega, by omega⟩
    simp only [spec_l1Cur_sureRow.l0]
    exact Ev.neg (by omega) (Ev.now _)
  | succ d ih =>
    intro acc p s hac h h0 h1
    obtain ⟨v, p1, s1, e1, hv, q0, q1⟩ := of_ok code hc p s [(⟨#[60]⟩ : ByteArray), (⟨#[62]⟩ : ByteArray)] (by simp) h0 (by omega)
    have hs : v.size = 1 := by
      simp only [List.mem_cons, List.not_mem_nil, or_false] at hv
      rcases hv with rfl | rfl <;> rfl
    have hva : asc v := by
      simp only [List.mem_cons, List.not_mem_nil, or_false] at hv
      rcases hv with rfl | rfl <;> exact asc_of _ (by decide)
    have ha : (acc ++ v).size = acc.size + 1 := by rw [ByteArray.size_append, hs]
    obtain ⟨r, p2, s2, e2, b9, b0, b1, b2⟩ := ih (acc ++ v) p1 s1 (asc_app hac hva) (by omega) (by omega) (by omega)
    refine ⟨r, p2, s2, Ev.succ ?_, b9, by omega, by omega, by omega⟩
    simp only [spec_l1Cur_sureRow.l0]
    rw [e1, show ((d + 1 : Nat) : Int) - 1 = (d : Int) by omega, wrap64_id (x := (d : Int)) (by omega) (by omega)]
    simp only [Option.bind_some]
    exact Ev.pos (by omega) (Ev.pos (by omega) e2)
theorem sureRowA_ok (code : List Int) (hc : ∀ x ∈ code, 0 ≤ x ∧ x ≤ 255) (p s n : Int) (hn : n ≤ 200) (h0 : 0 ≤ p) (h1 : p ≤ 800000) : ∃ r p' s', Ev (fun k => spec_l1Cur_sureRow.f k code p s n) (r, p', s') ∧ asc r ∧ r.size ≤ 201 ∧ p ≤ p' ∧ p' ≤ p + 404 := by
  unfold spec_l1Cur_sureRow.f
  obtain ⟨v, p1, s1, e1, v0, v1, q0, q1⟩ := pick_ok code hc p s n h0 (by omega)
  rw [e1]
  simp only [Option.bind_some]
  rw [wrap64_id (x := 1 + v) (by omega) (by omega), show 1 + v = (((1 + v).toNat : Nat) : Int) by omega]
  have hz : (⟨#[]⟩ : ByteArray).size = 0 := rfl
  obtain ⟨r, p2, s2, e2, b9, b0, b1, b2⟩ := sureRowA_loop code hc (1 + v).toNat (⟨#[]⟩ : ByteArray) p1 s1 (asc_of _ (by decide)) (by omega) (by omega) (by omega)
  exact ⟨r, p2, s2, e2, b9, by omega, by omega, by omega⟩
theorem rowA_loop (code : List Int) (hc : ∀ x ∈ code, 0 ≤ x ∧ x ≤ 255) (n : Int) (hn : n ≤ 200) : ∀ (d : Nat) (acc : ByteArray) (p s : Int), asc acc → acc.size + 2 * d ≤ 1000 → 0 ≤ p → p ≤ 700000 →
    ∃ r p' s', Ev (fun k => spec_l1Cur_row.l0 k n acc (d : Int) code p s) (r, p', s') ∧ asc r ∧ r.size ≤ 1000 ∧ p ≤ p' ∧ p' ≤ p + 404 := by
  intro d
  induction d with
  | zero =>
    intro acc p s ha h h0 h1
    obtain ⟨r, p2, s2, e2, b9, b0, b1, b2⟩ := sureRowA_ok code hc p s n hn h0 (by omega)
    by_cases c : (acc.size : Int) ≤ n
    · refine ⟨acc, p, s, Ev.succ ?_, ha, by omega, by omega, by omega⟩
      simp only [spec_l1Cur_row.l0]
      exact Ev.neg (by omega) (Ev.pos c (Ev.now _))
    · refine ⟨r, p2, s2, Ev.succ ?_, b9, by omega, by omega, by omega⟩
      simp only [spec_l1Cur_row.l0]
      exact Ev.neg (by omega) (Ev.neg c (Ev.bind e2 (Ev.now _)))
  | succ d ih =>
    intro acc p s ha h h0 h1
    have z1 : (⟨#[62]⟩ : ByteArray).size = 1 := rfl
    have z2 : (⟨#[60]⟩ : ByteArray).size = 1 := rfl
    have hs : ((⟨#[62]⟩ : ByteArray) ++ acc).size = 1 + acc.size := by rw [ByteArray.size_append, z1]
    have hs2 : (((⟨#[62]⟩ : ByteArray) ++ acc) ++ (⟨#[60]⟩ : ByteArray)).size = 2 + acc.size := by rw [ByteArray.size_append, hs, z2]; omega
    obtain ⟨r, p2, s2, e2, b9, b0, b1, b2⟩ := ih (((⟨#[62]⟩ : ByteArray) ++ acc) ++ (⟨#[60]⟩ : ByteArray)) p s (asc_app (asc_app (asc_of _ (by decide)) ha) (asc_of _ (by decide))) (by omega) h0 h1
    refine ⟨r, p2, s2, Ev.succ ?_, b9, b0, b1, b2⟩
    simp only [spec_l1Cur_row.l0]
    rw [show ((d + 1 : Nat) : Int) - 1 = (d : Int) by omega, wrap64_id (x := (d : Int)) (by omega) (by omega)]
    exact Ev.pos (by omega) (Ev.pos (by omega) (Ev.pos (by omega) e2))
theorem rowA_ok (code : List Int) (hc : ∀ x ∈ code, 0 ≤ x ∧ x ≤ 255) (p s n : Int) (hn : n ≤ 200) (h0 : 0 ≤ p) (h1 : p ≤ 600000) : ∃ r p' s', Ev (fun k => spec_l1Cur_row.f k code p s n) (r, p', s') ∧ asc r ∧ r.size ≤ 1000 ∧ p ≤ p' ∧ p' ≤ p + 410 := by
  unfold spec_l1Cur_row.f
  obtain ⟨v, p1, s1, e1, v0, v1, q0, q1⟩ := pick_ok code hc p s 14 h0 (by omega)
  rw [e1]
  simp only [Option.bind_some]
  by_cases c0 : v = 0
  · obtain ⟨r, p2, s2, e2, hr, b0, b1⟩ := of_ok code hc p1 s1 [(⟨#[]⟩ : ByteArray), (⟨#[120]⟩ : ByteArray), (⟨#[60, 61]⟩ : ByteArray), (⟨#[62, 32]⟩ : ByteArray), (⟨#[60, 60, 60, 60, 60, 60, 60, 60, 60, 60, 60, 60, 60, 60, 60, 60, 60, 60, 60, 60, 60, 60, 60, 60, 60, 60, 60, 60, 60, 60, 60, 60, 60, 60, 60, 60, 60, 60, 60, 60, 60, 60, 60, 60, 60, 60, 60, 60, 60, 60, 60, 60, 60, 60, 60, 60, 60, 60, 60, 60, 60]⟩ : ByteArray), (⟨#[62, 62, 60, 60, 76, 82]⟩ : ByteArray)] (by simp) (by omega) (by omega)
    have hs : r.size ≤ 1000 := by
      simp only [List.mem_cons, List.not_mem_nil, or_false] at hr
      rcases hr with rfl | rfl | rfl | rfl | rfl | rfl <;> decide
    have ha : asc r := by
      simp only [List.mem_cons, List.not_mem_nil, or_false] at hr
      rcases hr with rfl | rfl | rfl | rfl | rfl | rfl <;> exact asc_of _ (by decide)
    refine ⟨r, p2, s2, Ev.pos c0 ?_, ha, hs, by omega, by omega⟩
    rw [e2]
    exact Ev.now _
  · by_cases c1 : v = 1
    · obtain ⟨u, p2, s2, e2, u0, u1, b0, b1⟩ := pick_ok code hc p1 s1 8 (by omega) (by omega)
      obtain ⟨r, p3, s3, e3, d9, d0, d1, d2⟩ := rowA_loop code hc n hn (2 + u).toNat (⟨#[]⟩ : ByteArray) p2 s2 (asc_of _ (by decide)) (by have : (⟨#[]⟩ : ByteArray).size = 0 := rfl; omega) (by omega) (by omega)
      refine ⟨r, p3, s3, Ev.neg c0 (Ev.pos c1 ?_), d9, d0, by omega, by omega⟩
      rw [e2]
      simp only [Option.bind_some]
      rw [wrap64_id (x := 2 + u) (by omega) (by omega), show 2 + u = (((2 + u).toNat : Nat) : Int) by omega]
      exact e3
    · obtain ⟨r, p3, s3, e3, d9, d0, d1, d2⟩ := sureRowA_ok code hc p1 s1 n hn (by omega) (by omega)
      exact ⟨r, p3, s3, Ev.neg c0 (Ev.neg c1 (Ev.bind e3 (Ev.now _))), d9, by omega, by omega, by omega⟩
theorem asc_bt {x : ByteArray} (h : asc x) {i : Nat} (hi : i < x.size) : bt x (i : Int) < 128 := by
  have hi' : i < (L x).length := by rw [← size_L]; exact hi
  rw [bt_nat x i hi']
  have := h _ (List.getElem_mem hi')
  omega
theorem rows_loop (code : List Int) (hc : ∀ x ∈ code, 0 ≤ x ∧ x ≤ 255) (x : ByteArray) (hx : asc x) (hz : x.size ≤ 1000) : ∀ (d i : Nat) (acc : ByteArray) (p s : Int), i + d = x.size → acc.size ≤ i → 0 ≤ p → p + 2 * d ≤ 900000 →
    ∃ r p' s', Ev (fun k => spec_l1Cur_rows.l0 k x acc code p s (i : Int) x) (x, r, p', s') ∧ r.size ≤ x.size ∧ p ≤ p' ∧ p' ≤ p + 2 * d := by
  intro d
  induction d with
  | zero =>
    intro i acc p s h ha h0 h1
    refine ⟨acc, p, s, Ev.succ ?_, by omega, by omega, by omega⟩
    simp only [spec_l1Cur_rows.l0]
    exact Ev.neg (by omega) (Ev.now _)
  | succ d ih =>
    intro i acc p s h ha h0 h1
    obtain ⟨v, p1, s1, e1, hv, q0, q1⟩ := of_ok code hc p s [(⟨#[60]⟩ : ByteArray), (⟨#[62]⟩ : ByteArray)] (by simp) h0 (by omega)
    have hs : v.size = 1 := by
      simp only [List.mem_cons, List.not_mem_nil, or_false] at hv
      rcases hv with rfl | rfl <;> rfl
    have hsz : (acc ++ v).size = acc.size + 1 := by rw [ByteArray.size_append, hs]
    obtain ⟨r, p2, s2, e2, b0, b1, b2⟩ := ih (i + 1) (acc ++ v) p1 s1 (by omega) (by omega) (by omega) (by omega)
    refine ⟨r, p2, s2, Ev.succ ?_, by omega, by omega, by omega⟩
    simp only [spec_l1Cur_rows.l0]
    rw [e1]
    simp only [Option.bind_some]
    exact Ev.pos (by omega) (Ev.pos (by omega) (Ev.pos (asc_bt hx (by omega)) (Ev.pos (by omega) e2)))
theorem rows_ok (code : List Int) (hc : ∀ x ∈ code, 0 ≤ x ∧ x ≤ 255) : ∃ a b p' s', Ev (fun k => spec_l1Cur_rows.f k code 0 0) (a, b, p', s') ∧ a.size ≤ 1000 ∧ b.size ≤ 1000 ∧ 0 ≤ p' ∧ p' ≤ 5000 := by
  unfold spec_l1Cur_rows.f
  obtain ⟨a, p1, s1, e1, a9, a0, a1, a2⟩ := rowA_ok code hc 0 0 14 (by omega) (by omega) (by omega)
  obtain ⟨o, p2, s2, e2, q0, q1⟩ := one_ok code hc p1 s1 12 (by omega) (by omega)
  cases o
  · obtain ⟨r, p3, s3, e3, b0, b1, b2⟩ := rows_loop code hc a a9 a0 a.size 0 (⟨#[]⟩ : ByteArray) p2 s2 (by omega) (by decide) (by omega) (by omega)
    refine ⟨a, r, p3, s3, Ev.bind e1 ?_, by omega, by omega, by omega, by omega⟩
    rw [e2]
    simp only [Option.bind_some]
    exact Ev.neg (show ¬ (false = true) by decide) e3
  · obtain ⟨b, p3, s3, e3, b9, b0, b1, b2⟩ := rowA_ok code hc p2 s2 14 (by omega) (by omega) (by omega)
    refine ⟨a, b, p3, s3, Ev.bind e1 ?_, by omega, by omega, by omega, by omega⟩
    rw [e2]
    simp only [Option.bind_some]
    exact Ev.pos (by first | rfl | trivial) (Ev.bind e3 (Ev.now _))
theorem wide_ok (code : List Int) (hc : ∀ x ∈ code, 0 ≤ x ∧ x ≤ 255) (p s : Int) (x : ByteArray) (h0 : 0 ≤ p) (h1 : p ≤ 900000) : ∃ v p' s', spec_l1Cur_wide.f code p s x = some (v, p', s') ∧ p ≤ p' ∧ p' ≤ p + 4 := by
  unfold spec_l1Cur_wide.f
  obtain ⟨o, p1, s1, e1, q0, q1⟩ := one_ok code hc p s 10 h0 (by omega)
  rw [e1]
  simp only [Option.bind_some, l1Least_eq, l1Most_eq]
  cases o
  · obtain ⟨v, p2, s2, e2, v0, v1, b0, b1⟩ := pick_ok code hc p1 s1 (mx 1 (mn 5 (x.size : Int))) (by omega) (by omega)
    rw [if_neg (by simp), e2]
    exact ⟨_, p2, s2, rfl, by omega, by omega⟩
  · obtain ⟨v, p2, s2, e2, hv, b0, b1⟩ := among_ok code hc p1 s1 [0, (-1), wrap64 ((x.size : Int) + 1), 4611686018427387904] (by simp) (by omega) (by omega)
    rw [if_pos rfl, e2]
    exact ⟨_, p2, s2, rfl, by omega, by omega⟩
theorem drawW_loop (code : List Int) (hc : ∀ x ∈ code, 0 ≤ x ∧ x ≤ 255) (x6 : ByteArray) (a : List UInt8) (ha : a.all sgn = true) (hn : a.length ≤ 1000) (h6 : x6.size = a.length) (w : Int) (hw : 1 ≤ w) (hw' : w ≤ a.length) : ∀ (d : Nat) (E : Nat → Bool) (p s : Int), 0 ≤ p → p + 2 * d ≤ 900000 → d ≤ 1000 →
    ∃ E', Ev (fun k => spec_DrawCanByWindows.l0 k x6 (bs (msk a E)) w (d : Int) code p s) (x6, bs (msk a E'), w) := by
  intro d
  induction d with
  | zero =>
    intro E p s h0 h1 hd
    refine ⟨E, Ev.succ ?_⟩
    simp only [spec_DrawCanByWindows.l0]
    exact Ev.neg (by omega) (Ev.now _)
  | succ d ih =>
    intro E p s h0 h1 hd
    obtain ⟨v, p1, s1, e1, v0, v1, q0, q1⟩ := pick_ok code hc p s ((a.length : Int) - w + 1) h0 (by omega)
    obtain ⟨E', e2⟩ := ih (fun j => E j ^^ win w.toNat v.toNat j) p1 s1 (by omega) (by omega) (by omega)
    refine ⟨E', Ev.succ ?_⟩
    simp only [spec_DrawCanByWindows.l0]
    rw [h6, wrap64_id (x := (a.length : Int) - w) (by omega) (by omega), wrap64_id (x := (a.length : Int) - w + 1) (by omega) (by omega), e1]
    simp only [Option.bind_some]
    rw [wrap64_id (x := v + w) (by omega) (by omega), wrap64_id (x := v + w - 1) (by omega) (by omega), show ((d + 1 : Nat) : Int) - 1 = (d : Int) by omega, wrap64_id (x := (d : Int)) (by omega) (by omega)]
    have t := odTurn_ev (msk a E) v.toNat (v.toNat + w.toNat - 1) (msk_good ha _) (by rw [msk_len]; exact hn) (by omega) (by rw [msk_len]; omega)
    rw [show ((v.toNat : Nat) : Int) = v by omega, show ((v.toNat + w.toNat - 1 : Nat) : Int) = v + w - 1 by omega, msk_msk ha, win_seg w.toNat v.toNat (by omega)] at t
    exact Ev.pos (by omega) (Ev.bind t e2)
theorem drawWT_ok (code : List Int) (hc : ∀ x ∈ code, 0 ≤ x ∧ x ≤ 255) : ∃ a b w, Ev (fun k => spec_DrawWindowsTo.f k code) (bs a, bs b, w) ∧ a.length ≤ 1000 ∧ b.length ≤ 1000 := by
  unfold spec_DrawWindowsTo.f spec_DrawCanByWindows.f
  obtain ⟨x, y, p1, s1, e1, a0, a1, a2, a3⟩ := rows_ok code hc
  obtain ⟨w, p2, s2, e2, b0, b1⟩ := wide_ok code hc p1 s1 x (by omega) (by omega)
  obtain ⟨a, rfl⟩ : ∃ a, x = bs a := ⟨L x, (bs_L x).symm⟩
  obtain ⟨b, rfl⟩ : ∃ b, y = bs b := ⟨L y, (bs_L y).symm⟩
  rw [bs_size] at a0 a1
  have e3 := odWide_ev a b w (by omega) (by omega)
  have hj : ∀ p s, Ev (fun k => spec_DrawCanByWindows.j0 k (bs a) (bs b) w false code p s) (bs a, bs b, w) := by
    intro p s
    refine Ev.succ ?_
    simp only [spec_DrawCanByWindows.j0]
    exact Ev.neg (by decide) (Ev.now _)
  by_cases g : (otwo a b && decide (1 ≤ w ∧ w ≤ a.length)) = true
  · obtain ⟨o, p3, s3, e4, q0, q1⟩ := one_ok code hc p2 s2 3 (by omega) (by omega)
    cases o
    · obtain ⟨c, p4, s4, e5, c0, c1, r0, r1⟩ := pick_ok code hc p3 s3 6 (by omega) (by omega)
      have g' := g
      simp only [Bool.and_eq_true, decide_eq_true_eq] at g'
      obtain ⟨g1, g2, g3⟩ := ogood_all (otwo_all g'.1).1
      obtain ⟨E', e6⟩ := drawW_loop code hc (bs a) a g1 a0 (bs_size a) w g'.2.1 g'.2.2 c.toNat (fun _ => false) p4 s4 (by omega) (by omega) (by omega)
      rw [msk_zero (fun _ _ => rfl), show ((c.toNat : Nat) : Int) = c by omega] at e6
      refine ⟨a, msk a E', w, Ev.bind (a := (bs a, bs (msk a E'), w)) (Ev.bind e1 ?_) (Ev.now _), a0, by rw [msk_len]; exact a0⟩
      rw [e2]
      simp only [Option.bind_some]
      refine Ev.bind e3 (Ev.pos g ?_)
      rw [e4]
      simp only [Option.bind_some]
      refine Ev.succ ?_
      simp only [spec_DrawCanByWindows.j0, Option.bind_some]
      refine Ev.pos (by first | rfl | trivial) ?_
      rw [e5]
      exact e6
    · refine ⟨a, b, w, Ev.bind (a := (bs a, bs b, w)) (Ev.bind e1 ?_) (Ev.now _), a0, a1⟩
      rw [e2]
      simp only [Option.bind_some]
      refine Ev.bind e3 (Ev.pos g ?_)
      rw [e4]
      simp only [Option.bind_some]
      exact hj _ _
  · refine ⟨a, b, w, Ev.bind (a := (bs a, bs b, w)) (Ev.bind e1 ?_) (Ev.now _), a0, a1⟩
    rw [e2]
    simp only [Option.bind_some]
    exact Ev.bind e3 (Ev.neg g (hj _ _))
theorem drawNT_ok (code : List Int) (hc : ∀ x ∈ code, 0 ≤ x ∧ x ≤ 255) : ∃ a b, Ev (fun k => spec_DrawNeighboursTo.f k code) (bs a, bs b) ∧ a.length ≤ 1000 ∧ b.length ≤ 1000 := by
  unfold spec_DrawNeighboursTo.f spec_DrawFewestRuns.f
  obtain ⟨x, y, p1, s1, e1, a0, a1, a2, a3⟩ := rows_ok code hc
  refine ⟨L x, L y, ?_, by rw [← size_L]; exact a0, by rw [← size_L]; exact a1⟩
  rw [bs_L, bs_L]
  exact Ev.bind (Ev.bind e1 (Ev.now _)) (Ev.now _)
theorem drawPW_loop (code : List Int) (hc : ∀ x ∈ code, 0 ≤ x ∧ x ≤ 255) (x6 : ByteArray) (w : Int) : ∀ (d : Nat) (acc : List Int) (p s : Int), acc.length + d ≤ 1000 → 0 ≤ p → p + 2 * d ≤ 900000 →
    ∃ l, Ev (fun k => spec_DrawPlayWindows.l0 k x6 w acc (d : Int) code p s) (x6, w, l) ∧ l.length ≤ 1001 := by
  have hj : ∀ (acc : List Int) (p s : Int), acc.length ≤ 1000 → 0 ≤ p → p ≤ 900000 → ∃ l, Ev (fun k => spec_DrawPlayWindows.j1 k x6 w acc code p s) (x6, w, l) ∧ l.length ≤ 1001 := by
    intro acc p s h h0 h1
    obtain ⟨o, p1, s1, e1, q0, q1⟩ := one_ok code hc p s 8 h0 (by omega)
    cases o
    · refine ⟨acc, Ev.succ ?_, by omega⟩
      simp only [spec_DrawPlayWindows.j1]
      rw [e1]
      simp only [Option.bind_some]
      exact Ev.neg (show ¬ (false = true) by decide) (Ev.now _)
    · obtain ⟨v, p2, s2, e2, hv, b0, b1⟩ := among_ok code hc p1 s1 [(-1), 0, (x6.size : Int), 4611686018427387904] (by simp) (by omega) (by omega)
      refine ⟨acc ++ [v], Ev.succ ?_, by simp; omega⟩
      simp only [spec_DrawPlayWindows.j1]
      rw [e1]
      simp only [Option.bind_some]
      refine Ev.pos (by first | rfl | trivial) ?_
      rw [e2]
      simp only [Option.bind_some]
      exact Ev.pos (by omega) (Ev.now _)
  intro d
  induction d with
  | zero =>
    intro acc p s h h0 h1
    obtain ⟨l, e, hl⟩ := hj acc p s (by omega) h0 (by omega)
    refine ⟨l, Ev.succ ?_, hl⟩
    simp only [spec_DrawPlayWindows.l0]
    exact Ev.neg (by omega) e
  | succ d ih =>
    intro acc p s h h0 h1
    obtain ⟨l, e, hl⟩ := hj acc p s (by omega) h0 (by omega)
    by_cases c : w > 0 ∧ w ≤ (x6.size : Int)
    · obtain ⟨v, p1, s1, e1, v0, v1, q0, q1⟩ := pick_ok code hc p s (wrap64 (wrap64 ((x6.size : Int) - w) + 1)) h0 (by omega)
      obtain ⟨l2, e2, hl2⟩ := ih (acc ++ [v]) p1 s1 (by simp; omega) (by omega) (by omega)
      refine ⟨l2, Ev.succ ?_, hl2⟩
      simp only [spec_DrawPlayWindows.l0]
      rw [e1, show ((d + 1 : Nat) : Int) - 1 = (d : Int) by omega, wrap64_id (x := (d : Int)) (by omega) (by omega)]
      exact Ev.pos (by omega) (Ev.pos c.1 (Ev.pos c.2 (Ev.pos (by omega) e2)))
    · refine ⟨l, Ev.succ ?_, hl⟩
      simp only [spec_DrawPlayWindows.l0]
      refine Ev.pos (by omega) (Ev.iff (fun c1 => Ev.neg (fun c2 => c ⟨c1, c2⟩) e) (fun _ => e))
theorem drawPW_ok (code : List Int) (hc : ∀ x ∈ code, 0 ≤ x ∧ x ≤ 255) : ∃ e w l, Ev (fun k => spec_DrawPlayWindows.f k code) (bs e, w, l) ∧ e.length ≤ 1000 ∧ l.length ≤ 1001 := by
  unfold spec_DrawPlayWindows.f
  obtain ⟨x, p1, s1, e1, a9, a0, a1, a2⟩ := rowA_ok code hc 0 0 14 (by omega) (by omega) (by omega)
  obtain ⟨w, p2, s2, e2, b0, b1⟩ := wide_ok code hc p1 s1 x (by omega) (by omega)
  obtain ⟨v, p3, s3, e3, v0, v1, q0, q1⟩ := pick_ok code hc p2 s2 5 (by omega) (by omega)
  obtain ⟨l, e4, hl⟩ := drawPW_loop code hc x w v.toNat [] p3 s3 (by simp; omega) (by omega) (by omega)
  rw [show ((v.toNat : Nat) : Int) = v by omega] at e4
  refine ⟨L x, w, l, ?_, by rw [← size_L]; exact a0, hl⟩
  rw [bs_L]
  refine Ev.bind e1 ?_
  rw [e2]
  simp only [Option.bind_some]
  rw [e3]
  exact e4
theorem drawPN_ok (code : List Int) (hc : ∀ x ∈ code, 0 ≤ x ∧ x ≤ 255) : ∃ e l, Ev (fun k => spec_DrawPlayNeighbours.f k code) (bs e, l) ∧ e.length ≤ 1000 ∧ l.length ≤ 1001 := by
  unfold spec_DrawPlayNeighbours.f
  obtain ⟨e, w, l, h, h1, h2⟩ := drawPW_ok code hc
  exact ⟨e, l, Ev.bind h (Ev.now _), h1, h2⟩
theorem drawIO_ok (code : List Int) (hc : ∀ x ∈ code, 0 ≤ x ∧ x ≤ 255) : ∃ n, spec_DrawIdleOrders.f code = some n := by
  unfold spec_DrawIdleOrders.f spec_DrawCountByNeighbours.f
  obtain ⟨v, p, s, e, _, _, _⟩ := among_ok code hc 0 0 [1, 2, 3, 4, 5, 6, 8, 11, 40, 41, 0, (-1)] (by simp) (by omega) (by omega)
  rw [e]; exact ⟨v, rfl⟩
theorem drawCW_ok (code : List Int) (hc : ∀ x ∈ code, 0 ≤ x ∧ x ≤ 255) : ∃ m w, spec_DrawCountByWindows.f code = some (m, w) := by
  unfold spec_DrawCountByWindows.f
  obtain ⟨v, p, s, e, _, q0, q1⟩ := among_ok code hc 0 0 [1, 2, 3, 5, 8, 40, 41, 0] (by simp) (by omega) (by omega)
  obtain ⟨v2, p2, s2, e2, _, _, _⟩ := among_ok code hc p s [1, 2, 3, 8, 40, 41, 0, (-1)] (by simp) (by omega) (by omega)
  rw [e]
  simp only [Option.bind_some]
  rw [e2]; exact ⟨v, v2, rfl⟩
theorem mSame_loop (l : List Int) (hl : l.length ≤ 1000000) : ∀ (d i : Nat), i + d = l.length → Ev (fun k => laws_mSame.l0 k l l (l.length : Int) (i : Int)) true := by
  intro d
  induction d with
  | zero =>
    intro i h
    refine Ev.succ ?_
    simp only [laws_mSame.l0]
    exact Ev.neg (by omega) (Ev.now _)
  | succ d ih =>
    intro i h
    refine Ev.succ ?_
    simp only [laws_mSame.l0]
    rw [show (i : Int) + 1 = ((i + 1 : Nat) : Int) by omega, wrap64_id (x := ((i + 1 : Nat) : Int)) (by omega) (by omega)]
    exact Ev.pos (by omega) (Ev.pos (by omega) (Ev.pos (by omega) (Ev.pos (by omega) (Ev.pos (by first | rfl | trivial) (ih (i + 1) (by omega))))))
theorem mSame_ev (l : List Int) (hl : l.length ≤ 1000000) : Ev (fun k => laws_mSame.f k l l) true := by
  unfold laws_mSame.f
  exact Ev.pos rfl (mSame_loop l hl l.length 0 (by omega))
theorem mRises_loop (l : List Int) (hl : l.length ≤ 1000000) (hp : l.Pairwise (· < ·)) : ∀ (d i : Nat), i + 1 + d = l.length → Ev (fun k => laws_mRises.l0 k l ((i + 1 : Nat) : Int)) true := by
  intro d
  induction d with
  | zero =>
    intro i h
    refine Ev.succ ?_
    simp only [laws_mRises.l0]
    exact Ev.neg (by omega) (Ev.now _)
  | succ d ih =>
    intro i h
    refine Ev.succ ?_
    simp only [laws_mRises.l0]
    have := List.pairwise_iff_getElem.1 hp i (i + 1) (by omega) (by omega) (by omega)
    have e0 : ∀ (j : Nat) (h : j < l.length), rd l (j : Int) = l[j] := fun j h => by simp [rd, h]
    have e1 := e0 i (by omega)
    have e2 := e0 (i + 1) (by omega)
    rw [wrap64_id (x := ((i + 1 : Nat) : Int) - 1) (by omega) (by omega), show ((i + 1 : Nat) : Int) - 1 = (i : Int) by omega, e1, e2, show ((i + 1 : Nat) : Int) + 1 = ((i + 1 + 1 : Nat) : Int) by omega, wrap64_id (x := ((i + 1 + 1 : Nat) : Int)) (by omega) (by omega)]
    exact Ev.pos (by omega) (Ev.pos (by omega) (Ev.pos (by omega) (Ev.pos (by omega) (Ev.neg (by omega) (ih (i + 1) (by omega))))))
theorem mRises_ev (l : List Int) (hl : l.length ≤ 1000000) (hp : l.Pairwise (· < ·)) : Ev (fun k => laws_mRises.f k l) true := by
  unfold laws_mRises.f
  by_cases c : l.length = 0
  · refine Ev.succ ?_
    simp only [laws_mRises.l0]
    exact Ev.neg (by omega) (Ev.now _)
  · exact mRises_loop l hl hp (l.length - 1) 0 (by omega)
theorem mHas_loop (l : List Int) (x : Int) (hl : l.length ≤ 1000000) : ∀ (d i : Nat), i + d = l.length → Ev (fun k => laws_mHas.l0 k x l (l.length : Int) (i : Int)) (decide (x ∈ l.drop i)) := by
  intro d
  induction d with
  | zero =>
    intro i h
    refine Ev.succ ?_
    simp only [laws_mHas.l0]
    rw [List.drop_of_length_le (by omega)]
    exact Ev.neg (by omega) (Ev.const (by simp))
  | succ d ih =>
    intro i h
    refine Ev.succ ?_
    simp only [laws_mHas.l0]
    rw [rd_cons_drop (show i < l.length by omega), show (i : Int) + 1 = ((i + 1 : Nat) : Int) by omega, wrap64_id (x := ((i + 1 : Nat) : Int)) (by omega) (by omega)]
    refine Ev.pos (by omega) (Ev.pos (by omega) (Ev.pos (by omega) (Ev.iff (fun c => ?_) (fun c => ?_))))
    · rw [decide_eq_true (by rw [c]; simp)]; exact Ev.now _
    · have := ih (i + 1) (by omega)
      rw [show decide (x ∈ rd l (i : Int) :: l.drop (i + 1)) = decide (x ∈ l.drop (i + 1)) from decide_eq_decide.2 (by rw [List.mem_cons]; exact ⟨fun h => h.resolve_left (fun e => c e.symm), .inr⟩)]
      exact this
theorem mHas_ev (l : List Int) (x : Int) (hl : l.length ≤ 1000000) : Ev (fun k => laws_mHas.f k l x) (decide (x ∈ l)) := by
  unfold laws_mHas.f
  have := mHas_loop l x hl l.length 0 (by omega)
  rw [List.drop_zero] at this
  exact this
theorem mBefore_ev (x y : Int) (l m : List Int) (h : x < y) : Ev (fun k => laws_mBefore.f k (y :: m) (x :: l)) false := by
  unfold laws_mBefore.f
  refine Ev.succ ?_
  simp only [laws_mBefore.l0]
  have e1 : rd (y :: m) 0 = y := by simp [rd]
  have e2 : rd (x :: l) 0 = x := by simp [rd]
  refine Ev.pos (by simp only [List.length_cons]; omega) ?_
  rw [decide_eq_true (by simp only [List.length_cons]; omega)]
  refine Ev.succ ?_
  simp only [laws_mBefore.j1]
  rw [e1, e2]
  refine Ev.pos (by first | rfl | trivial) (Ev.pos (by omega) (Ev.pos (by simp only [List.length_cons]; omega) (Ev.pos (by simp only [List.length_cons]; omega) (Ev.neg (by omega) (Ev.const ?_)))))
  rw [decide_eq_false (by omega)]
theorem ogood_msk {l : List UInt8} (h : ogood l = true) (p : Nat → Bool) : ogood (msk l p) = true := by
  obtain ⟨g1, g2, g3⟩ := ogood_all h
  unfold ogood rgood
  rw [msk_len, msk_good g1 p, decide_eq_true (by omega), decide_eq_true (by omega)]; rfl
theorem imTA_eq (l : List UInt8) (x : Int) (hg : ogood l = true) (h0 : 0 ≤ x) (h1 : x ≤ (l.length : Int) - 1) : impl_TurnAround.f (bs l) x = some (bs (msk l (near x.toNat)), true) := by
  obtain ⟨g1, g2, g3⟩ := ogood_all hg
  unfold impl_TurnAround.f
  rw [goodI l (by omega), hg, in_eq, bs_size, wrap64_id (x := (l.length : Int) - 1) (by omega) (by omega)]
  simp only [Option.bind_some]
  have t := turnAround_eq l x.toNat g1 (by omega) (by omega)
  rw [show ((x.toNat : Nat) : Int) = x by omega] at t
  simp only [if_true]
  rw [if_pos (by rw [decide_eq_true_eq]; omega), t]; rfl
theorem or_l2 (e : List UInt8) (he : ogood e = true) (l : List Int) (hl : l.length ≤ 1000000) (hv : l.all (fun x => decide (0 ≤ x ∧ x ≤ (e.length : Int) - 1)) = true) : ∀ (d i : Nat) (E : Nat → Bool), i + d = l.length → (fun j => E j ^^ pn (l.drop i) j) = pn l →
    Ev (fun k => laws_FnOrdersReach.l2 k (bs (msk e (pn l))) (bs (msk e E)) l (l.length : Int) (i : Int)) true := by
  obtain ⟨g1, g2, g3⟩ := ogood_all he
  intro d
  induction d with
  | zero =>
    intro i E h hE
    refine Ev.succ ?_
    simp only [laws_FnOrdersReach.l2]
    rw [List.drop_of_length_le (by omega)] at hE
    simp only [pn, Bool.xor_false] at hE
    refine Ev.neg (by omega) (Ev.const ?_)
    rw [← hE]; simp
  | succ d ih =>
    intro i E h hE
    refine Ev.succ ?_
    simp only [laws_FnOrdersReach.l2]
    have c' := List.all_eq_true.1 hv _ (rd_mem (show i < l.length by omega))
    rw [decide_eq_true_eq] at c'
    rw [rd_cons_drop (show i < l.length by omega)] at hE
    rw [show (i : Int) + 1 = ((i + 1 : Nat) : Int) by omega, wrap64_id (x := ((i + 1 : Nat) : Int)) (by omega) (by omega)]
    generalize rd l (i : Int) = x at c' hE
    rw [imTA_eq (msk e E) x (ogood_msk he E) c'.1 (by rw [msk_len]; exact c'.2), msk_msk g1]
    simp only [Option.bind_some]
    have := ih (i + 1) (fun j => E j ^^ near x.toNat j) (by omega) (by rw [step_pn]; exact hE)
    exact Ev.pos (by omega) (Ev.pos (by omega) (Ev.pos (by omega) (Ev.pos (by first | rfl | trivial) this)))
theorem or_j9 (f : List UInt8) (l : List Int) (hf : f.length ≤ 1000) (hl : l.length ≤ 1001) : Ev (fun k => laws_FnOrdersReach.j9 k (bs f) l (pnb f l).1 (pnb f l).2 false) true := by
  refine Ev.succ ?_
  simp only [laws_FnOrdersReach.j9]
  refine Ev.neg (by decide) ?_
  by_cases c : ogood f = true ∧ l.length ≤ 100 ∧ l.all (fun x => decide (0 ≤ x ∧ x ≤ (f.length : Int) - 1)) = true
  · have e : pnb f l = (bs (msk f (pn l)), true) := by unfold pnb; rw [if_pos c]
    rw [e]
    have := or_l2 f c.1 l (by omega) c.2.2 l.length 0 (fun _ => false) (by omega) (by funext j; rw [List.drop_zero, Bool.false_xor])
    rw [msk_zero (fun _ _ => rfl)] at this
    exact Ev.pos (by first | rfl | trivial) this
  · have e : pnb f l = (bs [], false) := by unfold pnb; rw [if_neg c]
    rw [e]
    exact Ev.neg (by simp) (Ev.now _)
theorem or_j8 (m w : Int) (f : List UInt8) (l : List Int) (hf : f.length ≤ 1000) (hl : l.length ≤ 1001) : Ev (fun k => laws_FnOrdersReach.j8 k m w (cbw m w).1 (cbw m w).2 (bs f) l (pnb f l).1 (pnb f l).2) true := by
  refine Ev.succ ?_
  simp only [laws_FnOrdersReach.j8]
  by_cases c : (1 ≤ m ∧ m ≤ 40) ∧ 1 ≤ w ∧ w ≤ m
  · have e : cbw m w = (shl .i64 1 (wrap64 (wrap64 (m - w) + 1)), true) := by unfold cbw; rw [if_pos c]
    have e1 := wrap64_id (x := m - w) (by omega) (by omega)
    have e2 := wrap64_id (x := m - w + 1) (by omega) (by omega)
    rw [e]
    refine Ev.pos (by first | rfl | trivial) (Ev.pos (by rw [e1, e2]; omega) ?_)
    rw [show (shl .i64 1 (wrap64 (wrap64 (m - w) + 1)) != shl .i64 1 (wrap64 (wrap64 (m - w) + 1))) = false by simp]
    exact or_j9 f l hf hl
  · have e : cbw m w = (0, false) := by unfold cbw; rw [if_neg c]
    rw [e]
    exact Ev.neg (by simp) (or_j9 f l hf hl)
theorem lst_in (x : Nat → Bool) (n : Nat) : (lst x 0 n).all (fun y => decide (0 ≤ y ∧ y ≤ (n : Int) - 1)) = true := by
  rw [List.all_eq_true]
  intro y hy
  obtain ⟨k, h1, h2, h3, h4⟩ := (lst_mem x n 0 y).1 hy
  rw [decide_eq_true_eq]; omega
theorem play_who {c : List UInt8} (hc : ogood c = true) (D : Nat → Bool) (f : Bool) (h : who D f c.length = false) : pnb c (lst (who D f) 0 c.length) = (bs (msk c D), true) := by
  obtain ⟨g1, g2, g3⟩ := ogood_all hc
  have hl := lst_len (who D f) c.length 0
  unfold pnb
  rw [if_pos ⟨hc, by omega, lst_in _ _⟩]
  congr 2
  refine msk_congr (fun j hj => ?_)
  rw [lst_pn]
  have := cov_nul D f c.length g2
  rw [h, Bool.not_false, nul_iff] at this
  have := this j hj
  generalize D j = a at this ⊢
  generalize cov (who D f) c.length j = b at this ⊢
  cases a <;> cases b <;> simp_all
theorem rep_good (n : Nat) (h : 1 ≤ n) (h' : n ≤ 40) : ogood (List.replicate n (60 : UInt8)) = true := by
  unfold ogood rgood
  rw [List.length_replicate, decide_eq_true (by omega), decide_eq_true (by omega)]
  simp only [Bool.true_and, Bool.and_true, List.all_eq_true, List.mem_replicate]
  rintro x ⟨_, rfl⟩; rfl
theorem or_l1 (n : Nat) (h1 : 1 ≤ n) (h2 : n ≤ 40) (h3 : n % 3 = 2) (m w : Int) (f : List UInt8) (l : List Int) (hf : f.length ≤ 1000) (hl : l.length ≤ 1001) : ∀ (d i : Nat), i + d = n →
    Ev (fun k => laws_FnOrdersReach.l1 k (n : Int) (lst (who zer true) 0 n) m w (cbw m w).1 (cbw m w).2 (bs f) l (pnb f l).1 (pnb f l).2 (bs (List.replicate i 60)) (i : Int)) true := by
  intro d
  induction d with
  | zero =>
    intro i h
    obtain rfl : i = n := by omega
    have hz := rep_good i h1 h2
    have hll := lst_len (who zer true) i 0
    have hp := play_who hz zer true (by rw [List.length_replicate, who_three i (by omega)]; simp [h3])
    rw [List.length_replicate, msk_zero (fun _ _ => rfl)] at hp
    have e := imPlayN_ev (List.replicate i 60) (lst (who zer true) 0 i) (by simp; omega) (by omega)
    rw [hp] at e
    refine Ev.succ ?_
    simp only [laws_FnOrdersReach.l1]
    refine Ev.neg (by omega) (Ev.bind e (Ev.pos (by first | rfl | trivial) (Ev.pos rfl (Ev.neg ?_ (Ev.bind (mRises_ev _ (by omega) (lst_rise _ _ _)) (Ev.pos (by first | rfl | trivial) (or_j8 m w f l hf hl)))))))
    obtain ⟨q, rfl⟩ : ∃ q, i = q + 1 := ⟨i - 1, by omega⟩
    rw [lst_true, List.length_cons]; omega
  | succ d ih =>
    intro i h
    have e : bs (List.replicate i 60) ++ (⟨#[60]⟩ : ByteArray) = bs (List.replicate (i + 1) 60) := by
      have : (⟨#[60]⟩ : ByteArray) = bs [60] := rfl
      rw [this, bs_append, ← List.replicate_succ']
    have z := bs_size (List.replicate i (60 : UInt8))
    rw [List.length_replicate] at z
    refine Ev.succ ?_
    simp only [laws_FnOrdersReach.l1]
    rw [e, show (i : Int) + 1 = ((i + 1 : Nat) : Int) by omega, wrap64_id (x := ((i + 1 : Nat) : Int)) (by omega) (by omega)]
    exact Ev.pos (by omega) (Ev.pos (by omega) (ih (i + 1) (by omega)))
theorem or_j6 (n m w : Int) (f : List UInt8) (l : List Int) (hf : f.length ≤ 1000) (hl : l.length ≤ 1001) : Ev (fun k => laws_FnOrdersReach.j6 k n (idl n).1 (idl n).2 m w (cbw m w).1 (cbw m w).2 (bs f) l (pnb f l).1 (pnb f l).2) true := by
  refine Ev.succ ?_
  simp only [laws_FnOrdersReach.j6]
  by_cases c : (1 ≤ n ∧ n ≤ 40) ∧ n.toNat % 3 = 2
  · have e : idl n = (lst (who zer true) 0 n.toNat, true) := by unfold idl; rw [if_pos c]
    rw [e]
    have := or_l1 n.toNat (by omega) (by omega) c.2 m w f l hf hl n.toNat 0 (by omega)
    rw [show ((n.toNat : Nat) : Int) = n by omega] at this
    exact Ev.pos (by first | rfl | trivial) this
  · have e : idl n = ([], false) := by unfold idl; rw [if_neg c]
    rw [e]
    exact Ev.neg (by simp) (or_j8 m w f l hf hl)
theorem or_j5 (n m w : Int) (f : List UInt8) (l : List Int) (hf : f.length ≤ 1000) (hl : l.length ≤ 1001) : Ev (fun k => laws_FnOrdersReach.j5 k n (idl n).1 (idl n).2 (cbn n).1 (cbn n).2 m w (cbw m w).1 (cbw m w).2 (bs f) l (pnb f l).1 (pnb f l).2) true := by
  have h6 := or_j6 n m w f l hf hl
  refine Ev.succ ?_
  simp only [laws_FnOrdersReach.j5]
  by_cases c : 1 ≤ n ∧ n ≤ 40
  · have w1 := wrap64_id (x := n - 1) (by omega) (by omega)
    by_cases d : n.toNat % 3 = 2
    · have e : idl n = (lst (who zer true) 0 n.toNat, true) := by unfold idl; rw [if_pos ⟨c, d⟩]
      have e2 : cbn n = (shl .i64 1 (wrap64 (n - 1)), true) := by unfold cbn; rw [if_pos c, if_pos d]
      rw [e] at h6
      rw [e, e2]
      refine Ev.pos (by first | rfl | trivial) (Ev.neg ?_ (Ev.pos (by first | rfl | trivial) (Ev.pos (by rw [w1]; omega) (Ev.pos rfl h6))))
      rw [tmod_nn (by omega), show n % 3 = 2 by omega]; simp
    · have e : idl n = ([], false) := by unfold idl; rw [if_neg (fun x => d x.2)]
      have e2 : cbn n = (shl .i64 1 n, true) := by unfold cbn; rw [if_pos c, if_neg d]
      rw [e] at h6
      rw [e, e2]
      refine Ev.pos (by first | rfl | trivial) (Ev.neg ?_ (Ev.neg (by simp) (Ev.pos (by omega) (Ev.pos rfl h6))))
      rw [tmod_nn (by omega), show (n % 3 == 2) = false by rw [beq_eq_false_iff_ne]; omega]; simp
  · have e2 : cbn n = (0, false) := by unfold cbn; rw [if_neg c]
    rw [e2]
    exact Ev.neg (by simp) h6
theorem nres_is (n : Nat) (D : Nat → Bool) (h : (nres n D).2 = true) : ∃ f, nres n D = (lst (who D f) 0 n, true) ∧ who D f n = false ∧ (who D (!f) n = false → (lst (who D f) 0 n).length ≤ (lst (who D (!f)) 0 n).length ∧ (f = false → (lst (who D f) 0 n).length < (lst (who D (!f)) 0 n).length)) := by
  unfold nres at h ⊢
  by_cases c : who D true n = false ∧ (who D false n = true ∨ (lst (who D true) 0 n).length ≤ (lst (who D false) 0 n).length)
  · rw [if_pos c]
    refine ⟨true, rfl, c.1, fun h2 => ⟨?_, fun x => absurd x (by decide)⟩⟩
    rcases c.2 with c2 | c2
    · rw [Bool.not_true, c2] at h2; exact absurd h2 (by decide)
    · exact c2
  · rw [if_neg c] at h ⊢
    by_cases d : who D false n = false
    · rw [if_pos d]
      refine ⟨false, rfl, d, fun h2 => ?_⟩
      rw [Bool.not_false] at h2 ⊢
      have : ¬ (lst (who D true) 0 n).length ≤ (lst (who D false) 0 n).length := fun x => c ⟨h2, .inr x⟩
      exact ⟨by omega, fun _ => by omega⟩
    · rw [if_neg d] at h; exact absurd h (by simp)
theorem or_l0 (c d : List UInt8) (D : Nat → Bool) (hc : ogood c = true) (hd : msk c D = d) (f : Bool) (hw : who D f c.length = false) (h3 : c.length % 3 = 2)
    (hb : who D (!f) c.length = false → (lst (who D f) 0 c.length).length ≤ (lst (who D (!f)) 0 c.length).length ∧ (f = false → (lst (who D f) 0 c.length).length < (lst (who D (!f)) 0 c.length).length))
    (y30 : Int) (y31 : List Int) (y32 : Bool) (y35 : Int) (y36 : Bool) (y39 y40 y41 : Int) (y42 : Bool) (y52 : ByteArray) (y53 : List Int) (y54 : ByteArray) (y55 : Bool)
    (h5 : Ev (fun k => laws_FnOrdersReach.j5 k y30 y31 y32 y35 y36 y39 y40 y41 y42 y52 y53 y54 y55) true) : ∀ (e i : Nat) (acc : List Int), i + e = c.length → acc.length ≤ i → acc ++ lst (who D (!f)) i e = lst (who D (!f)) 0 c.length →
    Ev (fun k => laws_FnOrdersReach.l0 k (bs c) (bs d) (lst (who D f) 0 c.length) y30 y31 y32 y35 y36 y39 y40 y41 y42 y52 y53 y54 y55 (lst (who zer true) 0 c.length) acc (i : Int) (bs c)) true := by
  obtain ⟨g1, g2, g3⟩ := ogood_all hc
  have z := bs_size c
  have l1 := lst_len (who D f) c.length 0
  have l2 := lst_len (who zer true) c.length 0
  have l3 := lst_len (who D (!f)) c.length 0
  have hw2 : who D (!f) c.length = false := by rw [who_lin, hw, who_three _ (by omega)]; simp [h3]
  intro e
  induction e with
  | zero =>
    intro i acc h ha he
    simp only [lst, List.append_nil] at he
    subst he
    obtain ⟨b1, b2⟩ := hb hw2
    have hp := play_who hc D (!f) hw2
    rw [hd] at hp
    have ep := imPlayN_ev c (lst (who D (!f)) 0 c.length) (by omega) (by omega)
    rw [hp] at ep
    refine Ev.succ ?_
    simp only [laws_FnOrdersReach.l0]
    refine Ev.neg (by omega) (Ev.bind ep (Ev.pos (by first | rfl | trivial) (Ev.pos rfl (Ev.neg (by omega) (Ev.iff (fun hq => ?_) (fun _ => h5))))))
    have hq' : (lst (who D (!f)) 0 c.length).length = (lst (who D f) 0 c.length).length := by omega
    cases f
    · exact absurd (b2 rfl) (by omega)
    · obtain ⟨q, eq⟩ : ∃ q, c.length = q + 1 := ⟨c.length - 1, by omega⟩
      rw [Bool.not_true] at hq' ⊢
      have hbf : Ev (fun k => laws_mBefore.f k (lst (who D false) 0 c.length) (lst (who D true) 0 c.length)) false := by
        rw [eq, lst_true, lst_false]
        rw [eq, lst_true, lst_false] at hq'
        cases e : lst (who D false) 1 q with
        | nil => rw [e] at hq'; simp at hq'
        | cons y r =>
          obtain ⟨k, hk, hk1, _, _⟩ := (lst_mem (who D false) q 1 y).1 (by rw [e]; simp)
          exact mBefore_ev 0 y _ _ (by omega)
      exact Ev.bind hbf (Ev.neg (by decide) h5)
  | succ e ih =>
    intro i acc h ha he
    refine Ev.succ ?_
    simp only [laws_FnOrdersReach.l0]
    have hi : i < c.length := by omega
    have hbt : bt (bs c) (i : Int) < 128 := by
      rw [bs_bt c i hi]
      rcases sgn_is (all_get g1 hi) with x | x <;> rw [x] <;> decide
    have mem : ∀ x : Nat → Bool, decide (((i : Nat) : Int) ∈ lst x 0 c.length) = x i := by
      intro x
      cases hx : x i
      · refine decide_eq_false (fun y => ?_)
        obtain ⟨k, k1, k2, k3, k4⟩ := (lst_mem x c.length 0 _).1 y
        obtain rfl : k = i := by omega
        rw [hx] at k4; exact absurd k4 (by decide)
      · exact decide_eq_true ((lst_mem x c.length 0 _).2 ⟨i, rfl, by omega, by omega, hx⟩)
    have m1 := mHas_ev (lst (who D f) 0 c.length) ((i : Nat) : Int) (by omega)
    have m2 := mHas_ev (lst (who zer true) 0 c.length) ((i : Nat) : Int) (by omega)
    rw [mem] at m1 m2
    refine Ev.pos (by omega) (Ev.pos (by omega) (Ev.pos hbt (Ev.bind m1 (Ev.bind m2 ?_))))
    have ex : (who D f i != who zer true i) = who D (!f) i := by rw [who_lin]
    rw [ex, show (i : Int) + 1 = ((i + 1 : Nat) : Int) by omega]
    simp only [lst] at he
    refine Ev.iff (fun x => ?_) (fun x => ?_)
    · rw [if_pos x, ← List.append_assoc] at he
      exact Ev.pos (by omega) (ih (i + 1) _ (by omega) (by simp; omega) he)
    · rw [if_neg x, List.nil_append] at he
      exact ih (i + 1) _ (by omega) (by omega) he
theorem or_j3 (c d : List UInt8) (hc : c.length ≤ 1000) (hd : d.length ≤ 1000) (n m w : Int) (f : List UInt8) (l : List Int) (hf : f.length ≤ 1000) (hl : l.length ≤ 1001) :
    Ev (fun k => laws_FnOrdersReach.j3 k (bs c) (bs d) (nto c d).1 (nto c d).2 n (idl n).1 (idl n).2 (cbn n).1 (cbn n).2 m w (cbw m w).1 (cbw m w).2 (bs f) l (pnb f l).1 (pnb f l).2 false) true := by
  have h5 := or_j5 n m w f l hf hl
  refine Ev.succ ?_
  simp only [laws_FnOrdersReach.j3]
  refine Ev.neg (by decide) ?_
  by_cases g : otwo c d = true
  · have e : nto c d = nres c.length (dif c d) := by unfold nto; rw [if_pos g]
    rw [e]
    refine Ev.iff (fun x => ?_) (fun _ => h5)
    obtain ⟨v, e1, e2, e3⟩ := nres_is _ _ x
    rw [e1]
    obtain ⟨o1, o2, o3⟩ := otwo_all g
    obtain ⟨g1, g2, g3⟩ := ogood_all o1
    obtain ⟨k1, k2, k3⟩ := ogood_all o2
    have hm : msk c (dif c d) = d := by rw [dif_comm]; exact msk_dif k1 g1 o3.symm
    have hp := play_who o1 (dif c d) v e2
    rw [hm] at hp
    have hll := lst_len (who (dif c d) v) c.length 0
    have ep := imPlayN_ev c (lst (who (dif c d) v) 0 c.length) (by omega) (by omega)
    rw [hp] at ep
    have z := bs_size c
    refine Ev.bind ep (Ev.pos (by first | rfl | trivial) (Ev.pos rfl (Ev.bind (mRises_ev _ (by simp only; omega) (lst_rise _ _ _)) (Ev.pos (by first | rfl | trivial) (Ev.neg ?_ ?_)))))
    · rw [wrap64_id (by simp only; omega) (by simp only; omega), wrap64_id (by omega) (by omega), z]; simp only; omega
    · rw [z]
      refine Ev.bind (imIO_ev (c.length : Int)) ?_
      by_cases c3 : c.length % 3 = 2
      · have ei : idl (c.length : Int) = (lst (who zer true) 0 c.length, true) := by unfold idl; rw [if_pos ⟨by omega, by simpa using c3⟩, Int.toNat_natCast]
        rw [ei]
        exact Ev.pos (by first | rfl | trivial) (or_l0 c d (dif c d) o1 hm v e2 c3 e3 _ _ _ _ _ _ _ _ _ _ _ _ _ h5 c.length 0 [] (by omega) (by simp) (by rw [List.nil_append]))
      · have ei : idl (c.length : Int) = ([], false) := by unfold idl; rw [if_neg (fun x => c3 (by simpa using x.2))]
        rw [ei]
        exact Ev.neg (by simp) h5
  · have e : nto c d = ([], false) := by unfold nto; rw [if_neg g]
    rw [e]
    exact Ev.neg (by simp) h5
theorem or_j2 (more : List Int) (hm : ∀ x ∈ more, 0 ≤ x ∧ x ≤ 255) : Ev (fun k => laws_FnOrdersReach.j2 k more false) true := by
  refine Ev.succ ?_
  simp only [laws_FnOrdersReach.j2]
  refine Ev.neg (by decide) ?_
  obtain ⟨c, d, e1, hc, hd⟩ := drawNT_ok more hm
  obtain ⟨n, e2⟩ := drawIO_ok more hm
  obtain ⟨m, w, e3⟩ := drawCW_ok more hm
  obtain ⟨e, z, at_, e4, he, hat⟩ := drawPW_ok more hm
  obtain ⟨f, l, e5, hf, hl⟩ := drawPN_ok more hm
  refine Ev.bind e1 (Ev.bind (imNTo_ev c d (by omega) (by omega)) (Ev.bind (spNTo_ev c d (by omega) (by omega)) (Ev.bind (imNCan_ev c d (by omega) (by omega)) (Ev.bind (spNCan_ev c d (by omega) (by omega)) ?_))))
  rw [e2]
  simp only [Option.bind_some]
  refine Ev.bind (imIO_ev n) (Ev.bind (spIO_ev n) (Ev.bind (imCBN_ev n) (Ev.bind (spCBN_ev n) ?_)))
  rw [e3]
  simp only [Option.bind_some]
  rw [imCBW_eq, spCBW_eq]
  simp only [Option.bind_some]
  refine Ev.bind e4 (Ev.bind (imPlayW_ev e z at_ (by omega) (by omega)) (Ev.bind (spPlayW_ev e z at_ (by omega) (by omega)) (Ev.bind e5 (Ev.bind (imPlayN_ev f l (by omega) (by omega)) (Ev.bind (spPlayN_ev f l (by omega) (by omega)) ?_)))))
  have hlen : (nto c d).1.length ≤ 1000000 := by
    unfold nto nres
    have h1 := lst_len (who (dif c d) true) c.length 0
    have h2 := lst_len (who (dif c d) false) c.length 0
    split
    · split
      · simp only; omega
      · split
        · simp only; omega
        · simp
    · simp
  have ilen : (idl n).1.length ≤ 1000000 := by
    unfold idl
    split
    · rename_i x
      have := lst_len (who zer true) n.toNat 0
      simp only; omega
    · simp
  have h3 := or_j3 c d hc hd n m w f l hf hl
  have hs : (idl n).2 = true → (cbn n).2 = true := by
    unfold idl cbn
    intro x
    split at x
    · rename_i y
      rw [if_pos y.1, if_pos y.2]
    · exact absurd x (by simp)
  have hcan : (nto c d).2 = ((ncan c d).2 && (ncan c d).1) := by
    unfold nto ncan
    split
    · simp
    · rfl
  simp only [bne_self_eq_false, Bool.false_eq_true, if_false, if_true]
  have hlast : Ev (fun k => (laws_mSame.f k (idl n).1 (idl n).1).bind fun t => if t = true then (if (idl n).2 = true then (laws_FnOrdersReach.j3 k (bs c) (bs d) (nto c d).1 (nto c d).2 n (idl n).1 (idl n).2 (cbn n).1 (cbn n).2 m w (cbw m w).1 (cbw m w).2 (bs f) l (pnb f l).1 (pnb f l).2 (!(cbn n).2)) else (laws_FnOrdersReach.j3 k (bs c) (bs d) (nto c d).1 (nto c d).2 n (idl n).1 (idl n).2 (cbn n).1 (cbn n).2 m w (cbw m w).1 (cbw m w).2 (bs f) l (pnb f l).1 (pnb f l).2 false)) else some false) true := by
    refine Ev.bind (mSame_ev _ ilen) (Ev.pos (by first | rfl | trivial) (Ev.iff (fun x => ?_) (fun _ => h3)))
    have hx := hs x
    rw [hx] at h3 ⊢; exact h3
  refine Ev.bind (mSame_ev _ hlen) (Ev.pos (by first | rfl | trivial) ?_)
  refine Ev.iff (fun x => ?_) (fun x => ?_)
  · refine Ev.neg ?_ hlast
    rw [hcan, x]; simp
  · rw [Bool.not_eq_true] at x
    refine Ev.neg ?_ hlast
    rw [hcan, x]; simp
theorem or_j1 (more : List Int) (hm : ∀ x ∈ more, 0 ≤ x ∧ x ≤ 255) (a b : List UInt8) (w : Int) : Ev (fun k => laws_FnOrdersReach.j1 k more w (wcan a b w).1 (wcan a b w).2) true := by
  have h2 := or_j2 more hm
  refine Ev.succ ?_
  simp only [laws_FnOrdersReach.j1]
  refine Ev.iff (fun x => Ev.iff (fun y => ?_) (fun _ => h2)) (fun _ => h2)
  have hc : (wcan a b w).1 = true := by
    subst y
    unfold wcan at x ⊢
    by_cases g : otwo a b = true ∧ (1 : Int) ≤ 1 ∧ (1 : Int) ≤ a.length
    · rw [if_pos g]
      have : nul a.length (wgo (Int.toNat 1) (a.length + 1 - Int.toNat 1) 0 (dif a b)).2 = true := (nul_iff _ _).2 (fun j hj => wgo_zero (Int.toNat 1) (by decide) _ 0 _ j (by omega) (by show j < 0 + (a.length + 1 - 1); omega))
      unfold wres wend
      rw [if_pos this]
    · rw [if_neg g] at x; exact absurd x (by simp)
  rw [hc]; exact h2
theorem wto_is {a b : List UInt8} {w : Int} (h : (wto a b w).2 = true) : otwo a b = true ∧ 1 ≤ w ∧ w ≤ a.length ∧ nul a.length (wgo w.toNat (a.length + 1 - w.toNat) 0 (dif a b)).2 = true ∧ wto a b w = ((wgo w.toNat (a.length + 1 - w.toNat) 0 (dif a b)).1, true) := by
  unfold wto at h ⊢
  by_cases g : otwo a b = true ∧ 1 ≤ w ∧ w ≤ a.length
  · rw [if_pos g] at h ⊢
    unfold wres at h ⊢
    rw [wend_two] at h ⊢
    by_cases c : nul a.length (wgo w.toNat (a.length + 1 - w.toNat) 0 (dif a b)).2 = true
    · rw [if_pos c]; exact ⟨g.1, g.2.1, g.2.2, c, rfl⟩
    · rw [if_neg c] at h; exact absurd h (by simp)
  · rw [if_neg g] at h; exact absurd h (by simp)
theorem or_j0 (more : List Int) (hm : ∀ x ∈ more, 0 ≤ x ∧ x ≤ 255) (a b : List UInt8) (w : Int) (ha : a.length ≤ 1000) (hb : b.length ≤ 1000) :
    Ev (fun k => laws_FnOrdersReach.j0 k more (bs a) (bs b) w (wto a b w).1 (wto a b w).2 (wcan a b w).1 (wcan a b w).2 false) true := by
  have h1 := or_j1 more hm a b w
  refine Ev.succ ?_
  simp only [laws_FnOrdersReach.j0]
  refine Ev.neg (by decide) (Ev.iff (fun x => ?_) (fun _ => h1))
  obtain ⟨g, w1, w2, hn, e⟩ := wto_is x
  obtain ⟨o1, o2, o3⟩ := otwo_all g
  obtain ⟨g1, g2, g3⟩ := ogood_all o1
  obtain ⟨k1, k2, k3⟩ := ogood_all o2
  have hll := wgo_len w.toNat (a.length + 1 - w.toNat) 0 (dif a b)
  have hr := wgo_rise w.toNat (a.length + 1 - w.toNat) 0 (dif a b)
  have hmem : ∀ y ∈ (wgo w.toNat (a.length + 1 - w.toNat) 0 (dif a b)).1, 0 ≤ y ∧ y ≤ (a.length : Int) - w := fun y hy => by
    have := wgo_mem w.toNat (a.length + 1 - w.toNat) 0 (dif a b) y hy; omega
  have hpar := wgo_par w.toNat (a.length + 1 - w.toNat) 0 (dif a b)
  rw [e]
  generalize wgo w.toNat (a.length + 1 - w.toNat) 0 (dif a b) = r at hll hr hmem hn hpar e
  have hm2 : msk a (pl w.toNat r.1) = b := by
    rw [msk_congr (q := dif a b)]
    · rw [dif_comm]; exact msk_dif k1 g1 o3.symm
    · intro j hj
      have h1 := (nul_iff _ _).1 hn j hj
      rw [hpar] at h1
      generalize dif a b j = u at h1 ⊢
      generalize pl w.toNat r.1 j = v at h1 ⊢
      cases u <;> cases v <;> simp_all
  have hp : pw a w r.1 = (bs b, true) := by
    unfold pw
    rw [if_pos ⟨⟨o1, w1, w2⟩, by omega, List.all_eq_true.2 (fun y hy => by rw [decide_eq_true_eq]; exact hmem y hy)⟩, hm2]
  have ep := imPlayW_ev a w r.1 (by omega) (by omega)
  rw [hp] at ep
  have hb2 : wto b a w = (r.1, true) := by
    rw [← e]
    unfold wto
    rw [otwo_comm, dif_comm, o3]
  have eb := imWindowsTo_ev b a w (by omega) (by omega)
  rw [hb2] at eb
  exact Ev.bind ep (Ev.bind eb (Ev.pos (by first | rfl | trivial) (Ev.pos rfl (Ev.bind (mRises_ev _ (by simp only; omega) hr) (Ev.pos (by first | rfl | trivial) (Ev.pos (by first | rfl | trivial) (Ev.bind (mSame_ev _ (by simp only; omega)) (Ev.pos (by first | rfl | trivial) h1))))))))
theorem FnOrdersReach : StatFnOrdersReach := by
  intro code more hl0 hc hl1 hm
  refine Ev.get ?_
  unfold laws_FnOrdersReach.f laws_big.f
  obtain ⟨a, b, w, e1, ha, hb⟩ := drawWT_ok code hc
  by_cases hbg : (code.length : Int) > 1048576
  · simp only [if_pos hbg, Option.bind_some]
    exact Ev.pos (by first | rfl | trivial) (Ev.now _)
  simp only [if_neg hbg, Option.bind_some]
  refine Ev.iff (fun _ => Ev.now _) (fun _ => Ev.bind e1 ?_)
  have hlen : (wto a b w).1.length ≤ 1000000 := by
    by_cases x : (wto a b w).2 = true
    · obtain ⟨g, w1, w2, hn, e⟩ := wto_is x
      have := wgo_len w.toNat (a.length + 1 - w.toNat) 0 (dif a b)
      rw [e]; simp only; omega
    · unfold wto wres at x ⊢
      split at x
      · rename_i y
        rw [if_pos y]
        unfold wend at x ⊢
        split at x
        · exact absurd rfl x
        · rename_i z; rw [if_neg z]; simp
      · rename_i y; rw [if_neg y]; simp
  have h0 := or_j0 more hm a b w ha hb
  have hcan : (wto a b w).2 = ((wcan a b w).2 && (wcan a b w).1) := by
    unfold wto wcan
    split
    · simp
    · rfl
  refine Ev.bind (imWindowsTo_ev a b w (by omega) (by omega)) (Ev.bind (spWindowsTo_ev a b w (by omega) (by omega)) (Ev.bind (imCanW_ev a b w (by omega) (by omega)) (Ev.bind (spCanW_ev a b w (by omega) (by omega)) ?_)))
  simp only [bne_self_eq_false, Bool.false_eq_true, if_false, if_true]
  refine Ev.bind (mSame_ev _ hlen) (Ev.pos (by first | rfl | trivial) ?_)
  refine Ev.iff (fun x => ?_) (fun x => ?_)
  · rw [show ((wto a b w).2 != (wcan a b w).1) = false by rw [hcan, x]; simp]; exact h0
  · rw [Bool.not_eq_true] at x
    rw [show ((wto a b w).2 != false) = false by rw [hcan, x]; simp]; exact h0

end Go.Proofs.YtnkklkpbchffkaaGreatDoor.Pure
