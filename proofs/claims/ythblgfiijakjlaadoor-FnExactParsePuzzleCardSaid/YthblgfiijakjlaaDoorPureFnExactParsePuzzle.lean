/- The law FnExactParsePuzzle, pure: what the printed functions answer, and that it is what the law asks. No condition. -/
import Derived.Test.YthblgfiijakjlaaDoorStatFnExactParsePuzzle
import Derived.Test.YthblgfiijakjlaaDoorPlBase
import Derived.Test.YthblgfiijakjlaaDoorPlList
import Derived.Test.YthblgfiijakjlaaDoorPlClue
import Derived.Test.YthblgfiijakjlaaDoorPlBytes
import Derived.Test.YthblgfiijakjlaaDoorPlTick
import Derived.Test.YthblgfiijakjlaaDoorPlRow
import Derived.Test.YthblgfiijakjlaaDoorPlNum
import Derived.Test.YthblgfiijakjlaaDoorPlTail
import Derived.Test.YthblgfiijakjlaaDoorPlCut
namespace Go.Proofs.YthblgfiijakjlaaDoor.Pure
open Go.RowKit Go.Proofs.YthblgfiijakjlaaDoor.PFnExactParsePuzzle Go.Proofs.YthblgfiijakjlaaDoorW.PrintWords Go.Proofs.YthblgfiijakjlaaDoorW.PrintMore Go.Proofs.YthblgfiijakjlaaDoor.Opn Go.Proofs.YthblgfiijakjlaaDoor.Pl
set_option linter.unusedVariables false
set_option linter.unusedSimpArgs false
theorem in_eq (a b c : Int) : impl_in.f a b c = some (decide (b ≤ a ∧ a ≤ c)) := by
  unfold impl_in.f; by_cases h : b ≤ a <;> simp [h]
theorem l1In_eq (a b c : Int) : spec_l1In.f a b c = some (decide (b ≤ a ∧ a ≤ c)) := by
  unfold spec_l1In.f; by_cases h : b ≤ a <;> simp [h]
theorem pzSoldiers_eq (n : Int) : spec_pzSoldiers.f n = some (decide (1 ≤ n ∧ n ≤ 8)) := by
  unfold spec_pzSoldiers.f; rw [l1In_eq]; rfl
theorem pzClue_eq {n : Int} (h : 1 ≤ n ∧ n ≤ 8) (k a b c : Int) : spec_pzClue.f n k a b c = some (cok n k a b c) := by
  unfold spec_pzClue.f cok
  rw [wrap64_id (x := n - 1) (by omega) (by omega)]
  simp only [l1In_eq, Option.bind_some, ite_and, ite_dec]
  repeat' split
  all_goals first | rfl | simp_all
theorem isHidden_eq (n : Int) : impl_isHidden.f n = some (decide (1 ≤ n ∧ n ≤ 8)) := by
  unfold impl_isHidden.f; rw [in_eq]; rfl
theorem isClue_eq (n k a b c : Int) : impl_isClue.f n k a b c = some (decide (1 ≤ n ∧ n ≤ 8) && cok n k a b c) := by
  unfold impl_isClue.f cok
  simp only [isHidden_eq, in_eq, Option.bind_some, ite_and, ite_dec]
  by_cases h : 1 ≤ n ∧ n ≤ 8
  · rw [wrap64_id (x := n - 1) (by omega) (by omega)]
    simp only [h, and_self, decide_true, if_true, Bool.true_and]
    repeat' split
    all_goals first | rfl | simp_all
  · simp [h]
def cokS (n : Int) (x : S40) : Bool := cok n x.f0 x.f1 x.f2 x.f3
def pgood (n : Int) (l : List S40) : Bool := decide (1 ≤ n ∧ n ≤ 8) && (decide (l.length ≤ 6) && l.all (cokS n))
theorem rdClueI {l : List S40} {i : Nat} (h : i < l.length) : rd_T40 l (i : Int) = l[i] := by simp [rd_T40, h]
theorem all_drop (n : Int) (l : List S40) (i : Nat) (h : i < l.length) : (l.drop i).all (cokS n) = (cok n (rd_T40 l (i : Int)).f0 (rd_T40 l (i : Int)).f1 (rd_T40 l (i : Int)).f2 (rd_T40 l (i : Int)).f3 && (l.drop (i + 1)).all (cokS n)) := by
  rw [List.drop_eq_getElem_cons h, rdClueI h]; rfl
theorem pzGood_loop {n : Int} (h : 1 ≤ n ∧ n ≤ 8) (l : List S40) (hl : l.length ≤ 1000000000) : ∀ (d i : Nat), i + d = l.length → Ev (fun k => spec_pzGood.l0 k l (l.length : Int) (i : Int) n l) ((l.drop i).all (cokS n)) := by
  intro d
  induction d with
  | zero =>
    intro i hi
    refine Ev.succ ?_
    simp only [spec_pzGood.l0]
    refine Ev.neg (by omega) (Ev.const ?_)
    rw [List.drop_of_length_le (by omega)]; rfl
  | succ d ih =>
    intro i hi
    refine Ev.succ ?_
    simp only [spec_pzGood.l0, pzClue_eq h, Option.bind_some]
    refine Ev.pos (by omega) (Ev.pos (by omega) (Ev.pos (by omega) ?_))
    rw [wrap64_id (x := (i : Int) + 1) (by omega) (by omega), all_drop n l i (by omega)]
    refine Ev.iff (fun hc => ?_) (fun hc => ?_)
    · rw [hc, Bool.true_and]; exact ih (i + 1) (by omega)
    · rw [Bool.not_eq_true] at hc; rw [hc, Bool.false_and]; exact Ev.now _
theorem pzGood_ev (n : Int) (l : List S40) (hl : l.length ≤ 1000000000) : Ev (fun k => spec_pzGood.f k n l) (pgood n l) := by
  unfold spec_pzGood.f pgood
  simp only [pzSoldiers_eq, Option.bind_some]
  refine Ev.iff (fun hc => ?_) (fun hc => ?_)
  · have hc' := of_decide_eq_true hc
    refine Ev.succ ?_
    simp only [spec_pzGood.j0]
    by_cases h6 : l.length ≤ 6
    · refine Ev.neg (by simp; omega) ?_
      rw [hc, decide_eq_true h6, Bool.true_and, Bool.true_and]
      exact pzGood_loop hc' l hl l.length 0 (by omega)
    · refine Ev.pos (by simp; omega) (Ev.const ?_)
      rw [decide_eq_false h6, Bool.false_and, Bool.and_false]
  · refine Ev.succ ?_
    simp only [spec_pzGood.j0, if_true]
    refine Ev.const ?_
    rw [Bool.not_eq_true] at hc
    rw [hc, Bool.false_and]
theorem isPuz_loop {n : Int} (h : 1 ≤ n ∧ n ≤ 8) (l : List S40) (hl : l.length ≤ 1000000000) : ∀ (d i : Nat), i + d = l.length → ∃ r : Int, Ev (fun k => impl_isPuzzle_idx.l0 k n l (i : Int)) r ∧ decide (0 ≤ r) = !(l.drop i).all (cokS n) := by
  intro d
  induction d with
  | zero =>
    intro i hi
    refine ⟨-1, Ev.succ ?_, ?_⟩
    · simp only [impl_isPuzzle_idx.l0]
      exact Ev.neg (by omega) (Ev.now _)
    · rw [List.drop_of_length_le (by omega)]; rfl
  | succ d ih =>
    intro i hi
    obtain ⟨r, h1, h2⟩ := ih (i + 1) (by omega)
    have hs := all_drop n l i (by omega)
    cases hc : cok n (rd_T40 l (i : Int)).f0 (rd_T40 l (i : Int)).f1 (rd_T40 l (i : Int)).f2 (rd_T40 l (i : Int)).f3 with
    | true =>
      rw [hc, Bool.true_and] at hs
      refine ⟨r, Ev.succ ?_, by rw [hs]; exact h2⟩
      simp only [impl_isPuzzle_idx.l0, impl_isPuzzle_clo.f, isClue_eq, hc, decide_eq_true h, Option.bind_some]
      refine Ev.pos (by omega) (Ev.pos (by omega) (Ev.neg (by simp) ?_))
      rw [wrap64_id (x := (i : Int) + 1) (by omega) (by omega)]
      exact h1
    | false =>
      rw [hc, Bool.false_and] at hs
      refine ⟨(i : Int), Ev.succ ?_, by rw [hs]; simp⟩
      simp only [impl_isPuzzle_idx.l0, impl_isPuzzle_clo.f, isClue_eq, hc, Option.bind_some]
      exact Ev.pos (by omega) (Ev.pos (by omega) (Ev.pos (by simp) (Ev.now _)))
theorem isPuzzle_ev (n : Int) (l : List S40) (hl : l.length ≤ 1000000000000) : Ev (fun k => impl_isPuzzle.f k n l) (pgood n l) := by
  unfold impl_isPuzzle.f pgood
  simp only [isHidden_eq, Option.bind_some]
  refine Ev.iff (fun h1 => ?_) (fun h1 => ?_)
  · have h1' := of_decide_eq_true h1
    rw [h1, Bool.true_and]
    by_cases h6 : l.length ≤ 6
    · refine Ev.pos (by omega) ?_
      rw [decide_eq_true h6, Bool.true_and]
      obtain ⟨r, e1, e2⟩ := isPuz_loop h1' l (by omega) l.length 0 (by omega)
      unfold impl_isPuzzle_has.f
      refine Ev.bind (Ev.bind e1 (Ev.now _)) (Ev.const ?_)
      rw [e2, List.drop_zero, Bool.not_not]
    · refine Ev.neg (by omega) (Ev.const ?_)
      rw [decide_eq_false h6, Bool.false_and]
  · rw [Bool.not_eq_true] at h1
    rw [h1, Bool.false_and]
    exact Ev.now _
theorem eqClueS_loop (l : List S40) (hl : l.length ≤ 1000000000) : ∀ (d i : Nat), i + d = l.length → Ev (fun k => laws_eqClueS.l0 k l l (i : Int)) true := by
  intro d
  induction d with
  | zero =>
    intro i h
    refine Ev.succ ?_
    simp only [laws_eqClueS.l0]
    exact Ev.neg (by omega) (Ev.now _)
  | succ d ih =>
    intro i h
    refine Ev.succ ?_
    have e : ∀ (x y z u : Int), laws_eqClue.f x y z u x y z u = some true := by intro x y z u; unfold laws_eqClue.f; simp
    simp only [laws_eqClueS.l0, e, Option.bind_some]
    refine Ev.pos (by omega) (Ev.pos (by omega) (Ev.pos (by omega) (Ev.pos (by first | rfl | trivial) ?_)))
    rw [wrap64_id (x := (i : Int) + 1) (by omega) (by omega)]
    exact ih (i + 1) (by omega)
theorem eqPuzzle_ev (n : Int) (l : List S40) (hl : l.length ≤ 1000000000) : Ev (fun k => laws_eqPuzzle.f k n l n l) true := by
  unfold laws_eqPuzzle.f
  refine Ev.pos rfl (Ev.bind (a := true) ?_ (Ev.const (by simp)))
  unfold laws_eqClueS.f
  exact Ev.pos rfl (eqClueS_loop l hl l.length 0 (by omega))
def mkd (c : Int) : S40 := ⟨c, c + 1, c + 2, c + 3⟩
def mks : Nat → List S40
  | 0 => []
  | n + 1 => mks n ++ [mkd (4 * (n : Int) + 1)]
theorem mks_len : ∀ n, (mks n).length = n
  | 0 => rfl
  | n + 1 => by simp [mks, mks_len n]
theorem rd_mid (a : List S40) (y : S40) (b : List S40) (i : Nat) (h : a.length = i) : rd_T40 (a ++ y :: b) (i : Int) = y := by simp [rd_T40, ← h]
theorem set_mid (a : List S40) (y z : S40) (b : List S40) (i : Nat) (h : a.length = i) : (a ++ y :: b).set i z = a ++ z :: b := by
  rw [List.set_append_right _ _ (by omega), ← h, Nat.sub_self]; rfl
theorem mark_loop (l : List S40) (hl : l.length ≤ 100000000) : ∀ (d i : Nat), i + d = l.length → Ev (fun k => laws_markClueS.l0 k (mks i ++ l.drop i) (4 * (i : Int) + 1) (i : Int)) (4 * (l.length : Int) + 1, mks l.length) := by
  intro d
  induction d with
  | zero =>
    intro i h
    refine Ev.succ ?_
    simp only [laws_markClueS.l0]
    refine Ev.neg (by simp [mks_len]; omega) (Ev.const ?_)
    rw [List.drop_of_length_le (by omega), List.append_nil, show i = l.length by omega]
  | succ d ih =>
    intro i h
    have hd : l.drop i = l[i]'(by omega) :: l.drop (i + 1) := List.drop_eq_getElem_cons (by omega)
    refine Ev.succ ?_
    simp only [laws_markClueS.l0, Option.bind_some]
    refine Ev.pos (by simp [mks_len]; omega) (Ev.pos (by omega) ?_)
    rw [hd]
    simp only [Int.toNat_natCast, rd_mid _ _ _ i (mks_len i), set_mid _ _ _ _ i (mks_len i)]
    rw [wrap64_id (x := 4 * (i : Int) + 1 + 1) (by omega) (by omega), wrap64_id (x := 4 * (i : Int) + 1 + 1 + 1) (by omega) (by omega), wrap64_id (x := 4 * (i : Int) + 1 + 1 + 1 + 1) (by omega) (by omega), wrap64_id (x := 4 * (i : Int) + 1 + 1 + 1 + 1 + 1) (by omega) (by omega), wrap64_id (x := (i : Int) + 1) (by omega) (by omega)]
    have := ih (i + 1) (by omega)
    have e : mks (i + 1) ++ l.drop (i + 1) = mks i ++ (⟨4 * (i : Int) + 1, 4 * (i : Int) + 1 + 1, 4 * (i : Int) + 1 + 1 + 1, 4 * (i : Int) + 1 + 1 + 1 + 1⟩ : S40) :: l.drop (i + 1) := by
      simp only [mks, mkd, List.append_assoc, List.singleton_append]
      congr 2
    rw [e, show 4 * ((i + 1 : Nat) : Int) + 1 = 4 * (i : Int) + 1 + 1 + 1 + 1 + 1 by omega] at this
    exact this
theorem markPuzzle_ev (n : Int) (l : List S40) (hl : l.length ≤ 100000000) : Ev (fun k => laws_markPuzzle.f k n l 1) (4 * (l.length : Int) + 1, mks l.length) := by
  unfold laws_markPuzzle.f laws_markClueS.f
  have := mark_loop l hl l.length 0 (by omega)
  exact Ev.bind (by simpa [mks] using this) (Ev.now _)
theorem mks_get : ∀ (n i : Nat) (h : i < n), (mks n)[i]'(by rw [mks_len]; exact h) = mkd (4 * (i : Int) + 1)
  | 0, i, h => by omega
  | n + 1, i, h => by
    by_cases hi : i < n
    · have := mks_get n i hi
      simp only [mks]
      rw [List.getElem_append_left (by rw [mks_len]; exact hi)]
      exact this
    · obtain rfl : i = n := by omega
      simp only [mks]
      rw [List.getElem_append_right (by rw [mks_len]; omega)]
      simp [mks_len]
theorem held_loop (m : Nat) (hl : m ≤ 100000000) : ∀ (d i : Nat), i + d = m → Ev (fun k => laws_heldClueS.l0 k (mks m) (4 * (i : Int) + 1) (i : Int)) (4 * (m : Int) + 1) := by
  intro d
  induction d with
  | zero =>
    intro i h
    refine Ev.succ ?_
    simp only [laws_heldClueS.l0]
    refine Ev.neg (by rw [mks_len]; omega) (Ev.const ?_)
    rw [show i = m by omega]
  | succ d ih =>
    intro i h
    have e : rd_T40 (mks m) (i : Int) = mkd (4 * (i : Int) + 1) := by
      rw [rdClueI (by rw [mks_len]; omega), mks_get m i (by omega)]
    refine Ev.succ ?_
    simp only [laws_heldClueS.l0, e, mkd]
    rw [wrap64_id (x := 4 * (i : Int) + 1 + 1) (by omega) (by omega), wrap64_id (x := 4 * (i : Int) + 1 + 1 + 1) (by omega) (by omega), wrap64_id (x := 4 * (i : Int) + 1 + 1 + 1 + 1) (by omega) (by omega), wrap64_id (x := 4 * (i : Int) + 1 + 1 + 1 + 1 + 1) (by omega) (by omega), wrap64_id (x := (i : Int) + 1) (by omega) (by omega)]
    refine Ev.pos (by rw [mks_len]; omega) (Ev.pos (by omega) (Ev.pos (by first | rfl | trivial) (Ev.pos (by first | rfl | trivial) (Ev.pos (by omega) (Ev.pos (by omega) ?_)))))
    have := ih (i + 1) (by omega)
    rw [show 4 * ((i + 1 : Nat) : Int) + 1 = 4 * (i : Int) + 1 + 1 + 1 + 1 + 1 by omega] at this
    exact this
theorem heldPuzzle_ev (n : Int) (m : Nat) (hl : m ≤ 100000000) : Ev (fun k => laws_heldPuzzle.f k n (mks m) 1) (4 * (m : Int) + 1) := by
  unfold laws_heldPuzzle.f laws_heldClueS.f
  have := held_loop m hl m 0 (by omega)
  exact Ev.bind (by simpa using this) (Ev.const (by rw [if_neg (by omega)]))
theorem pgood_is {n : Int} {l : List S40} (h : pgood n l = true) : (1 ≤ n ∧ n ≤ 8) ∧ l.length ≤ 6 ∧ l.all (cokS n) = true := by
  unfold pgood at h
  simp only [Bool.and_eq_true, decide_eq_true_eq] at h
  exact h
def rdS (l : List ByteArray) (i : Int) : ByteArray := rdOf ByteArray.empty l i
theorem rdS_get {l : List ByteArray} {i : Nat} (h : i < l.length) : rdOf ByteArray.empty l (i : Int) = l[i] := by simp [rdOf, h]
theorem l1Num_lo (n : Nat) (h : n < 10) : Ev (fun k => spec_l1Num.f k (n : Int)) (up (Go.Lib.decDigits n)) := by
  refine Ev.succ ?_
  simp only [spec_l1Num.f]
  refine Ev.pos (by omega) (Ev.const ?_)
  rw [dig n h, dec_lo n h]
theorem l1Num_ev (n : Nat) (h : n < 100) : Ev (fun k => spec_l1Num.f k (n : Int)) (up (Go.Lib.decDigits n)) := by
  by_cases h1 : n < 10
  · exact l1Num_lo n h1
  · refine Ev.succ ?_
    simp only [spec_l1Num.f, Option.bind_some]
    rw [tdiv_nn (by omega), tmod_nn (by omega), show (n : Int) / 10 = ((n / 10 : Nat) : Int) by omega, show (n : Int) % 10 = ((n % 10 : Nat) : Int) by omega, wrap64_id (x := ((n / 10 : Nat) : Int)) (by omega) (by omega), dig (n % 10) (by omega)]
    refine Ev.neg (by omega) (Ev.bind (l1Num_lo (n / 10) (by omega)) ?_)
    have hl := dec_len (n / 10) (by omega)
    refine Ev.pos (by rw [up_size, up_size, List.length_singleton]; omega) (Ev.const ?_)
    rw [up_app, dec_hi n h1]
theorem l1Num_int (n : Int) (h : 0 ≤ n ∧ n < 100) : Ev (fun k => spec_l1Num.f k n) (up (Go.Lib.decDigits n.toNat)) := by
  have := l1Num_ev n.toNat (by omega)
  rw [show ((n.toNat : Nat) : Int) = n by omega] at this
  exact this
theorem itoa_eq (n : Int) (h : 0 ≤ n ∧ n < 100) : strconv_Itoa.f n = some (up (Go.Lib.decDigits n.toNat)) := by
  unfold strconv_Itoa.f
  rw [if_pos h]
def ct (x : S40) : List UInt8 := dd x.f0 ++ [46] ++ dd x.f1 ++ [46] ++ dd x.f2 ++ [46] ++ dd x.f3
def ptx (n : Int) (l : List S40) : List UInt8 := dd n ++ [58] ++ Go.Lib.join (l.map ct) [44]
theorem nok_of {n : Int} (hn : 1 ≤ n ∧ n ≤ 8) {x : S40} (h : cokS n x = true) : (0 ≤ x.f0 ∧ x.f0 < 100) ∧ (0 ≤ x.f1 ∧ x.f1 < 100) ∧ (0 ≤ x.f2 ∧ x.f2 < 100) ∧ (0 ≤ x.f3 ∧ x.f3 < 100) := by
  unfold cokS cok at h
  repeat' split at h
  all_goals first | (simp only [Bool.and_eq_true, decide_eq_true_eq] at h; omega) | (simp at h)
theorem ct_len {x : S40} (h : (0 ≤ x.f0 ∧ x.f0 < 100) ∧ (0 ≤ x.f1 ∧ x.f1 < 100) ∧ (0 ≤ x.f2 ∧ x.f2 < 100) ∧ (0 ≤ x.f3 ∧ x.f3 < 100)) : (ct x).length ≤ 11 := by
  have h0 := dd_len _ h.1
  have h1 := dd_len _ h.2.1
  have h2 := dd_len _ h.2.2.1
  have h3 := dd_len _ h.2.2.2
  unfold ct
  simp only [List.length_append, List.length_cons, List.length_nil]
  omega
theorem l1Num_dd (n : Int) (h : 0 ≤ n ∧ n < 100) : Ev (fun k => spec_l1Num.f k n) (up (dd n)) := l1Num_int n h
theorem itoa_dd (n : Int) (h : 0 ≤ n ∧ n < 100) : strconv_Itoa.f n = some (up (dd n)) := itoa_eq n h
theorem j1_ev (x : S40) (h : (0 ≤ x.f0 ∧ x.f0 < 100) ∧ (0 ≤ x.f1 ∧ x.f1 < 100) ∧ (0 ≤ x.f2 ∧ x.f2 < 100) ∧ (0 ≤ x.f3 ∧ x.f3 < 100)) (o : List UInt8) (ho : o.length ≤ 1000) (l : List S40) (m i : Int) (R : ByteArray) (hr : Ev (fun k => spec_pzText.l0 k (up (o ++ ct x)) l m (wrap64 (i + 1))) R) :
    Ev (fun k => spec_pzText.j1 k (up o) l m i x.f0 x.f1 x.f2 x.f3) R := by
  have h0 := dd_len _ h.1
  have h1 := dd_len _ h.2.1
  have h2 := dd_len _ h.2.2.1
  have h3 := dd_len _ h.2.2.2
  refine Ev.succ ?_
  simp only [spec_pzText.j1]
  refine Ev.bind (l1Num_dd x.f0 h.1) (Ev.pos (by simp only [up_size]; omega) (Ev.bind (l1Num_dd x.f1 h.2.1) ?_))
  simp only [up_app]
  refine Ev.pos (by simp only [up_size, List.length_append, List.length_cons, List.length_nil]; omega) (Ev.pos (by simp only [up_size, List.length_append, List.length_cons, List.length_nil]; omega) (Ev.bind (l1Num_dd x.f2 h.2.2.1) ?_))
  simp only [up_app]
  refine Ev.pos (by simp only [up_size, List.length_append, List.length_cons, List.length_nil]; omega) (Ev.pos (by simp only [up_size, List.length_append, List.length_cons, List.length_nil]; omega) (Ev.bind (l1Num_dd x.f3 h.2.2.2) ?_))
  simp only [up_app]
  refine Ev.pos (by simp only [up_size, List.length_append, List.length_cons, List.length_nil]; omega) (Ev.pos (by simp only [up_size, List.length_append, List.length_cons, List.length_nil]; omega) ?_)
  exact hr
theorem spT_loop (n : Int) (hn : 1 ≤ n ∧ n ≤ 8) (l : List S40) (hl : l.length ≤ 6) (hc : l.all (cokS n) = true) : ∀ (d i : Nat) (o : List UInt8), i + d = l.length → 1 ≤ i → o.length ≤ 100 + 12 * i → Ev (fun k => spec_pzText.l0 k (up o) l (l.length : Int) (i : Int)) (up (o ++ Go.Lib.joinTail [44] ((l.drop i).map ct))) := by
  intro d
  induction d with
  | zero =>
    intro i o hi h1 ho
    refine Ev.succ ?_
    simp only [spec_pzText.l0]
    rw [List.drop_of_length_le (by omega)]
    refine Ev.neg (by omega) (Ev.const ?_)
    simp [Go.Lib.joinTail]
  | succ d ih =>
    intro i o hi h1 ho
    have hi2 : i < l.length := by omega
    have hk := nok_of hn (List.all_eq_true.1 hc _ (List.getElem_mem hi2))
    have hlen := ct_len hk
    refine Ev.succ ?_
    simp only [spec_pzText.l0]
    rw [rdClueI hi2, List.drop_eq_getElem_cons hi2, List.map_cons, tail_cons]
    have e : up o ++ (⟨#[44]⟩ : ByteArray) = up (o ++ [44]) := up_app o [44]
    rw [e]
    refine Ev.pos (by omega) (Ev.pos (by omega) (Ev.pos (by omega) (Ev.pos (by omega) (Ev.pos (by rw [up_size]; omega) ?_))))
    refine j1_ev _ hk _ (by rw [List.length_append, List.length_singleton]; omega) _ _ _ _ ?_
    rw [show ((i : Int)) + 1 = ((i + 1 : Nat) : Int) by omega, wrap64_id (by omega) (by omega)]
    have := ih (i + 1) (o ++ [44] ++ ct l[i]) (by omega) (by omega) (by simp only [List.length_append, List.length_cons, List.length_nil]; omega)
    simpa only [List.append_assoc] using this
theorem spT_ev (n : Int) (hn : 1 ≤ n ∧ n ≤ 8) (l : List S40) (hl : l.length ≤ 6) (hc : l.all (cokS n) = true) : Ev (fun k => spec_pzText.f k n l) (up (ptx n l)) := by
  have h0 := dd_len n (by omega)
  unfold spec_pzText.f ptx
  refine Ev.bind (l1Num_dd n (by omega)) (Ev.pos (by rw [up_size]; omega) ?_)
  have e : up (dd n) ++ (⟨#[58]⟩ : ByteArray) = up (dd n ++ [58]) := up_app _ [58]
  rw [e]
  cases l with
  | nil =>
    refine Ev.succ ?_
    simp only [spec_pzText.l0]
    refine Ev.neg (by simp) (Ev.const ?_)
    simp [Go.Lib.join_nil]
  | cons x r =>
    have hk := nok_of hn (List.all_eq_true.1 hc x (by simp))
    have hlen := ct_len hk
    refine Ev.succ ?_
    simp only [spec_pzText.l0]
    have hpos : 0 < (x :: r).length := by simp
    have e0 : rd_T40 (x :: r) 0 = x := rdClueI hpos
    rw [e0, List.map_cons, Go.Lib.join_cons]
    refine Ev.pos (by omega) (Ev.pos (by omega) (Ev.pos (by omega) (Ev.neg (by omega) ?_)))
    refine j1_ev _ hk _ (by rw [List.length_append, List.length_singleton]; omega) _ _ _ _ ?_
    have := spT_loop n hn (x :: r) hl hc r.length 1 (dd n ++ [58] ++ ct x) (by simp; omega) (by omega) (by simp only [List.length_append, List.length_cons, List.length_nil]; omega)
    rw [show wrap64 (0 + 1) = ((1 : Nat) : Int) from (wrap64_id (x := 0 + 1) (by omega) (by omega)).trans rfl]
    simpa only [List.append_assoc, List.drop_succ_cons, List.drop_zero] using this
theorem imJoin_eq (n : Int) (hn : 1 ≤ n ∧ n ≤ 8) (l : List S40) (hl : l.length ≤ 6) (hc : l.all (cokS n) = true) : strings_Join.f (l.map fun x => up (ct x)) (⟨#[44]⟩ : ByteArray) = some (up (Go.Lib.join (l.map ct) [44])) := by
  have e : (l.map fun x => up (ct x)).map (·.data.toList) = l.map ct := by simp [Function.comp_def]
  have hj := join_len (l.map ct) (by
    intro y hy
    obtain ⟨x, hx, rfl⟩ := List.mem_map.1 hy
    exact ct_len (nok_of hn (List.all_eq_true.1 hc x hx)))
  rw [List.length_map] at hj
  unfold strings_Join.f
  rw [e]
  exact if_pos ⟨by rw [List.length_map]; omega, by show (Go.Lib.join (l.map ct) [44]).length ≤ _; omega⟩
theorem imT_loop (n : Int) (hn : 1 ≤ n ∧ n ≤ 8) (l : List S40) (hl : l.length ≤ 6) (hc : l.all (cokS n) = true) : ∀ (d i : Nat), i + d = l.length → Ev (fun k => impl_puzzleText.l0 k ((l.take i).map fun x => up (ct x)) l (l.length : Int) (i : Int) n l) (up (ptx n l)) := by
  have h0 := dd_len n (by omega)
  intro d
  induction d with
  | zero =>
    intro i hi
    refine Ev.succ ?_
    simp only [impl_puzzleText.l0]
    rw [List.take_of_length_le (by omega), imJoin_eq n hn l hl hc, itoa_dd n (by omega)]
    have hj := join_len (l.map ct) (by
      intro y hy
      obtain ⟨x, hx, rfl⟩ := List.mem_map.1 hy
      exact ct_len (nok_of hn (List.all_eq_true.1 hc x hx)))
    rw [List.length_map] at hj
    simp only [Option.bind_some, up_app]
    refine Ev.neg (by omega) (Ev.pos (by rw [up_size]; omega) (Ev.pos (by simp only [up_size, List.length_append, List.length_cons, List.length_nil]; omega) (Ev.now _)))
  | succ d ih =>
    intro i hi
    have hi2 : i < l.length := by omega
    have hk := nok_of hn (List.all_eq_true.1 hc _ (List.getElem_mem hi2))
    have h1 := dd_len _ hk.1
    have h2 := dd_len _ hk.2.1
    have h3 := dd_len _ hk.2.2.1
    have h4 := dd_len _ hk.2.2.2
    refine Ev.succ ?_
    simp only [impl_puzzleText.l0]
    rw [rdClueI hi2, itoa_dd _ hk.1, itoa_dd _ hk.2.1, itoa_dd _ hk.2.2.1, itoa_dd _ hk.2.2.2, wrap64_id (x := (i : Int) + 1) (by omega) (by omega)]
    simp only [Option.bind_some, up_app]
    refine Ev.pos (by omega) (Ev.pos (by omega) (Ev.pos (by omega) (Ev.pos (by simp only [up_size]; omega) (Ev.pos (by simp only [up_size, List.length_append, List.length_cons, List.length_nil]; omega) (Ev.pos (by simp only [up_size, List.length_append, List.length_cons, List.length_nil]; omega) (Ev.pos (by simp only [up_size, List.length_append, List.length_cons, List.length_nil]; omega) (Ev.pos (by simp only [up_size, List.length_append, List.length_cons, List.length_nil]; omega) (Ev.pos (by simp only [up_size, List.length_append, List.length_cons, List.length_nil]; omega) (Ev.pos (by rw [List.length_map, List.length_take]; omega) ?_)))))))))
    have := ih (i + 1) (by omega)
    rw [List.take_add_one, List.getElem?_eq_getElem hi2, Option.toList_some, List.map_append] at this
    exact this
theorem cut_mid (s : List UInt8) (a b : Nat) : (up s).extract a b = up ((s.drop a).take (b - a)) := L_inj (by rw [L_mk]; show ((up s).extract a b).data.toList = _; rw [Go.Lib.extract_data])
theorem l1Split_loop (s : List UInt8) (hs : s.length ≤ 1000000000) (c : UInt8) : ∀ (d i a : Nat) (acc : List ByteArray), i + d = s.length → a ≤ i → acc.length ≤ i →
    Ev (fun k => spec_l1Split.l0 k (up s) (c.toNat : Int) acc (a : Int) (i : Int)) (acc ++ (spA c ((s.drop a).take (i - a)) (s.drop i)).map up) := by
  have hz := up_isize s
  intro d
  induction d with
  | zero =>
    intro i a acc hi ha hc
    refine Ev.succ ?_
    simp only [spec_l1Split.l0]
    refine Ev.neg (by omega) (Ev.pos (by omega) (Ev.pos (by omega) (Ev.pos (by omega) (Ev.const ?_))))
    have e1 : s.drop i = [] := List.drop_of_length_le (by omega)
    have e2 : (s.drop a).take (i - a) = s.drop a := List.take_of_length_le (by simp; omega)
    rw [e1, e2, Int.toNat_natCast, up_drop]
    simp [spA]
  | succ d ih =>
    intro i a acc hi ha hc
    have hlt : i < s.length := by omega
    refine Ev.succ ?_
    simp only [spec_l1Split.l0]
    have e0 : s.drop i = s[i] :: s.drop (i + 1) := List.drop_eq_getElem_cons hlt
    refine Ev.pos (by omega) (Ev.pos (by omega) (Ev.iff (fun hb => ?_) (fun hb => ?_)))
    · have hx := (up_bt s i hlt c).1 hb
      refine Ev.pos (by omega) (Ev.pos (by omega) (Ev.pos (by omega) (Ev.pos (by omega) ?_)))
      rw [show (i : Int) + 1 = ((i + 1 : Nat) : Int) by omega, wrap64_id (x := ((i + 1 : Nat) : Int)) (by omega) (by omega), Int.toNat_natCast, Int.toNat_natCast, cut_mid]
      have h := ih (i + 1) (i + 1) (acc ++ [up ((s.drop a).take (i - a))]) (by omega) (by omega) (by simp; omega)
      rw [e0, hx, spA, if_pos rfl]
      simpa using h
    · have hx : ¬ s[i] = c := fun e => hb ((up_bt s i hlt c).2 e)
      rw [show (i : Int) + 1 = ((i + 1 : Nat) : Int) by omega, wrap64_id (x := ((i + 1 : Nat) : Int)) (by omega) (by omega)]
      have h := ih (i + 1) a acc (by omega) (by omega) (by omega)
      have e2 : (s.drop a).take (i - a) ++ [s[i]] = (s.drop a).take (i + 1 - a) := by
        rw [show i + 1 - a = (i - a) + 1 by omega, List.take_add_one, List.getElem?_drop, show a + (i - a) = i by omega, List.getElem?_eq_getElem hlt]
        rfl
      rw [e0, spA, if_neg hx, e2]
      exact h
theorem l1Split_ev (s : List UInt8) (hs : s.length ≤ 1000000000) (c : UInt8) : Ev (fun k => spec_l1Split.f k (up s) (c.toNat : Int)) ((spA c [] s).map up) := by
  have h := l1Split_loop s hs c s.length 0 0 [] (by omega) (by omega) (by simp)
  unfold spec_l1Split.f
  simpa using h
theorem l1Read_loop (p : ByteArray) : ∀ (d i : Nat) (acc : Int), i + d = p.size → i ≤ 10 → p.size ≤ 10 → ∃ v, Ev (fun k => spec_l1Read.l0 k p acc (i : Int)) v := by
  intro d
  induction d with
  | zero =>
    intro i acc hi h1 h2
    refine ⟨acc, Ev.succ ?_⟩
    simp only [spec_l1Read.l0]
    exact Ev.neg (by omega) (Ev.now _)
  | succ d ih =>
    intro i acc hi h1 h2
    by_cases c1 : bt p (i : Int) < 48
    · refine ⟨-1, Ev.succ ?_⟩
      simp only [spec_l1Read.l0]
      exact Ev.pos (by omega) (Ev.pos (by omega) (Ev.pos c1 (Ev.now _)))
    · by_cases c2 : bt p (i : Int) > 57
      · refine ⟨-1, Ev.succ ?_⟩
        simp only [spec_l1Read.l0]
        exact Ev.pos (by omega) (Ev.pos (by omega) (Ev.neg c1 (Ev.pos c2 (Ev.now _))))
      · obtain ⟨v, hv⟩ := ih (i + 1) (wrap64 ((wrap64 (10 * acc)) + (((bt p (i : Int)) - 48) % 256))) (by omega) (by omega) h2
        refine ⟨v, Ev.succ ?_⟩
        simp only [spec_l1Read.l0]
        rw [show (i : Int) + 1 = ((i + 1 : Nat) : Int) by omega, wrap64_id (x := ((i + 1 : Nat) : Int)) (by omega) (by omega)]
        exact Ev.pos (by omega) (Ev.pos (by omega) (Ev.neg c1 (Ev.neg c2 hv)))
theorem l1Read_total (p : ByteArray) : ∃ v, Ev (fun k => spec_l1Read.f k p) v := by
  have hT : Ev (fun k => spec_l1Read.j0 k p true) (-1) := Ev.succ (by simp only [spec_l1Read.j0]; exact Ev.pos trivial (Ev.now _))
  unfold spec_l1Read.f
  simp only [l1In_eq, Option.bind_some]
  by_cases h : 1 ≤ (p.size : Int) ∧ (p.size : Int) ≤ 6
  · obtain ⟨v, hv⟩ := l1Read_loop p p.size 0 0 (by omega) (by omega) (by omega)
    have hF : Ev (fun k => spec_l1Read.j0 k p false) v := Ev.succ (by simp only [spec_l1Read.j0]; exact Ev.neg (by decide) hv)
    have hB : ∀ b, ∃ u, Ev (fun k => spec_l1Read.j0 k p b) u := fun b => by cases b; exact ⟨v, hF⟩; exact ⟨-1, hT⟩
    obtain ⟨u, hu⟩ := hB (decide ((p.size : Int) > 1))
    by_cases h0 : bt p 0 = 48
    · exact ⟨u, Ev.pos (by simpa using h) (Ev.pos (by omega) (Ev.pos h0 hu))⟩
    · exact ⟨v, Ev.pos (by simpa using h) (Ev.pos (by omega) (Ev.neg h0 hF))⟩
  · exact ⟨-1, Ev.neg (by simpa using h) hT⟩
theorem l1Read_step (s : List UInt8) (i d : Nat) (hi : i < s.length) (hs : s.length ≤ 10) (hd : d < 10) (hx : s[i] = UInt8.ofNat (48 + d)) (acc : Int) (ha : 0 ≤ acc ∧ acc < 1000) (R : Int)
    (h : Ev (fun k => spec_l1Read.l0 k (up s) (10 * acc + (d : Int)) ((i + 1 : Nat) : Int)) R) : Ev (fun k => spec_l1Read.l0 k (up s) acc (i : Int)) R := by
  have hz := up_isize s
  have hb : bt (up s) (i : Int) = 48 + (d : Int) := by
    rw [bt_nat (up s) i (by rw [L_mk]; exact hi)]
    have e : (L (up s))[i]'(by rw [L_mk]; exact hi) = s[i] := by simp [L]
    rw [e, hx, dg_nat d hd]; omega
  refine Ev.succ ?_
  simp only [spec_l1Read.l0]
  rw [hb, show (i : Int) + 1 = ((i + 1 : Nat) : Int) by omega, wrap64_id (x := ((i + 1 : Nat) : Int)) (by omega) (by omega), wrap64_id (x := 10 * acc) (by omega) (by omega), show (48 + (d : Int) - 48) % 256 = (d : Int) by omega, wrap64_id (x := 10 * acc + (d : Int)) (by omega) (by omega)]
  exact Ev.pos (by omega) (Ev.pos (by omega) (Ev.neg (by omega) (Ev.neg (by omega) h)))
theorem l1Read_end (s : List UInt8) (v : Int) : Ev (fun k => spec_l1Read.l0 k (up s) v (s.length : Int)) v := by
  have hz := up_isize s
  refine Ev.succ ?_
  simp only [spec_l1Read.l0]
  exact Ev.neg (by omega) (Ev.now _)
theorem l1Read_dd (a : Int) (h : 0 ≤ a ∧ a < 100) : Ev (fun k => spec_l1Read.f k (up (dd a))) a := by
  unfold spec_l1Read.f
  simp only [l1In_eq, Option.bind_some]
  rcases dd_cases a h with ⟨d, hd, e0, e⟩ | ⟨x, d, hx0, hx, hd, e0, e⟩
  · rw [e]
    have hz := up_isize [UInt8.ofNat (48 + d)]
    simp only [List.length_cons, List.length_nil] at hz
    have hF : Ev (fun k => spec_l1Read.j0 k (up [UInt8.ofNat (48 + d)]) false) a := by
      refine Ev.succ ?_
      simp only [spec_l1Read.j0]
      refine Ev.neg (by decide) (l1Read_step _ 0 d (by simp) (by simp) hd rfl 0 (by omega) a ?_)
      have := l1Read_end [UInt8.ofNat (48 + d)] a
      rw [show 10 * (0 : Int) + (d : Int) = a by omega]
      exact this
    refine Ev.pos (decide_eq_true (by omega)) (Ev.pos (by omega) (Ev.iff (fun _ => ?_) (fun _ => hF)))
    rw [show decide (((up [UInt8.ofNat (48 + d)]).size : Int) > 1) = false from decide_eq_false (by omega)]
    exact hF
  · rw [e]
    have hz := up_isize [UInt8.ofNat (48 + x), UInt8.ofNat (48 + d)]
    simp only [List.length_cons, List.length_nil] at hz
    have hb : ¬ bt (up [UInt8.ofNat (48 + x), UInt8.ofNat (48 + d)]) 0 = 48 := by
      have h1 := bt_nat (up [UInt8.ofNat (48 + x), UInt8.ofNat (48 + d)]) 0 (by rw [L_mk]; simp)
      have e1 : (L (up [UInt8.ofNat (48 + x), UInt8.ofNat (48 + d)]))[0]'(by rw [L_mk]; simp) = UInt8.ofNat (48 + x) := by simp [L]
      rw [e1, dg_nat x hx] at h1
      have h2 : bt (up [UInt8.ofNat (48 + x), UInt8.ofNat (48 + d)]) 0 = ((48 + x : Nat) : Int) := h1
      omega
    refine Ev.pos (decide_eq_true (by omega)) (Ev.pos (by omega) (Ev.neg hb (Ev.succ ?_)))
    simp only [spec_l1Read.j0]
    refine Ev.neg (by decide) (l1Read_step _ 0 x (by simp) (by simp) hx rfl 0 (by omega) a (l1Read_step _ 1 d (by simp) (by simp) hd rfl _ (by omega) a ?_))
    have := l1Read_end [UInt8.ofNat (48 + x), UInt8.ofNat (48 + d)] a
    rw [show 10 * (10 * (0 : Int) + (x : Int)) + (d : Int) = a by omega]
    exact this
noncomputable def l1R (p : List UInt8) : Int := Classical.choose (l1Read_total (up p))
theorem l1R_ev (p : List UInt8) : Ev (fun k => spec_l1Read.f k (up p)) (l1R p) := Classical.choose_spec (l1Read_total (up p))
theorem l1R_dd (a : Int) (h : 0 ≤ a ∧ a < 100) : l1R (dd a) = a := Ev.uniq (l1R_ev (dd a)) (l1Read_dd a h)
theorem rd_up (ws : List (List UInt8)) (i : Nat) (h : i < ws.length) : rdOf ByteArray.empty (ws.map up) (i : Int) = up ws[i] := by
  rw [rdS_get (by simpa using h)]; simp
def rdAll (rc : List UInt8 → Option S40) : List (List UInt8) → Option (List S40)
  | [] => some []
  | w :: r => match rc w with
    | none => none
    | some x => (rdAll rc r).map (x :: ·)
theorem rdAll_ct {rc : List UInt8 → Option S40} : ∀ (l : List S40), (∀ x ∈ l, rc (ct x) = some x) → rdAll rc (l.map ct) = some l
  | [], _ => rfl
  | x :: r, h => by
    rw [List.map_cons, rdAll, h x (by simp), rdAll_ct r (fun y hy => h y (by simp [hy]))]
    rfl
theorem rdAll_len {rc : List UInt8 → Option S40} : ∀ (ws : List (List UInt8)) (cs : List S40), rdAll rc ws = some cs → cs.length = ws.length
  | [], cs, h => by simp [rdAll] at h; subst h; rfl
  | w :: r, cs, h => by
    rw [rdAll] at h
    split at h
    · cases h
    · rw [Option.map_eq_some_iff] at h
      obtain ⟨t, ht, rfl⟩ := h
      simp [rdAll_len r t ht]
theorem spA_ct (x : S40) (h : (0 ≤ x.f0 ∧ x.f0 < 100) ∧ (0 ≤ x.f1 ∧ x.f1 < 100) ∧ (0 ≤ x.f2 ∧ x.f2 < 100) ∧ (0 ≤ x.f3 ∧ x.f3 < 100)) : spA 46 [] (ct x) = [dd x.f0, dd x.f1, dd x.f2, dd x.f3] := by
  have h0 := dd_mem _ h.1 46 (by decide)
  have h1 := dd_mem _ h.2.1 46 (by decide)
  have h2 := dd_mem _ h.2.2.1 46 (by decide)
  have h3 := dd_mem _ h.2.2.2 46 (by decide)
  unfold ct
  simp only [List.append_assoc, List.singleton_append, List.cons_append, List.nil_append]
  rw [spA_hit 46 _ _ [] h0, spA_hit 46 _ _ [] h1, spA_hit 46 _ _ [] h2, spA_no 46 _ [] h3]
  rfl
theorem ct_mem (x : S40) (h : (0 ≤ x.f0 ∧ x.f0 < 100) ∧ (0 ≤ x.f1 ∧ x.f1 < 100) ∧ (0 ≤ x.f2 ∧ x.f2 < 100) ∧ (0 ≤ x.f3 ∧ x.f3 < 100)) (c : UInt8) (hc : c.toNat < 46 ∨ 57 < c.toNat) : c ∉ ct x := by
  have h0 := dd_mem _ h.1 c (by omega)
  have h1 := dd_mem _ h.2.1 c (by omega)
  have h2 := dd_mem _ h.2.2.1 c (by omega)
  have h3 := dd_mem _ h.2.2.2 c (by omega)
  have h4 : ¬ c = 46 := by rintro rfl; revert hc; decide
  unfold ct
  simp only [List.mem_append, List.mem_cons, List.not_mem_nil, or_false, not_or]
  exact ⟨⟨⟨⟨⟨⟨h0, h4⟩, h1⟩, h4⟩, h2⟩, h4⟩, h3⟩
theorem ct_ne (x : S40) : ct x ≠ [] := by unfold ct; simp
theorem jn_mem (c s : UInt8) (hcs : c ≠ s) : ∀ (ps : List (List UInt8)) (p : List UInt8), (∀ q ∈ p :: ps, c ∉ q) → c ∉ jn s p ps
  | [], p, h => by rw [jn]; exact h p (by simp)
  | q :: r, p, h => by
    rw [jn]
    simp only [List.mem_append, List.mem_cons, not_or]
    exact ⟨h p (by simp), hcs, jn_mem c s hcs r q (fun z hz => h z (by simp at hz ⊢; exact .inr hz))⟩
theorem good_rng {n : Int} {l : List S40} (h : pgood n l = true) : ∀ x ∈ l, (0 ≤ x.f0 ∧ x.f0 < 100) ∧ (0 ≤ x.f1 ∧ x.f1 < 100) ∧ (0 ≤ x.f2 ∧ x.f2 < 100) ∧ (0 ≤ x.f3 ∧ x.f3 < 100) := by
  intro x hx
  obtain ⟨h1, _, h3⟩ := pgood_is h
  exact nok_of h1 (List.all_eq_true.1 h3 x hx)
/-- The text's second part, cut again. -/
theorem tail_parts {n : Int} {l : List S40} (h : pgood n l = true) : (l = [] ∧ Go.Lib.join (l.map ct) [44] = []) ∨ (Go.Lib.join (l.map ct) [44] ≠ [] ∧ spA 44 [] (Go.Lib.join (l.map ct) [44]) = l.map ct) := by
  have hr := good_rng h
  cases l with
  | nil => exact .inl ⟨rfl, by simp [Go.Lib.join_nil]⟩
  | cons x r =>
    right
    rw [List.map_cons, jn_join]
    refine ⟨?_, spA_jn 44 _ _ ?_⟩
    · have := ct_ne x
      cases r with
      | nil => rw [List.map_nil, jn]; exact this
      | cons y r => rw [List.map_cons, jn]; simp
    · intro q hq
      rw [← List.map_cons, List.mem_map] at hq
      obtain ⟨y, hy, rfl⟩ := hq
      exact ct_mem y (hr y hy) 44 (by decide)
theorem tail_mem {n : Int} {l : List S40} (h : pgood n l = true) : (58 : UInt8) ∉ Go.Lib.join (l.map ct) [44] := by
  have hr := good_rng h
  cases l with
  | nil => simp [Go.Lib.join_nil]
  | cons x r =>
    rw [List.map_cons, jn_join]
    refine jn_mem 58 44 (by decide) _ _ ?_
    intro q hq
    rw [← List.map_cons, List.mem_map] at hq
    obtain ⟨y, hy, rfl⟩ := hq
    exact ct_mem y (hr y hy) 58 (by decide)
abbrev pbad : Int × List S40 × Bool := (0, [], false)
open Classical in
noncomputable def pfin (s : List UInt8) (n : Int) (cl : List S40) : Int × List S40 × Bool := if pgood n cl = true ∧ ptx n cl = s then (n, cl, true) else pbad
open Classical in
noncomputable def pthen (s : List UInt8) (n : Int) (cl : List S40) : Option (List S40) → Int × List S40 × Bool
  | none => pbad
  | some cs => pfin s n (cl ++ cs)
def rdN : List (List UInt8) → Option (List Int)
  | [] => some []
  | w :: r => match Go.Lib.atoiAll w with
    | .ok v => (rdN r).map (v :: ·)
    | _ => none
def imC (w : List UInt8) : Option S40 := match rdN (spA 46 [] w) with
  | some [a, b, c, d] => some ⟨a, b, c, d⟩
  | _ => none
theorem atoi_ok {w : List UInt8} {v : Int} (hw : w.length ≤ 281474976710656) (h : Go.Lib.atoiAll w = .ok v) : strconv_Atoi.f (up w) = some (v, none) := by
  unfold strconv_Atoi.f
  rw [if_pos (by rw [up_size]; exact hw)]
  have e : (up w).data.toList = w := L_mk w
  rw [e, h]
theorem atoi_bad {w : List UInt8} (hw : w.length ≤ 281474976710656) (h : ∀ v, Go.Lib.atoiAll w ≠ .ok v) : ∃ x q, strconv_Atoi.f (up w) = some (x, some q) := by
  unfold strconv_Atoi.f
  rw [if_pos (by rw [up_size]; exact hw)]
  have e : (up w).data.toList = w := L_mk w
  rw [e]
  cases h0 : Go.Lib.atoiAll w
  · rename_i v; exact absurd h0 (h v)
  · exact ⟨_, _, rfl⟩
  · exact ⟨_, _, rfl⟩
theorem im_split (c : UInt8) (w : List UInt8) (hw : w.length ≤ 1000000000) : strings_Split.f (up w) (⟨#[c]⟩ : ByteArray) = some ((spA c [] w).map up) := by
  unfold strings_Split.f
  rw [if_pos ⟨by rw [up_size]; omega, Nat.le_refl 1⟩, splitB_spA]
theorem im_j2 (s : ByteArray) (n : Int) (cl : List S40) (hl : cl.length ≤ 1000000000) : Ev (fun k => impl_ParsePuzzle.j2 k s n cl) (pfin (L s) n cl) := by
  refine Ev.succ ?_
  simp only [impl_ParsePuzzle.j2]
  refine Ev.bind (isPuzzle_ev n cl (by omega)) ?_
  by_cases hg : pgood n cl = true
  · have h := pgood_is hg
    rw [hg]
    have hT : Ev (fun k => impl_puzzleText.f k n cl) (up (ptx n cl)) := by
      unfold impl_puzzleText.f
      exact imT_loop n h.1 cl h.2.1 h.2.2 cl.length 0 (by omega)
    refine Ev.pos rfl (Ev.bind hT ?_)
    rw [toList_L, toList_L, L_mk]
    by_cases ht : ptx n cl = L s
    · have e : pfin (L s) n cl = (n, cl, true) := by unfold pfin; rw [if_pos ⟨hg, ht⟩]
      rw [e]; exact Ev.pos ht (Ev.now _)
    · have e : pfin (L s) n cl = pbad := by unfold pfin; rw [if_neg (fun h => ht h.2)]
      rw [e]; exact Ev.neg ht (Ev.now _)
  · have e : pfin (L s) n cl = pbad := by unfold pfin; rw [if_neg (fun h => hg h.1)]
    rw [e]
    exact Ev.neg hg (Ev.now _)
theorem im_l1 (s r : ByteArray) (ws0 : List ByteArray) (m i0 n : Int) (cl : List S40) (hcl : cl.length ≤ 1000000000) (ws : List (List UInt8)) (hw : ws.length ≤ 1000000000) (hs : ∀ w ∈ ws, w.length ≤ 281474976710656) (R : Int × List S40 × Bool)
    (hR : ∀ a b c d, rdN ws = some [a, b, c, d] → Ev (fun k => impl_ParsePuzzle.l0 k s r ws0 m (wrap64 (i0 + 1)) n (cl ++ [⟨a, b, c, d⟩])) R) (hbad : (∀ a b c d, rdN ws ≠ some [a, b, c, d]) → R = pbad) :
    ∀ (d i : Nat) (acc : List Int), i + d = ws.length → acc.length = i → rdN ws = (rdN (ws.drop i)).map (acc ++ ·) →
      Ev (fun k => impl_ParsePuzzle.l1 k s r acc ws0 m i0 (ws.map up) ((ws.map up).length : Int) (i : Int) n cl) R := by
  have hz : ((ws.map up).length : Int) = (ws.length : Int) := by simp
  intro d
  induction d with
  | zero =>
    intro i acc hi ha hq
    refine Ev.succ ?_
    simp only [impl_ParsePuzzle.l1]
    have e1 : ws.drop i = [] := List.drop_of_length_le (by omega)
    rw [e1] at hq
    simp only [rdN, Option.map_some, List.append_nil] at hq
    refine Ev.neg (by omega) (Ev.iff (fun h4 => ?_) (fun h4 => ?_))
    · match acc, h4 with
      | [a, b, c, d], _ => exact Ev.pos (by simp) (Ev.pos (by simp) (Ev.pos (by simp) (Ev.pos (by simp) (Ev.pos (by omega) (hR a b c d hq)))))
      | [], h => simp at h
      | [_], h => simp at h
      | [_, _], h => simp at h
      | [_, _, _], h => simp at h
      | _ :: _ :: _ :: _ :: _ :: _, h => simp at h; omega
    · rw [hbad (fun a b c d h => by rw [hq] at h; have h := Option.some.inj h; subst h; exact h4 (by simp))]
      exact Ev.now _
  | succ d ih =>
    intro i acc hi ha hq
    have hlt : i < ws.length := by omega
    have e0 : ws.drop i = ws[i] :: ws.drop (i + 1) := List.drop_eq_getElem_cons hlt
    refine Ev.succ ?_
    simp only [impl_ParsePuzzle.l1]
    rw [rd_up ws i hlt]
    have hsz := hs ws[i] (List.getElem_mem hlt)
    refine Ev.pos (by omega) (Ev.pos (by omega) (Ev.pos (by omega) ?_))
    by_cases hv : ∃ v, Go.Lib.atoiAll ws[i] = .ok v
    · obtain ⟨v, hv⟩ := hv
      rw [atoi_ok hsz hv]
      simp only [Option.bind_some]
      rw [show (i : Int) + 1 = ((i + 1 : Nat) : Int) by omega, wrap64_id (x := ((i + 1 : Nat) : Int)) (by omega) (by omega)]
      refine Ev.pos rfl (Ev.pos (by omega) (ih (i + 1) (acc ++ [v]) (by omega) (by simp; omega) ?_))
      rw [hq, e0, rdN, hv]
      simp only [Option.map_map]
      congr 1
      funext t
      simp
    · obtain ⟨x, q, hb⟩ := atoi_bad hsz (fun v h => hv ⟨v, h⟩)
      rw [hb]
      simp only [Option.bind_some]
      have hn : rdN ws = none := by
        rw [hq, e0, rdN]
        cases h0 : Go.Lib.atoiAll ws[i]
        · rename_i v; exact absurd ⟨v, h0⟩ hv
        · rfl
        · rfl
      rw [hbad (fun a b c d h => by rw [hn] at h; cases h)]
      exact Ev.neg (by simp) (Ev.now _)
theorem im_l0 (s : ByteArray) (r : List UInt8) (hr : r ≠ []) (ws : List (List UInt8)) (hw : ws.length ≤ 10000000) (hs : ∀ w ∈ ws, w.length ≤ 10000000) (n : Int) : ∀ (d i : Nat) (cl : List S40), i + d = ws.length → cl.length = i →
    Ev (fun k => impl_ParsePuzzle.l0 k s (up r) (ws.map up) ((ws.map up).length : Int) (i : Int) n cl) (pthen (L s) n cl (rdAll imC (ws.drop i))) := by
  have hz : ((ws.map up).length : Int) = (ws.length : Int) := by simp
  intro d
  induction d with
  | zero =>
    intro i cl hi hc
    refine Ev.succ ?_
    simp only [impl_ParsePuzzle.l0]
    have e1 : ws.drop i = [] := List.drop_of_length_le (by omega)
    rw [e1, rdAll, pthen, List.append_nil]
    exact Ev.neg (by omega) (im_j2 s n cl (by omega))
  | succ d ih =>
    intro i cl hi hc
    have hlt : i < ws.length := by omega
    have e0 : ws.drop i = ws[i] :: ws.drop (i + 1) := List.drop_eq_getElem_cons hlt
    refine Ev.succ ?_
    simp only [impl_ParsePuzzle.l0]
    have hsz := hs ws[i] (List.getElem_mem hlt)
    rw [rd_up ws i hlt, toList_L, L_mk, im_split 46 ws[i] (by omega)]
    simp only [Option.bind_some]
    refine Ev.pos (by omega) (Ev.pos (by omega) (Ev.pos (by omega) (Ev.neg hr ?_)))
    have hlen := spA_len 46 ws[i] []
    refine im_l1 s (up r) (ws.map up) _ (i : Int) n cl (by omega) (spA 46 [] ws[i]) (by omega) (fun w hm => ?_) _ (fun a b c d h => ?_) (fun h => ?_) (spA 46 [] ws[i]).length 0 [] (by omega) rfl (by simp)
    · have := spA_mem 46 ws[i] [] w hm
      simp only [List.length_nil] at this; omega
    · rw [show (i : Int) + 1 = ((i + 1 : Nat) : Int) by omega, wrap64_id (x := ((i + 1 : Nat) : Int)) (by omega) (by omega)]
      have h2 := ih (i + 1) (cl ++ [⟨a, b, c, d⟩]) (by omega) (by simp; omega)
      have e2 : imC ws[i] = some ⟨a, b, c, d⟩ := by unfold imC; rw [h]
      rw [e0, rdAll, e2]
      cases h3 : rdAll imC (ws.drop (i + 1)) with
      | none => rw [h3] at h2; exact h2
      | some cs => rw [h3] at h2; simp only [pthen, Option.map_some] at h2 ⊢; simpa using h2
    · have e2 : imC ws[i] = none := by
        unfold imC
        split
        · next a b c d h0 => exact absurd h0 (h a b c d)
        · rfl
      rw [e0, rdAll, e2]
      rfl
open Classical in
noncomputable def imP (s : List UInt8) : Int × List S40 × Bool :=
  match Go.Lib.atoiAll (Go.Lib.cut s [58]).1 with
  | .ok n => if (Go.Lib.cut s [58]).2.1 = [] then pfin s n [] else pthen s n [] (rdAll imC (spA 44 [] (Go.Lib.cut s [58]).2.1))
  | _ => pbad
theorem cut_len (s sep : List UInt8) : (Go.Lib.cut s sep).1.length ≤ s.length ∧ (Go.Lib.cut s sep).2.1.length ≤ s.length := by
  unfold Go.Lib.cut
  split
  · simp; omega
  · simp
theorem imP_ev (s : List UInt8) (hs : s.length ≤ 1048576) : Ev (fun k => impl_ParsePuzzle.f k (up s)) (imP s) := by
  unfold impl_ParsePuzzle.f strings_Cut.f imP
  have e : (up s).data.toList = s := L_mk s
  have e2 : ((⟨#[58]⟩ : ByteArray)).data.toList = [58] := rfl
  rw [if_pos (by rw [up_size]; omega), e, e2]
  simp only [Option.bind_some]
  obtain ⟨h1, h2⟩ := cut_len s [58]
  generalize (Go.Lib.cut s [58]).1 = a at h1
  generalize (Go.Lib.cut s [58]).2.1 = r at h2
  cases h0 : Go.Lib.atoiAll a
  · rename_i n
    have h3 : strconv_Atoi.f ⟨a.toArray⟩ = some (n, none) := atoi_ok (by omega) h0
    have h4 : strings_Split.f ⟨r.toArray⟩ (⟨#[44]⟩ : ByteArray) = some ((spA 44 [] r).map up) := im_split 44 r (by omega)
    rw [h3, h4]
    simp only [Option.bind_some]
    refine Ev.pos rfl ?_
    by_cases hr : r = []
    · subst hr
      rw [if_pos rfl]
      refine Ev.succ ?_
      simp only [impl_ParsePuzzle.l0, spA]
      have e3 : (⟨([] : List UInt8).toArray⟩ : ByteArray).toList = [] := by rw [toList_L, L_mk]
      have h5 := im_j2 (up s) n [] (by simp)
      rw [show L (up s) = s from L_mk s] at h5
      exact Ev.pos (by simp) (Ev.pos (by omega) (Ev.pos (by simp) (Ev.pos e3 h5)))
    · rw [if_neg hr]
      have hlen := spA_len 44 r []
      have h5 := im_l0 (up s) r hr (spA 44 [] r) (by omega) (fun w hm => by have := spA_mem 44 r [] w hm; simp only [List.length_nil] at this; omega) n (spA 44 [] r).length 0 [] (by omega) rfl
      rw [show L (up s) = s from L_mk s] at h5
      exact h5
  · obtain ⟨x, q, h3⟩ := atoi_bad (w := a) (by omega) (fun v h => by rw [h0] at h; cases h)
    have h3 : strconv_Atoi.f ⟨a.toArray⟩ = some (x, some q) := h3
    rw [h3]
    simp only [Option.bind_some]
    exact Ev.neg (by simp) (Ev.now _)
  · obtain ⟨x, q, h3⟩ := atoi_bad (w := a) (by omega) (fun v h => by rw [h0] at h; cases h)
    have h3 : strconv_Atoi.f ⟨a.toArray⟩ = some (x, some q) := h3
    rw [h3]
    simp only [Option.bind_some]
    exact Ev.neg (by simp) (Ev.now _)
theorem pfin_is (s : List UInt8) (n : Int) (cl : List S40) : pfin s n cl = pbad ∨ (pgood n cl = true ∧ ptx n cl = s ∧ pfin s n cl = (n, cl, true)) := by
  unfold pfin
  by_cases h : pgood n cl = true ∧ ptx n cl = s
  · right; rw [if_pos h]; exact ⟨h.1, h.2, rfl⟩
  · left; rw [if_neg h]
theorem imP_is (s : List UInt8) : imP s = pbad ∨ ∃ n l, pgood n l = true ∧ ptx n l = s ∧ imP s = (n, l, true) := by
  have key : ∀ n cl, pfin s n cl = pbad ∨ ∃ n' l, pgood n' l = true ∧ ptx n' l = s ∧ pfin s n cl = (n', l, true) := fun n cl => by
    rcases pfin_is s n cl with h | ⟨h1, h2, h3⟩
    · exact .inl h
    · exact .inr ⟨n, cl, h1, h2, h3⟩
  unfold imP
  split
  · split
    · exact key _ _
    · unfold pthen
      split
      · exact .inl rfl
      · exact key _ _
  · exact .inl rfl
theorem imP_txt (n : Int) (l : List S40) (h : pgood n l = true) : imP (ptx n l) = (n, l, true) := by
  have hn := (pgood_is h).1
  have hc : Go.Lib.cut (ptx n l) [58] = (dd n, Go.Lib.join (l.map ct) [44], true) := by
    unfold ptx
    have := cut_at 58 (dd n) (Go.Lib.join (l.map ct) [44]) (dd_mem n (by omega) 58 (by decide))
    simpa using this
  have hC : ∀ x ∈ l, imC (ct x) = some x := fun x hx => by
    have hr := good_rng h x hx
    unfold imC
    rw [spA_ct x hr]
    simp only [rdN, atoi_dd _ hr.1, atoi_dd _ hr.2.1, atoi_dd _ hr.2.2.1, atoi_dd _ hr.2.2.2, Option.map_some]
  unfold imP
  rw [hc, atoi_dd n (by omega)]
  simp only
  rcases tail_parts h with ⟨rfl, h2⟩ | ⟨h2, h3⟩
  · rw [if_pos h2]; unfold pfin; rw [if_pos ⟨h, rfl⟩]
  · rw [if_neg h2, h3, rdAll_ct l hC, pthen, List.nil_append]; unfold pfin; rw [if_pos ⟨h, rfl⟩]
noncomputable def spC (w : List UInt8) : Option S40 := match spA 46 [] w with
  | [a, b, c, d] => some ⟨l1R a, l1R b, l1R c, l1R d⟩
  | _ => none
open Classical in
noncomputable def qfin (s : List UInt8) (n : Int) (cl : List S40) : Int × List S40 × Bool := (n, cl, decide (pgood n cl = true ∧ ptx n cl = s))
open Classical in
noncomputable def qthen (s : List UInt8) (n : Int) (cl : List S40) : Option (List S40) → Int × List S40 × Bool
  | none => pbad
  | some cs => qfin s n (cl ++ cs)
theorem sp_end (s : ByteArray) (n : Int) (cl : List S40) (hl : cl.length ≤ 1000000000) :
    Ev (fun k => (spec_pzGood.f k n cl).bind fun t => (if t = true then ((spec_pzText.f k n cl).bind fun u => (some (n, cl, (u.toList == s.toList)))) else (some (n, cl, false)))) (qfin (L s) n cl) := by
  refine Ev.bind (pzGood_ev n cl hl) ?_
  by_cases hg : pgood n cl = true
  · have h := pgood_is hg
    rw [hg]
    refine Ev.pos rfl (Ev.bind (spT_ev n h.1 cl h.2.1 h.2.2) (Ev.const ?_))
    rw [toList_L, toList_L, L_mk]
    by_cases ht : ptx n cl = L s
    · have e : qfin (L s) n cl = (n, cl, true) := by unfold qfin; rw [decide_eq_true ⟨hg, ht⟩]
      rw [e, beq_iff_eq.2 ht]
    · have e : qfin (L s) n cl = (n, cl, false) := by unfold qfin; rw [decide_eq_false (fun h => ht h.2)]
      rw [e, beq_eq_false_iff_ne.2 ht]
  · have e : qfin (L s) n cl = (n, cl, false) := by unfold qfin; rw [decide_eq_false (fun h => hg h.1)]
    rw [e]
    exact Ev.neg hg (Ev.now _)
theorem sp_l0 (s : ByteArray) (ws : List (List UInt8)) (hw : ws.length ≤ 10000000) (hs : ∀ w ∈ ws, w.length ≤ 10000000) (n : Int) : ∀ (d i : Nat) (cl : List S40), i + d = ws.length → cl.length = i →
    Ev (fun k => spec_pzParse.l0 k s (ws.map up) ((ws.map up).length : Int) (i : Int) n cl) (qthen (L s) n cl (rdAll spC (ws.drop i))) := by
  have hz : ((ws.map up).length : Int) = (ws.length : Int) := by simp
  intro d
  induction d with
  | zero =>
    intro i cl hi hc
    refine Ev.succ ?_
    simp only [spec_pzParse.l0]
    have e1 : ws.drop i = [] := List.drop_of_length_le (by omega)
    rw [e1, rdAll, qthen, List.append_nil]
    exact Ev.neg (by omega) (sp_end s n cl (by omega))
  | succ d ih =>
    intro i cl hi hc
    have hlt : i < ws.length := by omega
    have e0 : ws.drop i = ws[i] :: ws.drop (i + 1) := List.drop_eq_getElem_cons hlt
    refine Ev.succ ?_
    simp only [spec_pzParse.l0]
    have hsz := hs ws[i] (List.getElem_mem hlt)
    rw [rd_up ws i hlt]
    have hsp : Ev (fun k => spec_l1Split.f k (up ws[i]) 46) ((spA 46 [] ws[i]).map up) := l1Split_ev ws[i] (by omega) 46
    refine Ev.pos (by omega) (Ev.pos (by omega) (Ev.pos (by omega) (Ev.bind hsp ?_)))
    match hq : spA 46 [] ws[i] with
    | [a, b, c, d] =>
      have e2 : spC ws[i] = some ⟨l1R a, l1R b, l1R c, l1R d⟩ := by unfold spC; rw [hq]
      have h2 := ih (i + 1) (cl ++ [⟨l1R a, l1R b, l1R c, l1R d⟩]) (by omega) (by simp; omega)
      have hr0 : rdOf ByteArray.empty (List.map up [a, b, c, d]) 0 = up a := rfl
      have hr1 : rdOf ByteArray.empty (List.map up [a, b, c, d]) 1 = up b := rfl
      have hr2 : rdOf ByteArray.empty (List.map up [a, b, c, d]) 2 = up c := rfl
      have hr3 : rdOf ByteArray.empty (List.map up [a, b, c, d]) 3 = up d := rfl
      rw [hr0, hr1, hr2, hr3]
      rw [show (i : Int) + 1 = ((i + 1 : Nat) : Int) by omega, wrap64_id (x := ((i + 1 : Nat) : Int)) (by omega) (by omega)]
      refine Ev.pos (by simp) (Ev.pos (by simp) (Ev.bind (l1R_ev a) (Ev.pos (by simp) (Ev.bind (l1R_ev b) (Ev.pos (by simp) (Ev.bind (l1R_ev c) (Ev.pos (by simp) (Ev.bind (l1R_ev d) (Ev.pos (by omega) ?_)))))))))
      rw [e0, rdAll, e2]
      cases h3 : rdAll spC (ws.drop (i + 1)) with
      | none => rw [h3] at h2; exact h2
      | some cs => rw [h3] at h2; simp only [qthen, Option.map_some] at h2 ⊢; simpa using h2
    | [] =>
      have e2 : spC ws[i] = none := by unfold spC; rw [hq]
      rw [e0, rdAll, e2]
      exact Ev.neg (by simp) (Ev.now _)
    | [_] =>
      have e2 : spC ws[i] = none := by unfold spC; rw [hq]
      rw [e0, rdAll, e2]
      exact Ev.neg (by simp) (Ev.now _)
    | [_, _] =>
      have e2 : spC ws[i] = none := by unfold spC; rw [hq]
      rw [e0, rdAll, e2]
      exact Ev.neg (by simp) (Ev.now _)
    | [_, _, _] =>
      have e2 : spC ws[i] = none := by unfold spC; rw [hq]
      rw [e0, rdAll, e2]
      exact Ev.neg (by simp) (Ev.now _)
    | _ :: _ :: _ :: _ :: _ :: _ =>
      have e2 : spC ws[i] = none := by unfold spC; rw [hq]
      rw [e0, rdAll, e2]
      exact Ev.neg (by simp; omega) (Ev.now _)
open Classical in
noncomputable def spP (s : List UInt8) : Int × List S40 × Bool :=
  if 120 < s.length then pbad else match spA 58 [] s with
    | [a, r] => if r = [] then qfin s (l1R a) [] else qthen s (l1R a) [] (rdAll spC (spA 44 [] r))
    | _ => pbad
theorem spP_ev (s : List UInt8) (hs : s.length ≤ 1048576) : Ev (fun k => spec_pzParse.f k (up s)) (spP s) := by
  have hz := up_isize s
  unfold spec_pzParse.f
  have hsp : Ev (fun k => spec_l1Split.f k (up s) 58) ((spA 58 [] s).map up) := l1Split_ev s (by omega) 58
  have hT : Ev (fun k => spec_pzParse.j0 k (up s) ((spA 58 [] s).map up) true) pbad := Ev.succ (by simp only [spec_pzParse.j0]; exact Ev.pos trivial (Ev.now _))
  refine Ev.bind hsp ?_
  unfold spP
  by_cases h120 : 120 < s.length
  · rw [if_pos h120]
    exact Ev.pos (by omega) hT
  · rw [if_neg h120]
    refine Ev.neg (by omega) ?_
    have hmem := spA_mem 58 s []
    match hq : spA 58 [] s with
    | [a, r] =>
      simp only
      rw [hq] at hT
      have hr0 : rdOf ByteArray.empty (List.map up [a, r]) 0 = up a := rfl
      have hr1 : rdOf ByteArray.empty (List.map up [a, r]) 1 = up r := rfl
      have hzr := up_isize r
      have hlr : r.length ≤ 1048576 := by have := hmem r (by rw [hq]; simp); simp only [List.length_nil] at this; omega
      have e3 : ((((List.map up [a, r]).length : Nat) : Int) != 2) = false := by simp
      rw [e3]
      refine Ev.succ ?_
      simp only [spec_pzParse.j0]
      rw [hr0, hr1]
      refine Ev.neg (by decide) (Ev.pos (by simp) (Ev.bind (l1R_ev a) (Ev.pos (by simp) ?_)))
      by_cases hr : r = []
      · rw [if_pos hr]
        subst hr
        have h5 := sp_end (up s) (l1R a) [] (by simp)
        rw [show L (up s) = s from L_mk s] at h5
        exact Ev.neg (by simp only [List.length_nil] at hzr; omega) h5
      · rw [if_neg hr]
        have hpos := List.length_pos_iff.2 hr
        have hlen := spA_len 44 r []
        have hs2 : Ev (fun k => spec_l1Split.f k (up r) 44) ((spA 44 [] r).map up) := l1Split_ev r (by omega) 44
        have h5 := sp_l0 (up s) (spA 44 [] r) (by omega) (fun w hm => by have := spA_mem 44 r [] w hm; simp only [List.length_nil] at this; omega) (l1R a) (spA 44 [] r).length 0 [] (by omega) rfl
        rw [show L (up s) = s from L_mk s] at h5
        exact Ev.pos (by omega) (Ev.bind hs2 h5)
    | [] =>
      rw [hq] at hT
      exact hT
    | [_] =>
      rw [hq] at hT
      exact hT
    | x1 :: x2 :: x3 :: t =>
      rw [hq] at hT
      have e3 : ((((List.map up (x1 :: x2 :: x3 :: t)).length : Nat) : Int) != 2) = true := by simp; omega
      rw [e3]
      exact hT
theorem qfin_is (s : List UInt8) (n : Int) (cl : List S40) : (qfin s n cl).2.2 = false ∨ (pgood n cl = true ∧ ptx n cl = s ∧ qfin s n cl = (n, cl, true)) := by
  unfold qfin
  by_cases h : pgood n cl = true ∧ ptx n cl = s
  · right; exact ⟨h.1, h.2, by rw [decide_eq_true h]⟩
  · left; exact decide_eq_false h
theorem spP_is (s : List UInt8) : (spP s).2.2 = false ∨ ∃ n l, pgood n l = true ∧ ptx n l = s ∧ spP s = (n, l, true) := by
  have key : ∀ n cl, (qfin s n cl).2.2 = false ∨ ∃ n' l, pgood n' l = true ∧ ptx n' l = s ∧ qfin s n cl = (n', l, true) := fun n cl => by
    rcases qfin_is s n cl with h | ⟨h1, h2, h3⟩
    · exact .inl h
    · exact .inr ⟨n, cl, h1, h2, h3⟩
  unfold spP
  split
  · exact .inl rfl
  · split
    · split
      · exact key _ _
      · unfold qthen
        split
        · exact .inl rfl
        · exact key _ _
    · exact .inl rfl
theorem ptx_len {n : Int} {l : List S40} (h : pgood n l = true) : (ptx n l).length ≤ 120 := by
  have hn := (pgood_is h).1
  have h6 := (pgood_is h).2.1
  have h0 := dd_len n (by omega)
  have h1 := join_len (l.map ct) (fun x hx => by obtain ⟨y, hy, rfl⟩ := List.mem_map.1 hx; exact ct_len (good_rng h y hy))
  rw [List.length_map] at h1
  unfold ptx
  simp only [List.length_append, List.length_cons, List.length_nil]
  omega
theorem spP_txt (n : Int) (l : List S40) (h : pgood n l = true) : spP (ptx n l) = (n, l, true) := by
  have hn := (pgood_is h).1
  have hc : spA 58 [] (ptx n l) = [dd n, Go.Lib.join (l.map ct) [44]] := by
    unfold ptx
    have h1 := spA_hit 58 (Go.Lib.join (l.map ct) [44]) (dd n) [] (dd_mem n (by omega) 58 (by decide))
    have h2 := spA_no 58 (Go.Lib.join (l.map ct) [44]) [] (tail_mem h)
    rw [h2] at h1
    simpa using h1
  have hC : ∀ x ∈ l, spC (ct x) = some x := fun x hx => by
    have hr := good_rng h x hx
    unfold spC
    rw [spA_ct x hr]
    simp only [l1R_dd _ hr.1, l1R_dd _ hr.2.1, l1R_dd _ hr.2.2.1, l1R_dd _ hr.2.2.2]
  have hq : qfin (ptx n l) n l = (n, l, true) := by unfold qfin; rw [decide_eq_true ⟨h, rfl⟩]
  unfold spP
  rw [if_neg (by have := ptx_len h; omega), hc]
  simp only
  rw [l1R_dd n (by omega)]
  rcases tail_parts h with ⟨rfl, h2⟩ | ⟨h2, h3⟩
  · rw [if_pos h2]; exact hq
  · rw [if_neg h2, h3, rdAll_ct l hC, qthen, List.nil_append]; exact hq
/-- Both read a text alike. -/
noncomputable def fpar (s : List UInt8) : Int × List S40 × Bool := imP s
theorem spPar_ev (s : List UInt8) (hs : s.length ≤ 1048576) : Ev (fun k => spec_ParsePuzzle.f k (up s)) (fpar s) := by
  unfold spec_ParsePuzzle.f fpar
  refine Ev.bind (spP_ev s hs) ?_
  rcases spP_is s with h | ⟨n, l, h1, rfl, h3⟩
  · have e : imP s = pbad := by
      rcases imP_is s with h2 | ⟨n, l, h1, rfl, h3⟩
      · exact h2
      · rw [spP_txt n l h1] at h; cases h
    rw [e]
    exact Ev.neg (by rw [h]; decide) (Ev.now _)
  · rw [h3, imP_txt n l h1]
    exact Ev.pos rfl (Ev.now _)
theorem imPar_ev (s : List UInt8) (hs : s.length ≤ 1048576) : Ev (fun k => impl_ParsePuzzle.f k (up s)) (fpar s) := imP_ev s hs
theorem fpar_len (s : List UInt8) : (fpar s).2.1.length ≤ 6 := by
  unfold fpar
  rcases imP_is s with h | ⟨n, l, h1, _, h3⟩
  · rw [h]; simp
  · rw [h3]; exact (pgood_is h1).2.1
theorem FnExactParsePuzzle : StatFnExactParsePuzzle := by
  intro a0 hs
  refine Ev.get ?_
  unfold laws_FnExactParsePuzzle.f
  have e0 : a0 = up (L a0) := up_L a0
  have hsz := isize_L a0
  refine Ev.iff (fun _ => Ev.now _) (fun h => ?_)
  have sp := spPar_ev (L a0) (by omega)
  have im := imPar_ev (L a0) (by omega)
  have hrl := fpar_len (L a0)
  rw [← e0] at sp im
  generalize fpar (L a0) = R at sp im hrl
  obtain ⟨rn, rl, rb⟩ := R
  simp only at hrl
  refine Ev.bind sp (Ev.bind im (Ev.bind (eqPuzzle_ev rn rl (by omega)) (Ev.pos rfl (Ev.succ ?_))))
  simp only [laws_FnExactParsePuzzle.j0]
  refine Ev.neg (by simp) (Ev.bind (markPuzzle_ev rn rl (by omega)) (Ev.bind (heldPuzzle_ev rn rl.length (by omega)) (Ev.neg (by omega) (Ev.pos rfl (Ev.bind im (Ev.bind (eqPuzzle_ev rn rl (by omega)) (Ev.pos rfl (Ev.succ ?_))))))))
  simp only [laws_FnExactParsePuzzle.j1]
  exact Ev.neg (by simp) (Ev.bind (heldPuzzle_ev rn rl.length (by omega)) (Ev.neg (by omega) (Ev.pos rfl (Ev.now _))))

end Go.Proofs.YthblgfiijakjlaaDoor.Pure
