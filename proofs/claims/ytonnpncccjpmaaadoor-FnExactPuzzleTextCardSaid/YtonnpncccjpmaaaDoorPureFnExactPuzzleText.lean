/- The law FnExactPuzzleText, pure: what the printed functions answer, and that it is what the law asks. No condition. -/
import Derived.Test.YtonnpncccjpmaaaDoorStatFnExactPuzzleText
import Derived.Test.YtonnpncccjpmaaaDoorPlBase
import Derived.Test.YtonnpncccjpmaaaDoorPlList
import Derived.Test.YtonnpncccjpmaaaDoorPlClue
import Derived.Test.YtonnpncccjpmaaaDoorPlBytes
import Derived.Test.YtonnpncccjpmaaaDoorPlTick
import Derived.Test.YtonnpncccjpmaaaDoorPlRow
import Derived.Test.YtonnpncccjpmaaaDoorPlNum
import Derived.Test.YtonnpncccjpmaaaDoorPlTail
namespace Go.Proofs.YtonnpncccjpmaaaDoor.Pure
open Go.RowKit Go.Proofs.YtonnpncccjpmaaaDoor.PFnExactPuzzleText Go.Proofs.YtonnpncccjpmaaaDoorW.PrintWords Go.Proofs.YtonnpncccjpmaaaDoorW.PrintMore Go.Proofs.YtonnpncccjpmaaaDoor.Opn Go.Proofs.YtonnpncccjpmaaaDoor.Pl
set_option linter.unusedVariables false
set_option linter.unusedSimpArgs false
theorem in_eq (a b c : Int) : impl_in.f a b c = some (decide (b ≤ a ∧ a ≤ c)) := by
  unfold impl_in.f; by_cases h : b ≤ a <;> simp [h]
theorem l1In_eq (a b c : Int) : spec_l1In.f a b c = some (decide (b ≤ a ∧ a ≤ c)) := by
  unfold spec_l1In.f; by_cases h : b ≤ a <;> simp [h]
theorem pzSoldiers_eq (n : Int) : spec_pzSoldiers.f n = some (decide (1 ≤ n ∧ n ≤ 8)) := by
  unfold spec_pzSoldiers.f; rw [l1In_eq]; rfl
theorem pzClue_eq {n : Int} (h : 1 ≤ n ∧ n ≤ 8) (k a b c : Int) : spec_pzClue.f n k a b c = some (cok n k a b c) := by
  unfold spec_pzClue.f cok
  rw [wrap64_id (x := n - 1) (by omega) (by omega)]
  simp only [l1In_eq, Option.bind_some, ite_and, ite_dec]
  repeat' split
  all_goals first | rfl | simp_all
theorem isHidden_eq (n : Int) : impl_isHidden.f n = some (decide (1 ≤ n ∧ n ≤ 8)) := by
  unfold impl_isHidden.f; rw [in_eq]; rfl
theorem isClue_eq (n k a b c : Int) : impl_isClue.f n k a b c = some (decide (1 ≤ n ∧ n ≤ 8) && cok n k a b c) := by
  unfold impl_isClue.f cok
  simp only [isHidden_eq, in_eq, Option.bind_some, ite_and, ite_dec]
  by_cases h : 1 ≤ n ∧ n ≤ 8
  · rw [wrap64_id (x := n - 1) (by omega) (by omega)]
    simp only [h, and_self, decide_true, if_true, Bool.true_and]
    repeat' split
    all_goals first | rfl | simp_all
  · simp [h]
def cokS (n : Int) (x : S51) : Bool := cok n x.f0 x.f1 x.f2 x.f3
def pgood (n : Int) (l : List S51) : Bool := decide (1 ≤ n ∧ n ≤ 8) && (decide (l.length ≤ 6) && l.all (cokS n))
theorem rdClueI {l : List S51} {i : Nat} (h : i < l.length) : rd_T51 l (i : Int) = l[i] := by simp [rd_T51, h]
theorem all_drop (n : Int) (l : List S51) (i : Nat) (h : i < l.length) : (l.drop i).all (cokS n) = (cok n (rd_T51 l (i : Int)).f0 (rd_T51 l (i : Int)).f1 (rd_T51 l (i : Int)).f2 (rd_T51 l (i : Int)).f3 && (l.drop (i + 1)).all (cokS n)) := by
  rw [List.drop_eq_getElem_cons h, rdClueI h]; rfl
theorem pzGood_loop {n : Int} (h : 1 ≤ n ∧ n ≤ 8) (l : List S51) (hl : l.length ≤ 1000000000) : ∀ (d i : Nat), i + d = l.length → Ev (fun k => spec_pzGood.l0 k l (l.length : Int) (i : Int) n l) ((l.drop i).all (cokS n)) := by
  intro d
  induction d with
  | zero =>
    intro i hi
    refine Ev.succ ?_
    simp only [spec_pzGood.l0]
    refine Ev.neg (by omega) (Ev.const ?_)
    rw [List.drop_of_length_le (by omega)]; rfl
  | succ d ih =>
    intro i hi
    refine Ev.succ ?_
    simp only [spec_pzGood.l0, pzClue_eq h, Option.bind_some]
    refine Ev.pos (by omega) (Ev.pos (by omega) (Ev.pos (by omega) ?_))
    rw [wrap64_id (x := (i : Int) + 1) (by omega) (by omega), all_drop n l i (by omega)]
    refine Ev.iff (fun hc => ?_) (fun hc => ?_)
    · rw [hc, Bool.true_and]; exact ih (i + 1) (by omega)
    · rw [Bool.not_eq_true] at hc; rw [hc, Bool.false_and]; exact Ev.now _
theorem pzGood_ev (n : Int) (l : List S51) (hl : l.length ≤ 1000000000) : Ev (fun k => spec_pzGood.f k n l) (pgood n l) := by
  unfold spec_pzGood.f pgood
  simp only [pzSoldiers_eq, Option.bind_some]
  refine Ev.iff (fun hc => ?_) (fun hc => ?_)
  · have hc' := of_decide_eq_true hc
    refine Ev.succ ?_
    simp only [spec_pzGood.j0]
    by_cases h6 : l.length ≤ 6
    · refine Ev.neg (by simp; omega) ?_
      rw [hc, decide_eq_true h6, Bool.true_and, Bool.true_and]
      exact pzGood_loop hc' l hl l.length 0 (by omega)
    · refine Ev.pos (by simp; omega) (Ev.const ?_)
      rw [decide_eq_false h6, Bool.false_and, Bool.and_false]
  · refine Ev.succ ?_
    simp only [spec_pzGood.j0, if_true]
    refine Ev.const ?_
    rw [Bool.not_eq_true] at hc
    rw [hc, Bool.false_and]
theorem isPuz_loop {n : Int} (h : 1 ≤ n ∧ n ≤ 8) (l : List S51) (hl : l.length ≤ 1000000000) : ∀ (d i : Nat), i + d = l.length → ∃ r : Int, Ev (fun k => impl_isPuzzle_idx.l0 k n l (i : Int)) r ∧ decide (0 ≤ r) = !(l.drop i).all (cokS n) := by
  intro d
  induction d with
  | zero =>
    intro i hi
    refine ⟨-1, Ev.succ ?_, ?_⟩
    · simp only [impl_isPuzzle_idx.l0]
      exact Ev.neg (by omega) (Ev.now _)
    · rw [List.drop_of_length_le (by omega)]; rfl
  | succ d ih =>
    intro i hi
    obtain ⟨r, h1, h2⟩ := ih (i + 1) (by omega)
    have hs := all_drop n l i (by omega)
    cases hc : cok n (rd_T51 l (i : Int)).f0 (rd_T51 l (i : Int)).f1 (rd_T51 l (i : Int)).f2 (rd_T51 l (i : Int)).f3 with
    | true =>
      rw [hc, Bool.true_and] at hs
      refine ⟨r, Ev.succ ?_, by rw [hs]; exact h2⟩
      simp only [impl_isPuzzle_idx.l0, impl_isPuzzle_clo.f, isClue_eq, hc, decide_eq_true h, Option.bind_some]
      refine Ev.pos (by omega) (Ev.pos (by omega) (Ev.neg (by simp) ?_))
      rw [wrap64_id (x := (i : Int) + 1) (by omega) (by omega)]
      exact h1
    | false =>
      rw [hc, Bool.false_and] at hs
      refine ⟨(i : Int), Ev.succ ?_, by rw [hs]; simp⟩
      simp only [impl_isPuzzle_idx.l0, impl_isPuzzle_clo.f, isClue_eq, hc, Option.bind_some]
      exact Ev.pos (by omega) (Ev.pos (by omega) (Ev.pos (by simp) (Ev.now _)))
theorem isPuzzle_ev (n : Int) (l : List S51) (hl : l.length ≤ 1000000000000) : Ev (fun k => impl_isPuzzle.f k n l) (pgood n l) := by
  unfold impl_isPuzzle.f pgood
  simp only [isHidden_eq, Option.bind_some]
  refine Ev.iff (fun h1 => ?_) (fun h1 => ?_)
  · have h1' := of_decide_eq_true h1
    rw [h1, Bool.true_and]
    by_cases h6 : l.length ≤ 6
    · refine Ev.pos (by omega) ?_
      rw [decide_eq_true h6, Bool.true_and]
      obtain ⟨r, e1, e2⟩ := isPuz_loop h1' l (by omega) l.length 0 (by omega)
      unfold impl_isPuzzle_has.f
      refine Ev.bind (Ev.bind e1 (Ev.now _)) (Ev.const ?_)
      rw [e2, List.drop_zero, Bool.not_not]
    · refine Ev.neg (by omega) (Ev.const ?_)
      rw [decide_eq_false h6, Bool.false_and]
  · rw [Bool.not_eq_true] at h1
    rw [h1, Bool.false_and]
    exact Ev.now _
def cvClue (x : S54) : S51 := ⟨x.f0, x.f1, x.f2, x.f3⟩
theorem rdClueL {l : List S54} {i : Nat} (h : i < l.length) : rd_T54 l (i : Int) = l[i] := by simp [rd_T54, h]
theorem toClueS_loop (l : List S54) (hl : l.length ≤ 1000000000) : ∀ (d i : Nat), i + d = l.length → Ev (fun k => laws_toClueS.l0 k l (cpy z51 (l.map cvClue) i) (i : Int)) (l.map cvClue) := by
  intro d
  induction d with
  | zero =>
    intro i h
    refine Ev.succ ?_
    simp only [laws_toClueS.l0]
    refine Ev.neg (by omega) (Ev.const ?_)
    rw [show i = (l.map cvClue).length by simp; omega, cpy_all]
  | succ d ih =>
    intro i h
    refine Ev.succ ?_
    simp only [laws_toClueS.l0, laws_toClue.f, Option.bind_some]
    refine Ev.pos (by omega) (Ev.pos (by omega) (Ev.pos (by rw [cpy_len _ _ _ (by simp; omega)]; simp; omega) ?_))
    have hi : i < (l.map cvClue).length := by simp; omega
    have e := cpy_succ z51 (l.map cvClue) i hi
    rw [List.getElem_map] at e
    rw [wrap64_id (x := (i : Int) + 1) (by omega) (by omega), Int.toNat_natCast, rdClueL (show i < l.length by omega)]
    have := ih (i + 1) (by omega)
    rw [← e] at this
    exact this
theorem toClueS_ev (l : List S54) (hl : l.length ≤ 1000000000) : Ev (fun k => laws_toClueS.f k l) (l.map cvClue) := by
  unfold laws_toClueS.f
  refine Ev.pos (by omega) (Ev.pos (by omega) ?_)
  have := toClueS_loop l hl l.length 0 (by omega)
  rw [cpy_zero, List.length_map] at this
  exact this
theorem toPuzzle_ev (n : Int) (l : List S54) (hl : l.length ≤ 1000000000) : Ev (fun k => laws_toPuzzle.f k n l) (n, l.map cvClue) := by
  unfold laws_toPuzzle.f
  exact Ev.bind (toClueS_ev l hl) (Ev.now _)
theorem eqClueS_loop (l : List S51) (hl : l.length ≤ 1000000000) : ∀ (d i : Nat), i + d = l.length → Ev (fun k => laws_eqClueS.l0 k l l (i : Int)) true := by
  intro d
  induction d with
  | zero =>
    intro i h
    refine Ev.succ ?_
    simp only [laws_eqClueS.l0]
    exact Ev.neg (by omega) (Ev.now _)
  | succ d ih =>
    intro i h
    refine Ev.succ ?_
    have e : ∀ (x y z u : Int), laws_eqClue.f x y z u x y z u = some true := by intro x y z u; unfold laws_eqClue.f; simp
    simp only [laws_eqClueS.l0, e, Option.bind_some]
    refine Ev.pos (by omega) (Ev.pos (by omega) (Ev.pos (by omega) (Ev.pos (by first | rfl | trivial) ?_)))
    rw [wrap64_id (x := (i : Int) + 1) (by omega) (by omega)]
    exact ih (i + 1) (by omega)
theorem eqPuzzle_ev (n : Int) (l : List S51) (hl : l.length ≤ 1000000000) : Ev (fun k => laws_eqPuzzle.f k n l n l) true := by
  unfold laws_eqPuzzle.f
  refine Ev.pos rfl (Ev.bind (a := true) ?_ (Ev.const (by simp)))
  unfold laws_eqClueS.f
  exact Ev.pos rfl (eqClueS_loop l hl l.length 0 (by omega))
theorem szPuzzle_eq (n : Int) (l : List S54) (hl : l.length ≤ 1000000000000000) : laws_szPuzzle.f n l 1048576 = some (if 1048576 < l.length then -1 else 1048576 - (l.length : Int)) := by
  unfold laws_szPuzzle.f laws_szClueS.f
  rw [wrap64_id (x := 1048576 - (l.length : Int)) (by omega) (by omega)]
  by_cases h : 1048576 < l.length
  · rw [if_pos (by omega), if_pos h]; rfl
  · rw [if_neg (by omega), if_neg h, Option.bind_some, if_neg (by omega)]
theorem pgood_is {n : Int} {l : List S51} (h : pgood n l = true) : (1 ≤ n ∧ n ≤ 8) ∧ l.length ≤ 6 ∧ l.all (cokS n) = true := by
  unfold pgood at h
  simp only [Bool.and_eq_true, decide_eq_true_eq] at h
  exact h
theorem l1Num_lo (n : Nat) (h : n < 10) : Ev (fun k => spec_l1Num.f k (n : Int)) (up (Go.Lib.decDigits n)) := by
  refine Ev.succ ?_
  simp only [spec_l1Num.f]
  refine Ev.pos (by omega) (Ev.const ?_)
  rw [dig n h, dec_lo n h]
theorem l1Num_ev (n : Nat) (h : n < 100) : Ev (fun k => spec_l1Num.f k (n : Int)) (up (Go.Lib.decDigits n)) := by
  by_cases h1 : n < 10
  · exact l1Num_lo n h1
  · refine Ev.succ ?_
    simp only [spec_l1Num.f, Option.bind_some]
    rw [tdiv_nn (by omega), tmod_nn (by omega), show (n : Int) / 10 = ((n / 10 : Nat) : Int) by omega, show (n : Int) % 10 = ((n % 10 : Nat) : Int) by omega, wrap64_id (x := ((n / 10 : Nat) : Int)) (by omega) (by omega), dig (n % 10) (by omega)]
    refine Ev.neg (by omega) (Ev.bind (l1Num_lo (n / 10) (by omega)) ?_)
    have hl := dec_len (n / 10) (by omega)
    refine Ev.pos (by rw [up_size, up_size, List.length_singleton]; omega) (Ev.const ?_)
    rw [up_app, dec_hi n h1]
theorem l1Num_int (n : Int) (h : 0 ≤ n ∧ n < 100) : Ev (fun k => spec_l1Num.f k n) (up (Go.Lib.decDigits n.toNat)) := by
  have := l1Num_ev n.toNat (by omega)
  rw [show ((n.toNat : Nat) : Int) = n by omega] at this
  exact this
theorem itoa_eq (n : Int) (h : 0 ≤ n ∧ n < 100) : strconv_Itoa.f n = some (up (Go.Lib.decDigits n.toNat)) := by
  unfold strconv_Itoa.f
  rw [if_pos h]
def ct (x : S51) : List UInt8 := dd x.f0 ++ [46] ++ dd x.f1 ++ [46] ++ dd x.f2 ++ [46] ++ dd x.f3
def ptx (n : Int) (l : List S51) : List UInt8 := dd n ++ [58] ++ Go.Lib.join (l.map ct) [44]
theorem nok_of {n : Int} (hn : 1 ≤ n ∧ n ≤ 8) {x : S51} (h : cokS n x = true) : (0 ≤ x.f0 ∧ x.f0 < 100) ∧ (0 ≤ x.f1 ∧ x.f1 < 100) ∧ (0 ≤ x.f2 ∧ x.f2 < 100) ∧ (0 ≤ x.f3 ∧ x.f3 < 100) := by
  unfold cokS cok at h
  repeat' split at h
  all_goals first | (simp only [Bool.and_eq_true, decide_eq_true_eq] at h; omega) | (simp at h)
theorem ct_len {x : S51} (h : (0 ≤ x.f0 ∧ x.f0 < 100) ∧ (0 ≤ x.f1 ∧ x.f1 < 100) ∧ (0 ≤ x.f2 ∧ x.f2 < 100) ∧ (0 ≤ x.f3 ∧ x.f3 < 100)) : (ct x).length ≤ 11 := by
  have h0 := dd_len _ h.1
  have h1 := dd_len _ h.2.1
  have h2 := dd_len _ h.2.2.1
  have h3 := dd_len _ h.2.2.2
  unfold ct
  simp only [List.length_append, List.length_cons, List.length_nil]
  omega
theorem l1Num_dd (n : Int) (h : 0 ≤ n ∧ n < 100) : Ev (fun k => spec_l1Num.f k n) (up (dd n)) := l1Num_int n h
theorem itoa_dd (n : Int) (h : 0 ≤ n ∧ n < 100) : strconv_Itoa.f n = some (up (dd n)) := itoa_eq n h
theorem j1_ev (x : S51) (h : (0 ≤ x.f0 ∧ x.f0 < 100) ∧ (0 ≤ x.f1 ∧ x.f1 < 100) ∧ (0 ≤ x.f2 ∧ x.f2 < 100) ∧ (0 ≤ x.f3 ∧ x.f3 < 100)) (o : List UInt8) (ho : o.length ≤ 1000) (l : List S51) (m i : Int) (R : ByteArray) (hr : Ev (fun k => spec_pzText.l0 k (up (o ++ ct x)) l m (wrap64 (i + 1))) R) :
    Ev (fun k => spec_pzText.j1 k (up o) l m i x.f0 x.f1 x.f2 x.f3) R := by
  have h0 := dd_len _ h.1
  have h1 := dd_len _ h.2.1
  have h2 := dd_len _ h.2.2.1
  have h3 := dd_len _ h.2.2.2
  refine Ev.succ ?_
  simp only [spec_pzText.j1]
  refine Ev.bind (l1Num_dd x.f0 h.1) (Ev.pos (by simp only [up_size]; omega) (Ev.bind (l1Num_dd x.f1 h.2.1) ?_))
  simp only [up_app]
  refine Ev.pos (by simp only [up_size, List.length_append, List.length_cons, List.length_nil]; omega) (Ev.pos (by simp only [up_size, List.length_append, List.length_cons, List.length_nil]; omega) (Ev.bind (l1Num_dd x.f2 h.2.2.1) ?_))
  simp only [up_app]
  refine Ev.pos (by simp only [up_size, List.length_append, List.length_cons, List.length_nil]; omega) (Ev.pos (by simp only [up_size, List.length_append, List.length_cons, List.length_nil]; omega) (Ev.bind (l1Num_dd x.f3 h.2.2.2) ?_))
  simp only [up_app]
  refine Ev.pos (by simp only [up_size, List.length_append, List.length_cons, List.length_nil]; omega) (Ev.pos (by simp only [up_size, List.length_append, List.length_cons, List.length_nil]; omega) ?_)
  exact hr
theorem spT_loop (n : Int) (hn : 1 ≤ n ∧ n ≤ 8) (l : List S51) (hl : l.length ≤ 6) (hc : l.all (cokS n) = true) : ∀ (d i : Nat) (o : List UInt8), i + d = l.length → 1 ≤ i → o.length ≤ 100 + 12 * i → Ev (fun k => spec_pzText.l0 k (up o) l (l.length : Int) (i : Int)) (up (o ++ Go.Lib.joinTail [44] ((l.drop i).map ct))) := by
  intro d
  induction d with
  | zero =>
    intro i o hi h1 ho
    refine Ev.succ ?_
    simp only [spec_pzText.l0]
    rw [List.drop_of_length_le (by omega)]
    refine Ev.neg (by omega) (Ev.const ?_)
    simp [Go.Lib.joinTail]
  | succ d ih =>
    intro i o hi h1 ho
    have hi2 : i < l.length := by omega
    have hk := nok_of hn (List.all_eq_true.1 hc _ (List.getElem_mem hi2))
    have hlen := ct_len hk
    refine Ev.succ ?_
    simp only [spec_pzText.l0]
    rw [rdClueI hi2, List.drop_eq_getElem_cons hi2, List.map_cons, tail_cons]
    have e : up o ++ (⟨#[44]⟩ : ByteArray) = up (o ++ [44]) := up_app o [44]
    rw [e]
    refine Ev.pos (by omega) (Ev.pos (by omega) (Ev.pos (by omega) (Ev.pos (by omega) (Ev.pos (by rw [up_size]; omega) ?_))))
    refine j1_ev _ hk _ (by rw [List.length_append, List.length_singleton]; omega) _ _ _ _ ?_
    rw [show ((i : Int)) + 1 = ((i + 1 : Nat) : Int) by omega, wrap64_id (by omega) (by omega)]
    have := ih (i + 1) (o ++ [44] ++ ct l[i]) (by omega) (by omega) (by simp only [List.length_append, List.length_cons, List.length_nil]; omega)
    simpa only [List.append_assoc] using this
theorem spT_ev (n : Int) (hn : 1 ≤ n ∧ n ≤ 8) (l : List S51) (hl : l.length ≤ 6) (hc : l.all (cokS n) = true) : Ev (fun k => spec_pzText.f k n l) (up (ptx n l)) := by
  have h0 := dd_len n (by omega)
  unfold spec_pzText.f ptx
  refine Ev.bind (l1Num_dd n (by omega)) (Ev.pos (by rw [up_size]; omega) ?_)
  have e : up (dd n) ++ (⟨#[58]⟩ : ByteArray) = up (dd n ++ [58]) := up_app _ [58]
  rw [e]
  cases l with
  | nil =>
    refine Ev.succ ?_
    simp only [spec_pzText.l0]
    refine Ev.neg (by simp) (Ev.const ?_)
    simp [Go.Lib.join_nil]
  | cons x r =>
    have hk := nok_of hn (List.all_eq_true.1 hc x (by simp))
    have hlen := ct_len hk
    refine Ev.succ ?_
    simp only [spec_pzText.l0]
    have hpos : 0 < (x :: r).length := by simp
    have e0 : rd_T51 (x :: r) 0 = x := rdClueI hpos
    rw [e0, List.map_cons, Go.Lib.join_cons]
    refine Ev.pos (by omega) (Ev.pos (by omega) (Ev.pos (by omega) (Ev.neg (by omega) ?_)))
    refine j1_ev _ hk _ (by rw [List.length_append, List.length_singleton]; omega) _ _ _ _ ?_
    have := spT_loop n hn (x :: r) hl hc r.length 1 (dd n ++ [58] ++ ct x) (by simp; omega) (by omega) (by simp only [List.length_append, List.length_cons, List.length_nil]; omega)
    rw [show wrap64 (0 + 1) = ((1 : Nat) : Int) from (wrap64_id (x := 0 + 1) (by omega) (by omega)).trans rfl]
    simpa only [List.append_assoc, List.drop_succ_cons, List.drop_zero] using this
theorem imJoin_eq (n : Int) (hn : 1 ≤ n ∧ n ≤ 8) (l : List S51) (hl : l.length ≤ 6) (hc : l.all (cokS n) = true) : strings_Join.f (l.map fun x => up (ct x)) (⟨#[44]⟩ : ByteArray) = some (up (Go.Lib.join (l.map ct) [44])) := by
  have e : (l.map fun x => up (ct x)).map (·.data.toList) = l.map ct := by simp [Function.comp_def]
  have hj := join_len (l.map ct) (by
    intro y hy
    obtain ⟨x, hx, rfl⟩ := List.mem_map.1 hy
    exact ct_len (nok_of hn (List.all_eq_true.1 hc x hx)))
  rw [List.length_map] at hj
  unfold strings_Join.f
  rw [e]
  exact if_pos ⟨by rw [List.length_map]; omega, by show (Go.Lib.join (l.map ct) [44]).length ≤ _; omega⟩
theorem imT_loop (n : Int) (hn : 1 ≤ n ∧ n ≤ 8) (l : List S51) (hl : l.length ≤ 6) (hc : l.all (cokS n) = true) : ∀ (d i : Nat), i + d = l.length → Ev (fun k => impl_puzzleText.l0 k ((l.take i).map fun x => up (ct x)) l (l.length : Int) (i : Int) n l) (up (ptx n l)) := by
  have h0 := dd_len n (by omega)
  intro d
  induction d with
  | zero =>
    intro i hi
    refine Ev.succ ?_
    simp only [impl_puzzleText.l0]
    rw [List.take_of_length_le (by omega), imJoin_eq n hn l hl hc, itoa_dd n (by omega)]
    have hj := join_len (l.map ct) (by
      intro y hy
      obtain ⟨x, hx, rfl⟩ := List.mem_map.1 hy
      exact ct_len (nok_of hn (List.all_eq_true.1 hc x hx)))
    rw [List.length_map] at hj
    simp only [Option.bind_some, up_app]
    refine Ev.neg (by omega) (Ev.pos (by rw [up_size]; omega) (Ev.pos (by simp only [up_size, List.length_append, List.length_cons, List.length_nil]; omega) (Ev.now _)))
  | succ d ih =>
    intro i hi
    have hi2 : i < l.length := by omega
    have hk := nok_of hn (List.all_eq_true.1 hc _ (List.getElem_mem hi2))
    have h1 := dd_len _ hk.1
    have h2 := dd_len _ hk.2.1
    have h3 := dd_len _ hk.2.2.1
    have h4 := dd_len _ hk.2.2.2
    refine Ev.succ ?_
    simp only [impl_puzzleText.l0]
    rw [rdClueI hi2, itoa_dd _ hk.1, itoa_dd _ hk.2.1, itoa_dd _ hk.2.2.1, itoa_dd _ hk.2.2.2, wrap64_id (x := (i : Int) + 1) (by omega) (by omega)]
    simp only [Option.bind_some, up_app]
    refine Ev.pos (by omega) (Ev.pos (by omega) (Ev.pos (by omega) (Ev.pos (by simp only [up_size]; omega) (Ev.pos (by simp only [up_size, List.length_append, List.length_cons, List.length_nil]; omega) (Ev.pos (by simp only [up_size, List.length_append, List.length_cons, List.length_nil]; omega) (Ev.pos (by simp only [up_size, List.length_append, List.length_cons, List.length_nil]; omega) (Ev.pos (by simp only [up_size, List.length_append, List.length_cons, List.length_nil]; omega) (Ev.pos (by simp only [up_size, List.length_append, List.length_cons, List.length_nil]; omega) (Ev.pos (by rw [List.length_map, List.length_take]; omega) ?_)))))))))
    have := ih (i + 1) (by omega)
    rw [List.take_add_one, List.getElem?_eq_getElem hi2, Option.toList_some, List.map_append] at this
    exact this
def fptx (n : Int) (l : List S51) : ByteArray × Bool := if pgood n l = true then (up (ptx n l), true) else (⟨#[]⟩, false)
theorem spPT_ev (n : Int) (l : List S51) (hl : l.length ≤ 1000000000) : Ev (fun k => spec_PuzzleText.f k n l) (fptx n l) := by
  unfold spec_PuzzleText.f fptx
  refine Ev.bind (pzGood_ev n l hl) ?_
  by_cases hg : pgood n l = true
  · have h := pgood_is hg
    rw [if_pos hg, hg]
    exact Ev.pos rfl (Ev.bind (spT_ev n h.1 l h.2.1 h.2.2) (Ev.now _))
  · rw [if_neg hg]
    exact Ev.neg hg (Ev.now _)
theorem imPT_ev (n : Int) (l : List S51) (hl : l.length ≤ 1000000000) : Ev (fun k => impl_PuzzleText.f k n l) (fptx n l) := by
  unfold impl_PuzzleText.f fptx
  refine Ev.bind (isPuzzle_ev n l (by omega)) ?_
  by_cases hg : pgood n l = true
  · have h := pgood_is hg
    rw [if_pos hg, hg]
    refine Ev.pos rfl (Ev.bind ?_ (Ev.now _))
    unfold impl_puzzleText.f
    exact imT_loop n h.1 l h.2.1 h.2.2 l.length 0 (by omega)
  · rw [if_neg hg]
    exact Ev.neg hg (Ev.now _)
theorem FnExactPuzzleText : StatFnExactPuzzleText := by
  intro n l _ hl8 _
  refine Ev.get ?_
  unfold laws_FnExactPuzzleText.f
  simp only [szPuzzle_eq n l (by omega), Option.bind_some]
  by_cases h : 1048576 < l.length
  · simp only [if_pos h]
    exact Ev.pos (by omega) (Ev.now _)
  · simp only [if_neg h]
    refine Ev.neg (by omega) ?_
    have hm : (l.map cvClue).length ≤ 1000000000 := by simp; omega
    have tp := toPuzzle_ev n l (by omega)
    refine Ev.bind tp (Ev.bind (spPT_ev n _ hm) (Ev.bind tp (Ev.bind (imPT_ev n _ hm) (Ev.pos rfl (Ev.succ ?_)))))
    simp only [laws_FnExactPuzzleText.j0]
    exact Ev.neg (by simp) (Ev.bind tp (Ev.bind (eqPuzzle_ev n _ hm) (Ev.pos rfl (Ev.now _))))

end Go.Proofs.YtonnpncccjpmaaaDoor.Pure
