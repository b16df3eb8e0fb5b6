/- The law FnExactDropClue, pure: what the printed functions answer, and that it is what the law asks. No condition. -/
import Derived.Test.YtphfbldnoinanaaStatFnExactDropClue
import Derived.Test.YtphfbldnoinanaaPlBase
import Derived.Test.YtphfbldnoinanaaPlList
import Derived.Test.YtphfbldnoinanaaPlClue
namespace Go.Proofs.Ytphfbldnoinanaa.Pure
open Go.RowKit Go.Proofs.Ytphfbldnoinanaa.PFnExactDropClue Go.Proofs.YtphfbldnoinanaaW.PrintWords Go.Proofs.YtphfbldnoinanaaW.PrintMore Go.Proofs.Ytphfbldnoinanaa.Opn Go.Proofs.Ytphfbldnoinanaa.Pl
set_option linter.unusedVariables false
set_option linter.unusedSimpArgs false
theorem in_eq (a b c : Int) : impl_in.f a b c = some (decide (b ≤ a ∧ a ≤ c)) := by
  unfold impl_in.f; by_cases h : b ≤ a <;> simp [h]
theorem l1In_eq (a b c : Int) : spec_l1In.f a b c = some (decide (b ≤ a ∧ a ≤ c)) := by
  unfold spec_l1In.f; by_cases h : b ≤ a <;> simp [h]
theorem pzSoldiers_eq (n : Int) : spec_pzSoldiers.f n = some (decide (1 ≤ n ∧ n ≤ 8)) := by
  unfold spec_pzSoldiers.f; rw [l1In_eq]; rfl
theorem pzClue_eq {n : Int} (h : 1 ≤ n ∧ n ≤ 8) (k a b c : Int) : spec_pzClue.f n k a b c = some (cok n k a b c) := by
  unfold spec_pzClue.f cok
  rw [wrap64_id (x := n - 1) (by omega) (by omega)]
  simp only [l1In_eq, Option.bind_some, ite_and, ite_dec]
  repeat' split
  all_goals first | rfl | simp_all
theorem isHidden_eq (n : Int) : impl_isHidden.f n = some (decide (1 ≤ n ∧ n ≤ 8)) := by
  unfold impl_isHidden.f; rw [in_eq]; rfl
theorem isClue_eq (n k a b c : Int) : impl_isClue.f n k a b c = some (decide (1 ≤ n ∧ n ≤ 8) && cok n k a b c) := by
  unfold impl_isClue.f cok
  simp only [isHidden_eq, in_eq, Option.bind_some, ite_and, ite_dec]
  by_cases h : 1 ≤ n ∧ n ≤ 8
  · rw [wrap64_id (x := n - 1) (by omega) (by omega)]
    simp only [h, and_self, decide_true, if_true, Bool.true_and]
    repeat' split
    all_goals first | rfl | simp_all
  · simp [h]
def cokS (n : Int) (x : S37) : Bool := cok n x.f0 x.f1 x.f2 x.f3
def pgood (n : Int) (l : List S37) : Bool := decide (1 ≤ n ∧ n ≤ 8) && (decide (l.length ≤ 6) && l.all (cokS n))
theorem rdClueI {l : List S37} {i : Nat} (h : i < l.length) : rd_T37 l (i : Int) = l[i] := by simp [rd_T37, h]
theorem all_drop (n : Int) (l : List S37) (i : Nat) (h : i < l.length) : (l.drop i).all (cokS n) = (cok n (rd_T37 l (i : Int)).f0 (rd_T37 l (i : Int)).f1 (rd_T37 l (i : Int)).f2 (rd_T37 l (i : Int)).f3 && (l.drop (i + 1)).all (cokS n)) := by
  rw [List.drop_eq_getElem_cons h, rdClueI h]; rfl
theorem pzGood_loop {n : Int} (h : 1 ≤ n ∧ n ≤ 8) (l : List S37) (hl : l.length ≤ 1000000000) : ∀ (d i : Nat), i + d = l.length → Ev (fun k => spec_pzGood.l0 k l (l.length : Int) (i : Int) n l) ((l.drop i).all (cokS n)) := by
  intro d
  induction d with
  | zero =>
    intro i hi
    refine Ev.succ ?_
    simp only [spec_pzGood.l0]
    refine Ev.neg (by omega) (Ev.const ?_)
    rw [List.drop_of_length_le (by omega)]; rfl
  | succ d ih =>
    intro i hi
    refine Ev.succ ?_
    simp only [spec_pzGood.l0, pzClue_eq h, Option.bind_some]
    refine Ev.pos (by omega) (Ev.pos (by omega) (Ev.pos (by omega) ?_))
    rw [wrap64_id (x := (i : Int) + 1) (by omega) (by omega), all_drop n l i (by omega)]
    refine Ev.iff (fun hc => ?_) (fun hc => ?_)
    · rw [hc, Bool.true_and]; exact ih (i + 1) (by omega)
    · rw [Bool.not_eq_true] at hc; rw [hc, Bool.false_and]; exact Ev.now _
theorem pzGood_ev (n : Int) (l : List S37) (hl : l.length ≤ 1000000000) : Ev (fun k => spec_pzGood.f k n l) (pgood n l) := by
  unfold spec_pzGood.f pgood
  simp only [pzSoldiers_eq, Option.bind_some]
  refine Ev.iff (fun hc => ?_) (fun hc => ?_)
  · have hc' := of_decide_eq_true hc
    refine Ev.succ ?_
    simp only [spec_pzGood.j0]
    by_cases h6 : l.length ≤ 6
    · refine Ev.neg (by simp; omega) ?_
      rw [hc, decide_eq_true h6, Bool.true_and, Bool.true_and]
      exact pzGood_loop hc' l hl l.length 0 (by omega)
    · refine Ev.pos (by simp; omega) (Ev.const ?_)
      rw [decide_eq_false h6, Bool.false_and, Bool.and_false]
  · refine Ev.succ ?_
    simp only [spec_pzGood.j0, if_true]
    refine Ev.const ?_
    rw [Bool.not_eq_true] at hc
    rw [hc, Bool.false_and]
theorem isPuz_loop {n : Int} (h : 1 ≤ n ∧ n ≤ 8) (l : List S37) (hl : l.length ≤ 1000000000) : ∀ (d i : Nat), i + d = l.length → ∃ r : Int, Ev (fun k => impl_isPuzzle_idx.l0 k n l (i : Int)) r ∧ decide (0 ≤ r) = !(l.drop i).all (cokS n) := by
  intro d
  induction d with
  | zero =>
    intro i hi
    refine ⟨-1, Ev.succ ?_, ?_⟩
    · simp only [impl_isPuzzle_idx.l0]
      exact Ev.neg (by omega) (Ev.now _)
    · rw [List.drop_of_length_le (by omega)]; rfl
  | succ d ih =>
    intro i hi
    obtain ⟨r, h1, h2⟩ := ih (i + 1) (by omega)
    have hs := all_drop n l i (by omega)
    cases hc : cok n (rd_T37 l (i : Int)).f0 (rd_T37 l (i : Int)).f1 (rd_T37 l (i : Int)).f2 (rd_T37 l (i : Int)).f3 with
    | true =>
      rw [hc, Bool.true_and] at hs
      refine ⟨r, Ev.succ ?_, by rw [hs]; exact h2⟩
      simp only [impl_isPuzzle_idx.l0, impl_isPuzzle_clo.f, isClue_eq, hc, decide_eq_true h, Option.bind_some]
      refine Ev.pos (by omega) (Ev.pos (by omega) (Ev.neg (by simp) ?_))
      rw [wrap64_id (x := (i : Int) + 1) (by omega) (by omega)]
      exact h1
    | false =>
      rw [hc, Bool.false_and] at hs
      refine ⟨(i : Int), Ev.succ ?_, by rw [hs]; simp⟩
      simp only [impl_isPuzzle_idx.l0, impl_isPuzzle_clo.f, isClue_eq, hc, Option.bind_some]
      exact Ev.pos (by omega) (Ev.pos (by omega) (Ev.pos (by simp) (Ev.now _)))
theorem isPuzzle_ev (n : Int) (l : List S37) (hl : l.length ≤ 1000000000000) : Ev (fun k => impl_isPuzzle.f k n l) (pgood n l) := by
  unfold impl_isPuzzle.f pgood
  simp only [isHidden_eq, Option.bind_some]
  refine Ev.iff (fun h1 => ?_) (fun h1 => ?_)
  · have h1' := of_decide_eq_true h1
    rw [h1, Bool.true_and]
    by_cases h6 : l.length ≤ 6
    · refine Ev.pos (by omega) ?_
      rw [decide_eq_true h6, Bool.true_and]
      obtain ⟨r, e1, e2⟩ := isPuz_loop h1' l (by omega) l.length 0 (by omega)
      unfold impl_isPuzzle_has.f
      refine Ev.bind (Ev.bind e1 (Ev.now _)) (Ev.const ?_)
      rw [e2, List.drop_zero, Bool.not_not]
    · refine Ev.neg (by omega) (Ev.const ?_)
      rw [decide_eq_false h6, Bool.false_and]
  · rw [Bool.not_eq_true] at h1
    rw [h1, Bool.false_and]
    exact Ev.now _
def cvClue (x : S34) : S37 := ⟨x.f0, x.f1, x.f2, x.f3⟩
theorem rdClueL {l : List S34} {i : Nat} (h : i < l.length) : rd_T34 l (i : Int) = l[i] := by simp [rd_T34, h]
theorem toClueS_loop (l : List S34) (hl : l.length ≤ 1000000000) : ∀ (d i : Nat), i + d = l.length → Ev (fun k => laws_toClueS.l0 k l (cpy z37 (l.map cvClue) i) (i : Int)) (l.map cvClue) := by
  intro d
  induction d with
  | zero =>
    intro i h
    refine Ev.succ ?_
    simp only [laws_toClueS.l0]
    refine Ev.neg (by omega) (Ev.const ?_)
    rw [show i = (l.map cvClue).length by simp; omega, cpy_all]
  | succ d ih =>
    intro i h
    refine Ev.succ ?_
    simp only [laws_toClueS.l0, laws_toClue.f, Option.bind_some]
    refine Ev.pos (by omega) (Ev.pos (by omega) (Ev.pos (by rw [cpy_len _ _ _ (by simp; omega)]; simp; omega) ?_))
    have hi : i < (l.map cvClue).length := by simp; omega
    have e := cpy_succ z37 (l.map cvClue) i hi
    rw [List.getElem_map] at e
    rw [wrap64_id (x := (i : Int) + 1) (by omega) (by omega), Int.toNat_natCast, rdClueL (show i < l.length by omega)]
    have := ih (i + 1) (by omega)
    rw [← e] at this
    exact this
theorem toClueS_ev (l : List S34) (hl : l.length ≤ 1000000000) : Ev (fun k => laws_toClueS.f k l) (l.map cvClue) := by
  unfold laws_toClueS.f
  refine Ev.pos (by omega) (Ev.pos (by omega) ?_)
  have := toClueS_loop l hl l.length 0 (by omega)
  rw [cpy_zero, List.length_map] at this
  exact this
theorem toPuzzle_ev (n : Int) (l : List S34) (hl : l.length ≤ 1000000000) : Ev (fun k => laws_toPuzzle.f k n l) (n, l.map cvClue) := by
  unfold laws_toPuzzle.f
  exact Ev.bind (toClueS_ev l hl) (Ev.now _)
theorem eqClueS_loop (l : List S37) (hl : l.length ≤ 1000000000) : ∀ (d i : Nat), i + d = l.length → Ev (fun k => laws_eqClueS.l0 k l l (i : Int)) true := by
  intro d
  induction d with
  | zero =>
    intro i h
    refine Ev.succ ?_
    simp only [laws_eqClueS.l0]
    exact Ev.neg (by omega) (Ev.now _)
  | succ d ih =>
    intro i h
    refine Ev.succ ?_
    have e : ∀ (x y z u : Int), laws_eqClue.f x y z u x y z u = some true := by intro x y z u; unfold laws_eqClue.f; simp
    simp only [laws_eqClueS.l0, e, Option.bind_some]
    refine Ev.pos (by omega) (Ev.pos (by omega) (Ev.pos (by omega) (Ev.pos (by first | rfl | trivial) ?_)))
    rw [wrap64_id (x := (i : Int) + 1) (by omega) (by omega)]
    exact ih (i + 1) (by omega)
theorem eqPuzzle_ev (n : Int) (l : List S37) (hl : l.length ≤ 1000000000) : Ev (fun k => laws_eqPuzzle.f k n l n l) true := by
  unfold laws_eqPuzzle.f
  refine Ev.pos rfl (Ev.bind (a := true) ?_ (Ev.const (by simp)))
  unfold laws_eqClueS.f
  exact Ev.pos rfl (eqClueS_loop l hl l.length 0 (by omega))
theorem szPuzzle_eq (n : Int) (l : List S34) (hl : l.length ≤ 1000000000000000) : laws_szPuzzle.f n l 1048576 = some (if 1048576 < l.length then -1 else 1048576 - (l.length : Int)) := by
  unfold laws_szPuzzle.f laws_szClueS.f
  rw [wrap64_id (x := 1048576 - (l.length : Int)) (by omega) (by omega)]
  by_cases h : 1048576 < l.length
  · rw [if_pos (by omega), if_pos h]; rfl
  · rw [if_neg (by omega), if_neg h, Option.bind_some, if_neg (by omega)]
def mkd (c : Int) : S37 := ⟨c, c + 1, c + 2, c + 3⟩
def mks : Nat → List S37
  | 0 => []
  | n + 1 => mks n ++ [mkd (4 * (n : Int) + 1)]
theorem mks_len : ∀ n, (mks n).length = n
  | 0 => rfl
  | n + 1 => by simp [mks, mks_len n]
theorem rd_mid (a : List S37) (y : S37) (b : List S37) (i : Nat) (h : a.length = i) : rd_T37 (a ++ y :: b) (i : Int) = y := by simp [rd_T37, ← h]
theorem set_mid (a : List S37) (y z : S37) (b : List S37) (i : Nat) (h : a.length = i) : (a ++ y :: b).set i z = a ++ z :: b := by
  rw [List.set_append_right _ _ (by omega), ← h, Nat.sub_self]; rfl
theorem mark_loop (l : List S37) (hl : l.length ≤ 100000000) : ∀ (d i : Nat), i + d = l.length → Ev (fun k => laws_markClueS.l0 k (mks i ++ l.drop i) (4 * (i : Int) + 1) (i : Int)) (4 * (l.length : Int) + 1, mks l.length) := by
  intro d
  induction d with
  | zero =>
    intro i h
    refine Ev.succ ?_
    simp only [laws_markClueS.l0]
    refine Ev.neg (by simp [mks_len]; omega) (Ev.const ?_)
    rw [List.drop_of_length_le (by omega), List.append_nil, show i = l.length by omega]
  | succ d ih =>
    intro i h
    have hd : l.drop i = l[i]'(by omega) :: l.drop (i + 1) := List.drop_eq_getElem_cons (by omega)
    refine Ev.succ ?_
    simp only [laws_markClueS.l0, Option.bind_some]
    refine Ev.pos (by simp [mks_len]; omega) (Ev.pos (by omega) ?_)
    rw [hd]
    simp only [Int.toNat_natCast, rd_mid _ _ _ i (mks_len i), set_mid _ _ _ _ i (mks_len i)]
    rw [wrap64_id (x := 4 * (i : Int) + 1 + 1) (by omega) (by omega), wrap64_id (x := 4 * (i : Int) + 1 + 1 + 1) (by omega) (by omega), wrap64_id (x := 4 * (i : Int) + 1 + 1 + 1 + 1) (by omega) (by omega), wrap64_id (x := 4 * (i : Int) + 1 + 1 + 1 + 1 + 1) (by omega) (by omega), wrap64_id (x := (i : Int) + 1) (by omega) (by omega)]
    have := ih (i + 1) (by omega)
    have e : mks (i + 1) ++ l.drop (i + 1) = mks i ++ (⟨4 * (i : Int) + 1, 4 * (i : Int) + 1 + 1, 4 * (i : Int) + 1 + 1 + 1, 4 * (i : Int) + 1 + 1 + 1 + 1⟩ : S37) :: l.drop (i + 1) := by
      simp only [mks, mkd, List.append_assoc, List.singleton_append]
      congr 2
    rw [e, show 4 * ((i + 1 : Nat) : Int) + 1 = 4 * (i : Int) + 1 + 1 + 1 + 1 + 1 by omega] at this
    exact this
theorem markPuzzle_ev (n : Int) (l : List S37) (hl : l.length ≤ 100000000) : Ev (fun k => laws_markPuzzle.f k n l 1) (4 * (l.length : Int) + 1, mks l.length) := by
  unfold laws_markPuzzle.f laws_markClueS.f
  have := mark_loop l hl l.length 0 (by omega)
  exact Ev.bind (by simpa [mks] using this) (Ev.now _)
theorem mks_get : ∀ (n i : Nat) (h : i < n), (mks n)[i]'(by rw [mks_len]; exact h) = mkd (4 * (i : Int) + 1)
  | 0, i, h => by omega
  | n + 1, i, h => by
    by_cases hi : i < n
    · have := mks_get n i hi
      simp only [mks]
      rw [List.getElem_append_left (by rw [mks_len]; exact hi)]
      exact this
    · obtain rfl : i = n := by omega
      simp only [mks]
      rw [List.getElem_append_right (by rw [mks_len]; omega)]
      simp [mks_len]
theorem held_loop (m : Nat) (hl : m ≤ 100000000) : ∀ (d i : Nat), i + d = m → Ev (fun k => laws_heldClueS.l0 k (mks m) (4 * (i : Int) + 1) (i : Int)) (4 * (m : Int) + 1) := by
  intro d
  induction d with
  | zero =>
    intro i h
    refine Ev.succ ?_
    simp only [laws_heldClueS.l0]
    refine Ev.neg (by rw [mks_len]; omega) (Ev.const ?_)
    rw [show i = m by omega]
  | succ d ih =>
    intro i h
    have e : rd_T37 (mks m) (i : Int) = mkd (4 * (i : Int) + 1) := by
      rw [rdClueI (by rw [mks_len]; omega), mks_get m i (by omega)]
    refine Ev.succ ?_
    simp only [laws_heldClueS.l0, e, mkd]
    rw [wrap64_id (x := 4 * (i : Int) + 1 + 1) (by omega) (by omega), wrap64_id (x := 4 * (i : Int) + 1 + 1 + 1) (by omega) (by omega), wrap64_id (x := 4 * (i : Int) + 1 + 1 + 1 + 1) (by omega) (by omega), wrap64_id (x := 4 * (i : Int) + 1 + 1 + 1 + 1 + 1) (by omega) (by omega), wrap64_id (x := (i : Int) + 1) (by omega) (by omega)]
    refine Ev.pos (by rw [mks_len]; omega) (Ev.pos (by omega) (Ev.pos (by first | rfl | trivial) (Ev.pos (by first | rfl | trivial) (Ev.pos (by omega) (Ev.pos (by omega) ?_)))))
    have := ih (i + 1) (by omega)
    rw [show 4 * ((i + 1 : Nat) : Int) + 1 = 4 * (i : Int) + 1 + 1 + 1 + 1 + 1 by omega] at this
    exact this
theorem heldPuzzle_ev (n : Int) (m : Nat) (hl : m ≤ 100000000) : Ev (fun k => laws_heldPuzzle.f k n (mks m) 1) (4 * (m : Int) + 1) := by
  unfold laws_heldPuzzle.f laws_heldClueS.f
  have := held_loop m hl m 0 (by omega)
  exact Ev.bind (by simpa using this) (Ev.const (by rw [if_neg (by omega)]))
/-- What is left of a puzzle without its clue number k. -/
def dcl (n : Int) (l : List S37) (k : Int) : Int × List S37 × Bool := if pgood n l = true ∧ 0 ≤ k ∧ k ≤ (l.length : Int) - 1 then (n, l.eraseIdx k.toNat, true) else (0, [], false)
theorem dcl_len (n : Int) (l : List S37) (k : Int) (hl : l.length ≤ 1048576) : (dcl n l k).2.1.length ≤ 2000000 := by
  unfold dcl
  by_cases h : pgood n l = true ∧ 0 ≤ k ∧ k ≤ (l.length : Int) - 1
  · rw [if_pos h]
    have := List.length_eraseIdx_le l k.toNat
    simp only
    omega
  · rw [if_neg h]; simp
theorem spDropClue_ev (n : Int) (l : List S37) (k : Int) (hl : l.length ≤ 1048576) : Ev (fun q => spec_DropClue.f q n l k) (dcl n l k) := by
  unfold spec_DropClue.f dcl
  refine Ev.bind (pzGood_ev n l (by omega)) ?_
  rw [wrap64_id (x := (l.length : Int) - 1) (by omega) (by omega)]
  simp only [l1In_eq, Option.bind_some]
  cases hg : pgood n l with
  | false => simp only [Bool.false_eq_true, if_false, false_and]; exact Ev.now _
  | true =>
    simp only [if_true, true_and]
    by_cases h : 0 ≤ k ∧ k ≤ (l.length : Int) - 1
    · simp only [h, and_self, decide_true, if_true]
      refine Ev.const ?_
      have e : spec_pzWithout.f l k = some (l.eraseIdx k.toNat) := by
        unfold spec_pzWithout.f
        simp only [Option.bind_some, List.nil_append, List.length_nil]
        rw [wrap64_id (x := k + 1) (by omega) (by omega), if_pos h.1, if_pos (by omega), if_pos (by simp; omega), if_pos (by omega), if_pos (by omega), if_pos (by simp; omega), List.eraseIdx_eq_take_drop_succ, show (k + 1).toNat = k.toNat + 1 by omega]
      rw [e]; rfl
    · rw [if_neg h, decide_eq_false h]
      simp only [Bool.false_eq_true, if_false]
      exact Ev.now _
theorem imDropClue_ev (n : Int) (l : List S37) (k : Int) (hl : l.length ≤ 1048576) : Ev (fun q => impl_DropClue.f q n l k) (dcl n l k) := by
  unfold impl_DropClue.f dcl
  refine Ev.bind (isPuzzle_ev n l (by omega)) ?_
  rw [wrap64_id (x := (l.length : Int) - 1) (by omega) (by omega)]
  simp only [in_eq, Option.bind_some]
  cases hg : pgood n l with
  | false => simp only [Bool.false_eq_true, if_false, false_and]; exact Ev.now _
  | true =>
    simp only [if_true, true_and]
    by_cases h : 0 ≤ k ∧ k ≤ (l.length : Int) - 1
    · simp only [h, and_self, decide_true, if_true]
      refine Ev.const ?_
      have e : impl_without.f l k = some (l.eraseIdx k.toNat) := by
        unfold impl_without.f impl_Clue_24.f
        rw [if_pos (by omega)]
        simp only [Option.bind_some]
        rw [if_pos ⟨h.1, by omega, by omega⟩]
      rw [e]; rfl
    · rw [if_neg h, decide_eq_false h]
      simp only [Bool.false_eq_true, if_false]
      exact Ev.now _
theorem FnExactDropClue : StatFnExactDropClue := by
  intro n l k _ hl8 _ _
  refine Ev.get ?_
  unfold laws_FnExactDropClue.f
  simp only [szPuzzle_eq n l (by omega), Option.bind_some]
  by_cases h : 1048576 < l.length
  · simp only [if_pos h]
    exact Ev.pos (by omega) (Ev.now _)
  · simp only [if_neg h]
    refine Ev.neg (by omega) ?_
    have hm : (l.map cvClue).length ≤ 1048576 := by simp; omega
    generalize hL : l.map cvClue = L at hm
    have tp := toPuzzle_ev n l (by omega)
    rw [hL] at tp
    have sp := spDropClue_ev n L k hm
    have im := imDropClue_ev n L k hm
    have hrl := dcl_len n L k hm
    generalize dcl n L k = R at sp im hrl
    obtain ⟨rn, rl, rb⟩ := R
    simp only at hrl
    refine Ev.bind tp (Ev.bind sp (Ev.bind tp (Ev.bind im (Ev.bind (eqPuzzle_ev rn rl (by omega)) ?_))))
    refine Ev.pos rfl (Ev.succ ?_)
    simp only [laws_FnExactDropClue.j0]
    refine Ev.neg (by simp) (Ev.bind tp (Ev.bind (eqPuzzle_ev n L (by omega)) (Ev.pos rfl (Ev.bind (markPuzzle_ev n L (by omega)) (Ev.neg (by simp; omega) (Ev.bind (eqPuzzle_ev rn rl (by omega)) (Ev.pos rfl (Ev.succ ?_))))))))
    simp only [laws_FnExactDropClue.j1]
    refine Ev.neg (by simp) (Ev.bind (markPuzzle_ev rn rl (by omega)) (Ev.bind (heldPuzzle_ev rn rl.length (by omega)) (Ev.neg (by omega) (Ev.pos rfl (Ev.bind tp (Ev.bind im (Ev.bind (eqPuzzle_ev rn rl (by omega)) (Ev.pos rfl (Ev.succ ?_)))))))))
    simp only [laws_FnExactDropClue.j2]
    exact Ev.neg (by simp) (Ev.bind (heldPuzzle_ev rn rl.length (by omega)) (Ev.neg (by omega) (Ev.pos rfl (Ev.now _))))

end Go.Proofs.Ytphfbldnoinanaa.Pure
