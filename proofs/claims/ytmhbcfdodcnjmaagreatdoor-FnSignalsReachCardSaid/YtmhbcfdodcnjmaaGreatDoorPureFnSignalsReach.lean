/- The law FnSignalsReach, pure: what the printed functions answer, and that it is what the law asks. No condition. -/
import Derived.Test.YtmhbcfdodcnjmaaGreatDoorStatFnSignalsReach
import Derived.Test.YtmhbcfdodcnjmaaGreatDoorPlAllFnSignalsReach
namespace Go.Proofs.YtmhbcfdodcnjmaaGreatDoor.Pure
open Go.RowKit Go.Proofs.YtmhbcfdodcnjmaaGreatDoor.PFnSignalsReach Go.Proofs.YtmhbcfdodcnjmaaGreatDoorW.PrintWords Go.Proofs.YtmhbcfdodcnjmaaGreatDoorW.PrintMore Go.Proofs.YtmhbcfdodcnjmaaGreatDoor.Opn Go.Proofs.YtmhbcfdodcnjmaaGreatDoor.Pl
set_option linter.unusedVariables false
set_option linter.unusedSimpArgs false
theorem in_eq (a b c : Int) : impl_in.f a b c = some (decide (b ≤ a ∧ a ≤ c)) := by
  unfold impl_in.f; by_cases h : b ≤ a <;> simp [h]
theorem l1In_eq (a b c : Int) : spec_l1In.f a b c = some (decide (b ≤ a ∧ a ≤ c)) := by
  unfold spec_l1In.f; by_cases h : b ≤ a <;> simp [h]
theorem siSoldiers_eq (a : Int) : spec_siSoldiers.f a = some (decide (1 ≤ a ∧ a ≤ 100)) := by
  unfold spec_siSoldiers.f; rw [l1In_eq]; rfl
theorem siSignal_eq (n f : Int) (l : Bool) (s : Int) : spec_siSignal.f n f l s = some (decide (sigOK n f s)) := by
  unfold spec_siSignal.f
  simp only [siSoldiers_eq, l1In_eq, Option.bind_some]
  by_cases h : 1 ≤ n ∧ n ≤ 100
  · rw [wrap64_id (x := n - 1) (by omega) (by omega)]
    by_cases h2 : 0 ≤ f ∧ f ≤ n - 1
    · unfold sigOK; simp [h, h2]
    · have k : ¬ sigOK n f s := fun q => h2 ⟨q.2.2.1, q.2.2.2.1⟩
      simp only [h, h2, k, decide_true, decide_false, if_true, Bool.false_eq_true, if_false]; simp
  · simp only [h, decide_false]
    have : ¬ sigOK n f s := fun k => h ⟨k.1, k.2.1⟩
    simp [this]
theorem isSignalRow_eq (a : Int) : impl_isSignalRow.f a = some (decide (1 ≤ a ∧ a ≤ 100)) := by
  unfold impl_isSignalRow.f; rw [in_eq]; rfl
theorem isSignal_eq (n f : Int) (l : Bool) (s : Int) : impl_isSignal.f n f l s = some (decide (sigOK n f s)) := by
  unfold impl_isSignal.f
  simp only [isSignalRow_eq, in_eq, Option.bind_some]
  by_cases h : 1 ≤ n ∧ n ≤ 100
  · rw [wrap64_id (x := n - 1) (by omega) (by omega)]
    by_cases h2 : 0 ≤ f ∧ f ≤ n - 1
    · unfold sigOK; simp [h, h2]
    · have k : ¬ sigOK n f s := fun q => h2 ⟨q.2.2.1, q.2.2.2.1⟩
      simp only [h, h2, k, decide_true, decide_false, if_true, Bool.false_eq_true, if_false]; simp
  · simp only [h, decide_false]
    have : ¬ sigOK n f s := fun k => h ⟨k.1, k.2.1⟩
    simp [this]
theorem siAt_eq {n f : Int} {l : Bool} {s t : Int} (h : sigOK n f s) (ht : 0 ≤ t) (ht' : t ≤ 1000000000) : spec_siAt.f n f l s t = some (plc n f l s t) := by
  have h0 := h
  unfold sigOK at h
  unfold spec_siAt.f plc
  by_cases h1 : n = 1
  · rw [if_pos h1, if_pos h1]
  · rw [if_neg h1, if_neg h1]
    have hq0 : 0 ≤ t / s := Int.ediv_nonneg ht (by omega)
    have hq1 : t / s ≤ t := Int.ediv_le_self s ht
    rw [wrap64_id (x := n - 1) (by omega) (by omega), wrap64_id (x := 2 * (n - 1)) (by omega) (by omega), tdiv_nn ht, wrap64_id (x := t / s) (by omega) (by omega)]
    generalize t / s = q at hq0 hq1
    cases l with
    | true =>
      simp only [if_true]
      rw [if_neg (show ¬ s = 0 by omega), if_neg (show ¬ 2 * (n - 1) = 0 by omega), wrap64_id (x := 2 * (n - 1) - f) (by omega) (by omega), wrap64_id (x := 2 * (n - 1) - f + q) (by omega) (by omega), tmod_nn (by omega)]
      have hm := Int.emod_nonneg (2 * (n - 1) - f + q) (show 2 * (n - 1) ≠ 0 by omega)
      have hM := Int.emod_lt_of_pos (2 * (n - 1) - f + q) (show 0 < 2 * (n - 1) by omega)
      generalize (2 * (n - 1) - f + q) % (2 * (n - 1)) = m at hm hM
      rw [wrap64_id (x := 2 * (n - 1) - m) (by omega) (by omega)]
      unfold spec_l1Least.f
      split <;> rfl
    | false =>
      simp only [Bool.false_eq_true, if_false]
      rw [if_neg (show ¬ s = 0 by omega), if_neg (show ¬ 2 * (n - 1) = 0 by omega), wrap64_id (x := f + q) (by omega) (by omega), tmod_nn (by omega)]
      have hm := Int.emod_nonneg (f + q) (show 2 * (n - 1) ≠ 0 by omega)
      have hM := Int.emod_lt_of_pos (f + q) (show 0 < 2 * (n - 1) by omega)
      generalize (f + q) % (2 * (n - 1)) = m at hm hM
      rw [wrap64_id (x := 2 * (n - 1) - m) (by omega) (by omega)]
      unfold spec_l1Least.f
      split <;> rfl
theorem place_eq {n f : Int} {l : Bool} {s t : Int} (h : sigOK n f s) (ht : 0 ≤ t) (ht' : t ≤ 1000000000) : impl_Signal_place.f f l s n t = some (plc n f l s t) := by
  have h0 := h
  unfold sigOK at h
  unfold impl_Signal_place.f impl_around.f plc
  by_cases h1 : n = 1
  · rw [if_pos h1, if_pos h1]
  · rw [if_neg h1, if_neg h1]
    have hq0 : 0 ≤ t / s := Int.ediv_nonneg ht (by omega)
    have hq1 : t / s ≤ t := Int.ediv_le_self s ht
    rw [wrap64_id (x := n - 1) (by omega) (by omega), wrap64_id (x := 2 * (n - 1)) (by omega) (by omega), tdiv_nn ht, wrap64_id (x := t / s) (by omega) (by omega)]
    have hmx : mx (2 * (n - 1)) 1 = 2 * (n - 1) := by unfold mx; rw [if_neg (by omega)]
    simp only [Option.bind_some, hmx]
    generalize t / s = q at hq0 hq1
    cases l with
    | true =>
      simp only [if_true]
      rw [if_neg (show ¬ s = 0 by omega), if_neg (show ¬ 2 * (n - 1) = 0 by omega), wrap64_id (x := 2 * (n - 1) - f) (by omega) (by omega), wrap64_id (x := 2 * (n - 1) - f + q) (by omega) (by omega), tmod_nn (by omega)]
      have hm := Int.emod_nonneg (2 * (n - 1) - f + q) (show 2 * (n - 1) ≠ 0 by omega)
      have hM := Int.emod_lt_of_pos (2 * (n - 1) - f + q) (show 0 < 2 * (n - 1) by omega)
      generalize (2 * (n - 1) - f + q) % (2 * (n - 1)) = m at hm hM
      rw [wrap64_id (x := 2 * (n - 1) - m) (by omega) (by omega)]
      unfold mn
      congr 1
      split <;> split <;> omega
    | false =>
      simp only [Bool.false_eq_true, if_false]
      rw [if_neg (show ¬ s = 0 by omega), if_neg (show ¬ 2 * (n - 1) = 0 by omega), wrap64_id (x := f + q) (by omega) (by omega), tmod_nn (by omega)]
      have hm := Int.emod_nonneg (f + q) (show 2 * (n - 1) ≠ 0 by omega)
      have hM := Int.emod_lt_of_pos (f + q) (show 0 < 2 * (n - 1) by omega)
      generalize (f + q) % (2 * (n - 1)) = m at hm hM
      rw [wrap64_id (x := 2 * (n - 1) - m) (by omega) (by omega)]
      unfold mn
      congr 1
      split <;> split <;> omega
theorem siComes_eq {n f : Int} {l : Bool} {s t : Int} (h : sigOK n f s) (ht : 0 ≤ t) : spec_siComes.f n f l s t = some (cms n s t) := by
  unfold sigOK at h
  unfold spec_siComes.f cms
  by_cases h1 : t = 0
  · simp [h1]
  · rw [if_neg h1]
    by_cases h2 : n > 1
    · rw [if_pos h2, if_neg (show ¬ s = 0 by omega), tmod_nn ht]; simp [h1, h2]; rfl
    · rw [if_neg h2]; simp [h1]; omega
theorem comes_eq {n f : Int} {l : Bool} {s t : Int} (h : sigOK n f s) (ht : 0 ≤ t) : impl_Signal_comes.f f l s n t = some (cms n s t) := by
  unfold sigOK at h
  unfold impl_Signal_comes.f cms
  by_cases h1 : t = 0
  · simp [h1]
  · rw [if_neg h1]
    by_cases h2 : n > 1
    · rw [if_pos h2, if_neg (show ¬ s = 0 by omega), tmod_nn ht]; simp [h1, h2]; rfl
    · rw [if_neg h2]; simp [h1]; omega
theorem siMeet_ev {n f : Int} {l : Bool} {s f' : Int} {l' : Bool} {s' t : Int} (h : sigOK n f s) (h' : sigOK n f' s') (ht : 0 ≤ t) (ht' : t ≤ 1000000000) : Ev (fun k => spec_siMeet.f k n f l s f' l' s' t) (mtg n f l s f' l' s' t) := by
  unfold spec_siMeet.f mtg
  simp only [siComes_eq h ht, siComes_eq h' ht, Option.bind_some]
  refine Ev.iff (fun hc => ?_) (fun hc => ?_)
  · refine Ev.succ ?_
    simp only [spec_siMeet.j0, siAt_eq h ht ht', siAt_eq h' ht ht', Option.bind_some]
    refine Ev.const ?_
    simp [hc]; rfl
  · refine Ev.succ ?_
    simp only [spec_siMeet.j0, siAt_eq h ht ht', siAt_eq h' ht ht', Option.bind_some]
    refine Ev.const ?_
    cases h2 : cms n s' t <;> simp [hc]; rfl
theorem meet_eq {n f : Int} {l : Bool} {s f' : Int} {l' : Bool} {s' t : Int} (h : sigOK n f s) (h' : sigOK n f' s') (ht : 0 ≤ t) (ht' : t ≤ 1000000000) : impl_meet.f n f l s f' l' s' t = some (mtg n f l s f' l' s' t) := by
  unfold impl_meet.f mtg
  simp only [place_eq h ht ht', place_eq h' ht ht', comes_eq h ht, comes_eq h' ht, Option.bind_some]
  by_cases hp : plc n f l s t = plc n f' l' s' t
  · rw [if_pos hp]
    cases cms n s t <;> simp [hp]
  · rw [if_neg hp]; simp [hp]
theorem imFirst_loop {n f : Int} {l : Bool} {s f' : Int} {l' : Bool} {s' : Int} (h : sigOK n f s) (h' : sigOK n f' s') : ∀ (d : Nat) (t : Int), 0 ≤ t → 100001 - t = d →
    Ev (fun k => impl_firstMeeting.l0 k n t f l s f' l' s') ((fst (mtg n f l s f' l' s') t d).getD (-1)) := by
  intro d
  induction d with
  | zero =>
    intro t h0 h1
    refine Ev.succ ?_
    simp only [impl_firstMeeting.l0]
    exact Ev.neg (by omega) (Ev.const rfl)
  | succ d ih =>
    intro t h0 h1
    refine Ev.succ ?_
    simp only [impl_firstMeeting.l0, meet_eq h h' h0 (show t ≤ 1000000000 by omega), Option.bind_some]
    refine Ev.pos (by omega) ?_
    rw [wrap64_id (x := t + 1) (by omega) (by omega)]
    simp only [fst]
    refine Ev.iff (fun hc => ?_) (fun hc => ?_)
    · simp only [hc, if_true]; exact Ev.now _
    · simp only [hc, Bool.false_eq_true, if_false]; exact ih (t + 1) (by omega) (by omega)
theorem imFirst_ev {n f : Int} {l : Bool} {s f' : Int} {l' : Bool} {s' : Int} (h : sigOK n f s) (h' : sigOK n f' s') (t : Int) (h0 : 0 ≤ t) (h1 : t ≤ 100001) :
    Ev (fun k => impl_firstMeeting.f k n f l s f' l' s' t) ((fst (mtg n f l s f' l' s') t (100001 - t).toNat).getD (-1)) := by
  unfold impl_firstMeeting.f
  exact imFirst_loop h h' _ t h0 (by omega)
theorem l1Least_eq (a b : Int) : spec_l1Least.f a b = some (mn a b) := by
  unfold spec_l1Least.f mn
  split <;> split <;> congr 1 <;> omega
theorem l1Most_eq (a b : Int) : spec_l1Most.f a b = some (mx a b) := by
  unfold spec_l1Most.f mx
  split <;> split <;> congr 1 <;> omega
theorem l1Rising_loop (l : List Int) (hi : Int) (hl : l.length ≤ 1000000000) : ∀ (d i : Nat), i + d = l.length → Ev (fun k => spec_l1Rising.l0 k l 0 hi l (l.length : Int) (i : Int)) (ris l hi (i : Int) d) := by
  intro d
  induction d with
  | zero =>
    intro i h
    refine Ev.succ ?_
    simp only [spec_l1Rising.l0]
    exact Ev.neg (by omega) (Ev.now _)
  | succ d ih =>
    intro i h
    refine Ev.succ ?_
    simp only [spec_l1Rising.l0, l1In_eq, Option.bind_some]
    refine Ev.pos (by omega) (Ev.pos (by omega) (Ev.pos (by omega) ?_))
    simp only [ris]
    have ih' := ih (i + 1) (by omega)
    rw [wrap64_id (x := (i : Int) + 1) (by omega) (by omega)]
    refine Ev.iff (fun hc => ?_) (fun hc => ?_)
    · simp only [hc, Bool.true_and]
      refine Ev.iff (fun h1 => ?_) (fun h1 => ?_)
      · rw [wrap64_id (x := (i : Int) - 1) (by omega) (by omega)]
        refine Ev.pos (by omega) (Ev.pos (by omega) ?_)
        refine Ev.iff (fun h2 => ?_) (fun h2 => ?_)
        · refine Ev.const ?_
          have e : decide (rd l ((i : Int) - 1) < rd l (i : Int)) = false := by simp; omega
          rw [show decide ((i : Int) > 0) = true from decide_eq_true h1, e]; rfl
        · have e : decide (rd l ((i : Int) - 1) < rd l (i : Int)) = true := by simp; omega
          simp only [h1, e, Bool.or_true, Bool.true_and]
          exact ih'
      · simp only [h1, decide_false, Bool.not_false, Bool.true_or, Bool.true_and]
        exact ih'
    · refine Ev.const ?_
      simp only [hc, Bool.false_and]
theorem l1Rising_ev (l : List Int) (hi : Int) (hl : l.length ≤ 1000000000) : Ev (fun k => spec_l1Rising.f k l 0 hi) (ris l hi 0 l.length) := by
  unfold spec_l1Rising.f
  exact l1Rising_loop l hi hl l.length 0 (by omega)
theorem sMax_loop (l : List Int) (hl : l.length ≤ 1000000000) : ∀ (d i : Nat) (m : Int), i + d = l.length → Ev (fun k => slices_Max_int_int.l0 k l m (i : Int)) ((l.drop i).foldl mx m) := by
  intro d
  induction d with
  | zero =>
    intro i m h
    refine Ev.succ ?_
    simp only [slices_Max_int_int.l0]
    refine Ev.neg (by omega) (Ev.const ?_)
    rw [List.drop_of_length_le (by omega)]; rfl
  | succ d ih =>
    intro i m h
    refine Ev.succ ?_
    simp only [slices_Max_int_int.l0]
    refine Ev.pos (by omega) (Ev.pos (by omega) ?_)
    rw [wrap64_id (x := (i : Int) + 1) (by omega) (by omega), rd_cons_drop (by omega)]
    exact ih (i + 1) _ (by omega)
theorem sMax_ev (x : Int) (l : List Int) (hl : l.length ≤ 100000000) : Ev (fun k => slices_Max_int_int.f k (x :: l)) (l.foldl mx x) := by
  unfold slices_Max_int_int.f
  refine Ev.neg (by simp; omega) (Ev.pos (by simp) ?_)
  have := sMax_loop (x :: l) (by simp; omega) l.length 1 x (by simp; omega)
  simpa [rd] using this
theorem siStarts_ev (n : Int) (l : List Int) (hl : l.length ≤ 1000000000) : Ev (fun k => spec_siStarts.f k n l) (decide (stOK n l)) := by
  unfold spec_siStarts.f
  have e : spec_siSoldiers.f n = some (decide (1 ≤ n ∧ n ≤ 100)) := by unfold spec_siSoldiers.f; rw [l1In_eq]; rfl
  simp only [e, Option.bind_some]
  refine Ev.iff (fun hc => ?_) (fun hc => ?_)
  · have hc' := of_decide_eq_true hc
    rw [wrap64_id (x := n - 1) (by omega) (by omega)]
    refine Ev.iff (fun h1 => ?_) (fun h1 => ?_)
    · refine Ev.bind (l1Rising_ev l (n - 1) hl) (Ev.const ?_)
      have h0 : 0 < l.length := by omega
      simp [stOK, hc'.1, hc'.2, h0]
    · refine Ev.const ?_
      have : ¬ stOK n l := fun h => h1 (by have := h.2.2.1; omega)
      simp [this]
  · refine Ev.const ?_
    have : ¬ stOK n l := fun h => hc (decide_eq_true ⟨h.1, h.2.1⟩)
    simp [this]
theorem areFrom_loop (n : Int) (l : List Int) (hl : l.length ≤ 1000000000) : ∀ (d i : Nat), i + d = l.length →
    Ev (fun k => impl_areFrom.l0 k n l l (l.length : Int) (i : Int)) (ris l (wrap64 (n - 1)) (i : Int) d && decide (1 ≤ n ∧ n ≤ 100 ∧ 0 < l.length)) := by
  have e : impl_isSignalRow.f n = some (decide (1 ≤ n ∧ n ≤ 100)) := by unfold impl_isSignalRow.f; rw [in_eq]; rfl
  intro d
  induction d with
  | zero =>
    intro i h
    refine Ev.succ ?_
    simp only [impl_areFrom.l0, e, Option.bind_some]
    refine Ev.neg (by omega) (Ev.const ?_)
    by_cases h1 : 1 ≤ n ∧ n ≤ 100
    · simp [ris, h1]
    · simp only [h1, decide_false, Bool.false_eq_true, if_false, ris, Bool.true_and]
      congr 1
      symm
      simp only [decide_eq_false_iff_not]
      exact fun k => h1 ⟨k.1, k.2.1⟩
  | succ d ih =>
    intro i h
    refine Ev.succ ?_
    simp only [impl_areFrom.l0, in_eq, Option.bind_some]
    refine Ev.pos (by omega) (Ev.pos (by omega) (Ev.pos (by omega) ?_))
    simp only [ris]
    have ih' := ih (i + 1) (by omega)
    rw [wrap64_id (x := (i : Int) + 1) (by omega) (by omega)]
    refine Ev.iff (fun hc => ?_) (fun hc => ?_)
    · simp only [hc, Bool.true_and]
      refine Ev.iff (fun h1 => ?_) (fun h1 => ?_)
      · rw [wrap64_id (x := (i : Int) - 1) (by omega) (by omega)]
        refine Ev.pos (by omega) (Ev.pos (by omega) ?_)
        refine Ev.iff (fun h2 => ?_) (fun h2 => ?_)
        · refine Ev.const ?_
          have e : decide (rd l ((i : Int) - 1) < rd l (i : Int)) = false := by simp; omega
          rw [show decide ((i : Int) > 0) = true from decide_eq_true h1, e]; rfl
        · have e : decide (rd l ((i : Int) - 1) < rd l (i : Int)) = true := by simp; omega
          simp only [h1, e, Bool.or_true, Bool.true_and]
          exact ih'
      · simp only [h1, decide_false, Bool.not_false, Bool.true_or, Bool.true_and]
        exact ih'
    · refine Ev.const ?_
      simp only [hc, Bool.false_and]
theorem areFrom_ev (n : Int) (l : List Int) (hl : l.length ≤ 1000000000) : Ev (fun k => impl_areFrom.f k n l) (decide (stOK n l)) := by
  unfold impl_areFrom.f
  have := areFrom_loop n l hl l.length 0 (by omega)
  have e : (ris l (wrap64 (n - 1)) ((0 : Nat) : Int) l.length && decide (1 ≤ n ∧ n ≤ 100 ∧ 0 < l.length)) = decide (stOK n l) := by
    unfold stOK
    by_cases h : 1 ≤ n ∧ n ≤ 100 ∧ 0 < l.length
    · rw [wrap64_id (x := n - 1) (by omega) (by omega)]
      simp [h]
    · have h' : ¬ (1 ≤ n ∧ n ≤ 100 ∧ 0 < l.length ∧ ris l (n - 1) 0 l.length = true) := fun k => h ⟨k.1, k.2.1, k.2.2.1⟩
      simp only [h, h', decide_false, Bool.and_false]
  rw [e] at this
  exact this
theorem siSpread_in (n : Int) (l : List Int) (hn : 1 ≤ n ∧ n ≤ 1000) (hl : l.length ≤ 1000000000) (hm : ∀ x ∈ l, 0 ≤ x ∧ x ≤ n) (out : List Int) (most x : Int) (h0 : 0 ≤ x) (h1 : x ≤ 1000) (R : List Int × Int) (ho : out.length ≤ 1000) :
    ∀ (d i : Nat) (a : Int), i + d = l.length → 0 ≤ a → a ≤ n → (Ev (fun k => spec_siSpread.l0 k n l (out ++ [near x a (l.drop i)]) (mx most (near x a (l.drop i))) (x + 1)) R) →
      Ev (fun k => spec_siSpread.l1 k n l out most x a l (l.length : Int) (i : Int)) R := by
  have ha : ∀ y : Int, -2000 ≤ y → y ≤ 2000 → spec_l1Abs.f y = some (mx y (-y)) := by
    intro y h h'
    unfold spec_l1Abs.f
    rw [wrap64_id (x := -y) (by omega) (by omega), l1Most_eq]; rfl
  intro d
  induction d with
  | zero =>
    intro i a h ha0 ha1 hR
    refine Ev.succ ?_
    simp only [spec_siSpread.l1, l1Most_eq, Option.bind_some]
    rw [List.drop_of_length_le (by omega)] at hR
    refine Ev.neg (by omega) (Ev.pos (by omega) ?_)
    rw [wrap64_id (x := x + 1) (by omega) (by omega)]
    exact hR
  | succ d ih =>
    intro i a h ha0 ha1 hR
    refine Ev.succ ?_
    have hk := hm _ (rd_mem (l := l) (j := i) (by omega))
    simp only [spec_siSpread.l1, l1Least_eq, Option.bind_some]
    rw [wrap64_id (x := x - rd l (i : Int)) (by omega) (by omega), wrap64_id (x := (i : Int) + 1) (by omega) (by omega), ha _ (by omega) (by omega)]
    simp only [Option.bind_some]
    refine Ev.pos (by omega) (Ev.pos (by omega) (Ev.pos (by omega) ?_))
    rw [show -(x - rd l (i : Int)) = rd l (i : Int) - x by omega]
    have hb : 0 ≤ mn a (mx (x - rd l (i : Int)) (rd l (i : Int) - x)) ∧ mn a (mx (x - rd l (i : Int)) (rd l (i : Int) - x)) ≤ n := by unfold mn mx; split <;> split <;> omega
    refine ih (i + 1) _ (by omega) hb.1 hb.2 ?_
    rw [rd_cons_drop (show i < l.length by omega)] at hR
    exact hR
theorem siSpread_loop (n : Int) (l : List Int) (hn : 1 ≤ n ∧ n ≤ 1000) (hl : l.length ≤ 1000000000) (hm : ∀ x ∈ l, 0 ≤ x ∧ x ≤ n) :
    ∀ (d : Nat) (out : List Int) (most x : Int), 0 ≤ x → x + d = n → out.length = x → Ev (fun k => spec_siSpread.l0 k n l out most x) (out ++ spr n l x d, (spr n l x d).foldl mx most) := by
  intro d
  induction d with
  | zero =>
    intro out most x h0 h1 h2
    refine Ev.succ ?_
    simp only [spec_siSpread.l0]
    refine Ev.neg (by omega) (Ev.const ?_)
    simp [spr]
  | succ d ih =>
    intro out most x h0 h1 h2
    refine Ev.succ ?_
    simp only [spec_siSpread.l0]
    refine Ev.pos (by omega) ?_
    refine siSpread_in n l hn hl hm out most x h0 (by omega) _ (by omega) l.length 0 n (by omega) (by omega) (by omega) ?_
    rw [List.drop_zero]
    have := ih (out ++ [near x n l]) (mx most (near x n l)) (x + 1) (by omega) (by omega) (by simp; omega)
    simp only [spr, List.foldl_cons]
    simpa using this
theorem siSpread_ev (n : Int) (l : List Int) (hn : 1 ≤ n ∧ n ≤ 1000) (hl : l.length ≤ 1000000000) (hm : ∀ x ∈ l, 0 ≤ x ∧ x ≤ n) : Ev (fun k => spec_siSpread.f k n l) (spr n l 0 n.toNat, (spr n l 0 n.toNat).foldl mx 0) := by
  unfold spec_siSpread.f
  have := siSpread_loop n l hn hl hm n.toNat [] 0 0 (by omega) (by omega) (by simp)
  simpa using this
theorem spread_in (n : Int) (l : List Int) (hn : 1 ≤ n ∧ n ≤ 1000) (hl : l.length ≤ 1000000000) (hm : ∀ x ∈ l, 0 ≤ x ∧ x ≤ n) (out : List Int) (x : Int) (h0 : 0 ≤ x) (h1 : x ≤ 1000) (R : List Int) (ho : out.length ≤ 1000) :
    ∀ (d i : Nat) (a : Int), i + d = l.length → 0 ≤ a → a ≤ n → (Ev (fun k => impl_spread.l0 k n l (out ++ [near x a (l.drop i)]) n (x + 1)) R) →
      Ev (fun k => impl_spread.l1 k n l out x a n x l (l.length : Int) (i : Int)) R := by
  intro d
  induction d with
  | zero =>
    intro i a h ha0 ha1 hR
    refine Ev.succ ?_
    simp only [impl_spread.l1]
    rw [List.drop_of_length_le (by omega)] at hR
    refine Ev.neg (by omega) (Ev.pos (by omega) ?_)
    rw [wrap64_id (x := x + 1) (by omega) (by omega)]
    exact hR
  | succ d ih =>
    intro i a h ha0 ha1 hR
    refine Ev.succ ?_
    have hk := hm _ (rd_mem (l := l) (j := i) (by omega))
    simp only [impl_spread.l1, impl_away.f, Option.bind_some]
    rw [wrap64_id (x := x - rd l (i : Int)) (by omega) (by omega), wrap64_id (x := rd l (i : Int) - x) (by omega) (by omega), wrap64_id (x := (i : Int) + 1) (by omega) (by omega)]
    refine Ev.pos (by omega) (Ev.pos (by omega) (Ev.pos (by omega) ?_))
    have hb : 0 ≤ mn a (mx (x - rd l (i : Int)) (rd l (i : Int) - x)) ∧ mn a (mx (x - rd l (i : Int)) (rd l (i : Int) - x)) ≤ n := by unfold mn mx; split <;> split <;> omega
    refine ih (i + 1) _ (by omega) hb.1 hb.2 ?_
    rw [rd_cons_drop (show i < l.length by omega)] at hR
    exact hR
theorem spread_loop (n : Int) (l : List Int) (hn : 1 ≤ n ∧ n ≤ 1000) (hl : l.length ≤ 1000000000) (hm : ∀ x ∈ l, 0 ≤ x ∧ x ≤ n) :
    ∀ (d : Nat) (out : List Int) (x : Int), 0 ≤ x → x + d = n → out.length = x → Ev (fun k => impl_spread.l0 k n l out n x) (out ++ spr n l x d) := by
  intro d
  induction d with
  | zero =>
    intro out x h0 h1 h2
    refine Ev.succ ?_
    simp only [impl_spread.l0]
    refine Ev.neg (by omega) (Ev.const ?_)
    simp [spr]
  | succ d ih =>
    intro out x h0 h1 h2
    refine Ev.succ ?_
    simp only [impl_spread.l0]
    refine Ev.pos (by omega) ?_
    refine spread_in n l hn hl hm out x h0 (by omega) _ (by omega) l.length 0 n (by omega) (by omega) (by omega) ?_
    rw [List.drop_zero]
    have := ih (out ++ [near x n l]) (x + 1) (by omega) (by omega) (by simp; omega)
    simp only [spr]
    simpa using this
theorem spread_ev (n : Int) (l : List Int) (hn : 1 ≤ n ∧ n ≤ 1000) (hl : l.length ≤ 1000000000) (hm : ∀ x ∈ l, 0 ≤ x ∧ x ≤ n) : Ev (fun k => impl_spread.f k n l) (spr n l 0 n.toNat) := by
  unfold impl_spread.f
  have := spread_loop n l hn hl hm n.toNat [] 0 (by omega) (by omega) (by simp)
  simpa using this
theorem spTimeAllKnow_ev (n : Int) (l : List Int) (hl : l.length ≤ 100000000) : Ev (fun k => spec_TimeAllKnow.f k n l) (if stOK n l then ((spr n l 0 n.toNat).foldl mx 0, true) else (0, false)) := by
  unfold spec_TimeAllKnow.f
  refine Ev.bind (siStarts_ev n l (by omega)) ?_
  by_cases h : stOK n l
  · simp only [h, decide_true, if_true]
    have hm := ris_mem h.2.2.2
    exact Ev.bind (siSpread_ev n l ⟨h.1, by have := h.2.1; omega⟩ (by omega) (fun x hx => by have := hm x hx; omega)) (Ev.now _)
  · simp only [h, decide_false, Bool.false_eq_true, if_false]
    exact Ev.now _
theorem imTimeAllKnow_ev (n : Int) (l : List Int) (hl : l.length ≤ 100000000) : Ev (fun k => impl_TimeAllKnow.f k n l) (if stOK n l then ((spr n l 0 n.toNat).foldl mx 0, true) else (0, false)) := by
  unfold impl_TimeAllKnow.f
  refine Ev.bind (areFrom_ev n l (by omega)) ?_
  by_cases h : stOK n l
  · simp only [h, decide_true, if_true]
    have hm := ris_mem h.2.2.2
    have hn := h.1
    have hn' := h.2.1
    refine Ev.bind (spread_ev n l ⟨h.1, by omega⟩ (by omega) (fun x hx => by have := hm x hx; omega)) ?_
    obtain ⟨m, hmm⟩ : ∃ m : Nat, n.toNat = m + 1 := ⟨n.toNat - 1, by omega⟩
    rw [hmm]
    simp only [spr, List.foldl_cons]
    refine Ev.bind (sMax_ev _ _ (by rw [spr_len]; omega)) (Ev.const ?_)
    have hb := near_bd 0 l n (by omega)
    have e : mx 0 (near 0 n l) = near 0 n l := by unfold mx; split <;> omega
    rw [e]
  · simp only [h, decide_false, Bool.false_eq_true, if_false]
    exact Ev.now _
def spt (n : Int) (l : List Int) : List Int × Bool := if stOK n l then (spr n l 0 n.toNat, true) else ([], false)
theorem spt_len (n : Int) (l : List Int) : (spt n l).1.length ≤ 100 := by
  unfold spt
  by_cases h : stOK n l
  · have := h.2.1
    rw [if_pos h]; simp only [spr_len]; omega
  · rw [if_neg h]; simp
theorem spSpreadTimes_ev (n : Int) (l : List Int) (hl : l.length ≤ 100000000) : Ev (fun k => spec_SpreadTimes.f k n l) (spt n l) := by
  unfold spec_SpreadTimes.f spt
  refine Ev.bind (siStarts_ev n l (by omega)) ?_
  by_cases h : stOK n l
  · simp only [h, decide_true, if_true]
    have hm := ris_mem h.2.2.2
    exact Ev.bind (siSpread_ev n l ⟨h.1, by have := h.2.1; omega⟩ (by omega) (fun x hx => by have := hm x hx; omega)) (Ev.now _)
  · simp only [h, decide_false, Bool.false_eq_true, if_false]
    exact Ev.now _
theorem imSpreadTimes_ev (n : Int) (l : List Int) (hl : l.length ≤ 100000000) : Ev (fun k => impl_SpreadTimes.f k n l) (spt n l) := by
  unfold impl_SpreadTimes.f spt
  refine Ev.bind (areFrom_ev n l (by omega)) ?_
  by_cases h : stOK n l
  · simp only [h, decide_true, if_true]
    have hm := ris_mem h.2.2.2
    exact Ev.bind (spread_ev n l ⟨h.1, by have := h.2.1; omega⟩ (by omega) (fun x hx => by have := hm x hx; omega)) (Ev.now _)
  · simp only [h, decide_false, Bool.false_eq_true, if_false]
    exact Ev.now _
theorem rdSigI {l : List S36} {i : Nat} (h : i < l.length) : rd_T36 l (i : Int) = l[i] := by simp [rd_T36, h]
/-- Is a list one of signals? -/
def sgl (n : Int) (l : List S36) : Bool := l.all fun x => decide (sigOK n x.f0 x.f2)
def sgsOK (n : Int) (l : List S36) : Bool := decide (1 ≤ l.length ∧ l.length ≤ 10) && sgl n l
theorem sgl_drop (n : Int) (l : List S36) (i : Nat) (h : i < l.length) : sgl n (l.drop i) = (decide (sigOK n (rd_T36 l (i : Int)).f0 (rd_T36 l (i : Int)).f2) && sgl n (l.drop (i + 1))) := by
  rw [List.drop_eq_getElem_cons h, rdSigI h]; rfl
theorem siList_loop (n : Int) (l : List S36) (hl : l.length ≤ 1000000000) : ∀ (d i : Nat), i + d = l.length → Ev (fun k => spec_siList.l0 k n l (l.length : Int) (i : Int)) (sgl n (l.drop i)) := by
  intro d
  induction d with
  | zero =>
    intro i h
    refine Ev.succ ?_
    simp only [spec_siList.l0]
    refine Ev.neg (by omega) (Ev.const ?_)
    rw [List.drop_of_length_le (by omega)]; rfl
  | succ d ih =>
    intro i h
    refine Ev.succ ?_
    simp only [spec_siList.l0, siSignal_eq, Option.bind_some]
    refine Ev.pos (by omega) (Ev.pos (by omega) (Ev.pos (by omega) ?_))
    rw [wrap64_id (x := (i : Int) + 1) (by omega) (by omega), sgl_drop n l i (by omega)]
    refine Ev.iff (fun hc => ?_) (fun hc => ?_)
    · rw [hc, Bool.true_and]; exact ih (i + 1) (by omega)
    · rw [Bool.not_eq_true] at hc; rw [hc, Bool.false_and]; exact Ev.now _
theorem siList_ev (n : Int) (l : List S36) (hl : l.length ≤ 1000000000) : Ev (fun k => spec_siList.f k n l) (sgsOK n l) := by
  unfold spec_siList.f sgsOK
  simp only [l1In_eq, Option.bind_some]
  refine Ev.iff (fun hc => ?_) (fun hc => ?_)
  · have hc' := of_decide_eq_true hc
    rw [show decide (1 ≤ l.length ∧ l.length ≤ 10) = true from decide_eq_true (by omega), Bool.true_and]
    exact siList_loop n l hl l.length 0 (by omega)
  · have hc' : ¬ (1 ≤ l.length ∧ l.length ≤ 10) := fun h => hc (decide_eq_true (by omega))
    rw [show decide (1 ≤ l.length ∧ l.length ≤ 10) = false from decide_eq_false hc', Bool.false_and]
    exact Ev.now _
theorem areSig_loop (n : Int) (l : List S36) (hl : l.length ≤ 1000000000) : ∀ (d i : Nat), i + d = l.length → ∃ r : Int, Ev (fun k => impl_areSignals_idx.l0 k n l (i : Int)) r ∧ decide (0 ≤ r) = !sgl n (l.drop i) := by
  intro d
  induction d with
  | zero =>
    intro i h
    refine ⟨-1, Ev.succ ?_, ?_⟩
    · simp only [impl_areSignals_idx.l0]
      exact Ev.neg (by omega) (Ev.now _)
    · rw [List.drop_of_length_le (by omega)]; rfl
  | succ d ih =>
    intro i h
    obtain ⟨r, h1, h2⟩ := ih (i + 1) (by omega)
    have hs := sgl_drop n l i (by omega)
    cases hc : decide (sigOK n (rd_T36 l (i : Int)).f0 (rd_T36 l (i : Int)).f2) with
    | true =>
      rw [hc, Bool.true_and] at hs
      refine ⟨r, Ev.succ ?_, by rw [hs]; exact h2⟩
      simp only [impl_areSignals_idx.l0, impl_areSignals_clo.f, isSignal_eq, hc, Option.bind_some]
      refine Ev.pos (by omega) (Ev.pos (by omega) (Ev.neg (by simp) ?_))
      rw [wrap64_id (x := (i : Int) + 1) (by omega) (by omega)]
      exact h1
    | false =>
      rw [hc, Bool.false_and] at hs
      refine ⟨(i : Int), Ev.succ ?_, by rw [hs]; simp⟩
      simp only [impl_areSignals_idx.l0, impl_areSignals_clo.f, isSignal_eq, hc, Option.bind_some]
      exact Ev.pos (by omega) (Ev.pos (by omega) (Ev.pos (by simp) (Ev.now _)))
theorem areSignals_ev (n : Int) (l : List S36) (hl : l.length ≤ 1000000000) : Ev (fun k => impl_areSignals.f k n l) (decide (1 ≤ n ∧ n ≤ 100) && sgsOK n l) := by
  unfold impl_areSignals.f sgsOK
  simp only [isSignalRow_eq, in_eq, Option.bind_some]
  refine Ev.iff (fun h1 => ?_) (fun h1 => ?_)
  · rw [h1, Bool.true_and]
    refine Ev.iff (fun hc => ?_) (fun hc => ?_)
    · have hc' := of_decide_eq_true hc
      rw [show decide (1 ≤ l.length ∧ l.length ≤ 10) = true from decide_eq_true (by omega), Bool.true_and]
      obtain ⟨r, e1, e2⟩ := areSig_loop n l hl l.length 0 (by omega)
      unfold impl_areSignals_has.f
      refine Ev.bind (Ev.bind e1 (Ev.now _)) (Ev.const ?_)
      rw [e2, List.drop_zero, Bool.not_not]
    · have hc' : ¬ (1 ≤ l.length ∧ l.length ≤ 10) := fun h => hc (decide_eq_true (by omega))
      rw [show decide (1 ≤ l.length ∧ l.length ≤ 10) = false from decide_eq_false hc', Bool.false_and]
      exact Ev.now _
  · rw [Bool.not_eq_true] at h1
    rw [h1, Bool.false_and]
    exact Ev.now _
theorem siFirst_eq {n f : Int} {l : Bool} {s p : Int} (h : sigOK n f s) (h0 : 0 ≤ p) (h1 : p ≤ n - 1) : spec_siFirst.f n f l s p = some (frs n f l p * s) := by
  have hb := frs_bd (l := l) (p := p) h
  have h' := h
  unfold sigOK at h
  by_cases hn : n = 1
  · unfold spec_siFirst.f frs; simp [hn]
  · have hr : rnd n ≤ 198 := by unfold rnd; rw [if_neg hn]; omega
    have hw : wrap64 (frs n f l p * s) = frs n f l p * s := by
      have u1 : 0 ≤ frs n f l p * s := Int.mul_nonneg hb.1 (by omega)
      have u2 : frs n f l p * s ≤ 198 * 10 := Int.mul_le_mul (by omega) (by omega) (by omega) (by omega)
      exact wrap64_id (by omega) (by omega)
    unfold spec_siFirst.f
    rw [if_neg hn, wrap64_id (x := n - 1) (by omega) (by omega), wrap64_id (x := 2 * (n - 1)) (by omega) (by omega), wrap64_id (x := 2 * (2 * (n - 1))) (by omega) (by omega), wrap64_id (x := 2 * (n - 1) - p) (by omega) (by omega)]
    cases l with
    | true =>
      simp only [if_true]
      rw [if_neg (show ¬ 2 * (n - 1) = 0 by omega), wrap64_id (x := 2 * (n - 1) - f) (by omega) (by omega), wrap64_id (x := p - (2 * (n - 1) - f)) (by omega) (by omega), wrap64_id (x := p - (2 * (n - 1) - f) + 2 * (2 * (n - 1))) (by omega) (by omega), wrap64_id (x := 2 * (n - 1) - p - (2 * (n - 1) - f)) (by omega) (by omega), wrap64_id (x := 2 * (n - 1) - p - (2 * (n - 1) - f) + 2 * (2 * (n - 1))) (by omega) (by omega), tmod_nn (by omega), tmod_nn (by omega), l1Least_eq]
      unfold frs at hw ⊢
      rw [if_neg hn] at hw ⊢
      simp only [if_true] at hw ⊢
      simp only [Option.bind_some, hw]
    | false =>
      simp only [Bool.false_eq_true, if_false]
      rw [if_neg (show ¬ 2 * (n - 1) = 0 by omega), wrap64_id (x := p - f) (by omega) (by omega), wrap64_id (x := p - f + 2 * (2 * (n - 1))) (by omega) (by omega), wrap64_id (x := 2 * (n - 1) - p - f) (by omega) (by omega), wrap64_id (x := 2 * (n - 1) - p - f + 2 * (2 * (n - 1))) (by omega) (by omega), tmod_nn (by omega), tmod_nn (by omega), l1Least_eq]
      unfold frs at hw ⊢
      rw [if_neg hn] at hw ⊢
      simp only [Bool.false_eq_true, if_false] at hw ⊢
      simp only [Option.bind_some, hw]
theorem around_eq {n : Int} (h0 : 1 ≤ n) (h1 : n ≤ 100) : impl_around.f n = some (rnd n) := by
  unfold impl_around.f rnd mx
  rw [wrap64_id (x := n - 1) (by omega) (by omega), wrap64_id (x := 2 * (n - 1)) (by omega) (by omega)]
  congr 1
  split <;> split <;> omega
/-- The first time at which one of l comes to the place q, a being a former one. -/
def bst (n : Int) (l : List S36) (q : Int) (a : Int) : Int := l.foldl (fun a x => mrg a (frs n x.f0 x.f1 q * x.f2)) a
theorem heard_in (n : Int) (L : List S36) (o : Int → Int) (j : Int) (f : Int) (lf : Bool) (s : Int) (h : sigOK n f s) (hj0 : 0 ≤ j) (hj : j ≤ 1000) (R : List Int)
    (hR : Ev (fun k => impl_heard.l0 k n (tbl (fun q => mrg (o q) (frs n f lf q * s)) 0 n.toNat) L (L.length : Int) (j + 1)) R) :
    ∀ (d : Nat) (i : Int), i + d = rnd n → 0 ≤ i → Ev (fun k => impl_heard.l1 k n (tbl (hst n f lf s i o) 0 n.toNat) L (L.length : Int) j (rnd n) i f lf s) R := by
  have h' := h
  unfold sigOK at h'
  have hr : rnd n ≤ 198 := by unfold rnd; split <;> omega
  intro d
  induction d with
  | zero =>
    intro i hi h0
    refine Ev.succ ?_
    simp only [impl_heard.l1]
    refine Ev.neg (by omega) ?_
    rw [wrap64_id (x := j + 1) (by omega) (by omega), show i = rnd n by omega, tbl_congr n.toNat 0 (fun q _ _ => hst_all h o q)]
    exact hR
  | succ d ih =>
    intro i hi h0
    have hs0 : 0 ≤ i * s := Int.mul_nonneg h0 (by omega)
    have hs1 : i * s ≤ 198 * 10 := Int.mul_le_mul (by omega) (by omega) (by omega) (by omega)
    refine Ev.succ ?_
    simp only [impl_heard.l1]
    rw [wrap64_id (x := i * s) (by omega) (by omega), wrap64_id (x := i + 1) (by omega) (by omega)]
    simp only [place_eq (l := lf) h hs0 (show i * s ≤ 1000000000 by omega), Option.bind_some]
    have hp := plc_bd (l := lf) h hs0
    have hat := hst_at (l := lf) h o h0 (show i < rnd n by omega) _ rfl
    have hfar := fun q h0 h1 hq => hst_far (l := lf) (i := i) h o q h0 h1 hq
    generalize plc n f lf s (i * s) = p at hp hat hfar
    have ih' := ih (i + 1) (by omega) (by omega)
    have keep : hst n f lf s i o p = hst n f lf s (i + 1) o p → tbl (hst n f lf s i o) 0 n.toNat = tbl (hst n f lf s (i + 1) o) 0 n.toNat := fun e => tbl_congr _ _ (fun q h1 h2 => by
      by_cases hq : q = p
      · rw [hq]; exact e
      · exact hfar q h1 (by omega) hq)
    have setp : i * s = hst n f lf s (i + 1) o p → (tbl (hst n f lf s i o) 0 n.toNat).set p.toNat (i * s) = tbl (hst n f lf s (i + 1) o) 0 n.toNat := fun e => by
      rw [tbl_set _ _ _ _ (by omega)]
      refine tbl_congr _ _ (fun q h1 h2 => ?_)
      rw [show (0 : Int) + (p.toNat : Int) = p by omega]
      by_cases hq : q = p
      · rw [if_pos hq, hq]; exact e
      · rw [if_neg hq]; exact hfar q h1 (by omega) hq
    refine Ev.pos (by omega) (Ev.pos (by omega) (Ev.pos (by rw [tbl_len]; omega) ?_))
    rw [tbl_rd _ _ _ (by omega) (by omega)]
    refine Ev.iff (fun hc => ?_) (fun hc => ?_)
    · rw [setp (by rw [← hat, if_pos (.inl hc)])]; exact ih'
    · refine Ev.iff (fun hd => ?_) (fun hd => ?_)
      · rw [setp (by rw [← hat, if_pos (.inr hd)])]; exact ih'
      · rw [keep (by rw [← hat, if_neg (by omega)])]; exact ih'
theorem heard_loop (n : Int) (L : List S36) (hn : 1 ≤ n ∧ n ≤ 100) (hL : L.length ≤ 10) : ∀ (d i : Nat) (o : Int → Int), i + d = L.length → sgl n (L.drop i) = true →
    Ev (fun k => impl_heard.l0 k n (tbl o 0 n.toNat) L (L.length : Int) (i : Int)) (tbl (fun q => bst n (L.drop i) q (o q)) 0 n.toNat) := by
  intro d
  induction d with
  | zero =>
    intro i o hi hs
    refine Ev.succ ?_
    simp only [impl_heard.l0]
    refine Ev.neg (by omega) (Ev.const ?_)
    rw [List.drop_of_length_le (by omega)]
    rfl
  | succ d ih =>
    intro i o hi hs
    rw [sgl_drop n L i (by omega), Bool.and_eq_true] at hs
    have hok := of_decide_eq_true hs.1
    refine Ev.succ ?_
    simp only [impl_heard.l0, around_eq hn.1 hn.2, Option.bind_some]
    refine Ev.pos (by omega) (Ev.pos (by omega) (Ev.pos (by omega) ?_))
    have ih' := ih (i + 1) (fun q => mrg (o q) (frs n (rd_T36 L (i : Int)).f0 (rd_T36 L (i : Int)).f1 q * (rd_T36 L (i : Int)).f2)) (by omega) hs.2
    have hb := (frs_bd (l := false) (p := 0) hok)
    have := heard_in n L o (i : Int) _ (rd_T36 L (i : Int)).f1 _ hok (by omega) (by omega) _ ih' (rnd n).toNat 0 (by omega) (by omega)
    rw [tbl_congr n.toNat 0 (fun q _ _ => hst_zero hok o q)] at this
    rw [List.drop_eq_getElem_cons (show i < L.length by omega)]
    simp only [bst, List.foldl_cons] at this ⊢
    rw [← rdSigI (show i < L.length by omega)]
    exact this
theorem mul_all : ∀ c : Nat, c < 101 → 1 ≤ c → bits_Mul.f 1 (c : Int) = some (0, (c : Int)) := by decide
theorem heard_ev (n : Int) (L : List S36) (hn : 1 ≤ n ∧ n ≤ 100) (hs : sgsOK n L = true) : Ev (fun k => impl_heard.f k n L) (tbl (fun q => bst n L q (-1)) 0 n.toNat) := by
  unfold sgsOK at hs
  rw [Bool.and_eq_true] at hs
  have hl := of_decide_eq_true hs.1
  unfold impl_heard.f slices_Repeat_int_int.f
  have hm := mul_all n.toNat (by omega) (by omega)
  rw [show ((n.toNat : Nat) : Int) = n by omega] at hm
  rw [show ((([(-1)] : List Int).length : Nat) : Int) = 1 from rfl, hm]
  simp only [Option.bind_some]
  rw [if_pos (by refine ⟨?_, ?_, ?_, ?_⟩ <;> first | trivial | rfl | omega)]
  simp only [Option.bind_some]
  have := heard_loop n L hn hl.2 L.length 0 (fun _ => -1) (by omega) (by simpa using hs.2)
  rw [tbl_const] at this
  exact this
theorem bst_nn (n : Int) (q : Int) : ∀ (L : List S36) (a : Int), sgl n L = true → 0 ≤ a → 0 ≤ bst n L q a
  | [], a, _, h => h
  | x :: L, a, hs, h => by
    simp only [sgl, List.all_cons, Bool.and_eq_true] at hs
    have hok := of_decide_eq_true hs.1
    have hb := (frs_bd (l := x.f1) (p := q) hok).1
    have ht : 0 ≤ frs n x.f0 x.f1 q * x.f2 := Int.mul_nonneg hb (by have := hok.2.2.2.2.1; omega)
    simp only [bst, List.foldl_cons]
    refine bst_nn n q L _ hs.2 ?_
    unfold mrg
    split <;> (try split) <;> omega
theorem bst_nn' (n : Int) (q : Int) (L : List S36) (hs : sgsOK n L = true) : 0 ≤ bst n L q (-1) := by
  unfold sgsOK at hs
  rw [Bool.and_eq_true] at hs
  have hl := of_decide_eq_true hs.1
  cases L with
  | nil => simp at hl
  | cons x L =>
    have hs' := hs.2
    simp only [sgl, List.all_cons, Bool.and_eq_true] at hs'
    have hok := of_decide_eq_true hs'.1
    have hb := (frs_bd (l := x.f1) (p := q) hok).1
    have ht : 0 ≤ frs n x.f0 x.f1 q * x.f2 := Int.mul_nonneg hb (by have := hok.2.2.2.2.1; omega)
    have := bst_nn n q L _ hs'.2 ht
    simp only [bst, List.foldl_cons, mrg] at this ⊢
    exact this
theorem bst_cons (n : Int) (q : Int) (x : S36) (L : List S36) (a : Int) : bst n (x :: L) q a = bst n L q (mrg a (frs n x.f0 x.f1 q * x.f2)) := rfl
theorem mrg_mn {a t : Int} (h : 0 ≤ a) : mrg a t = mn a t := by unfold mrg mn; rw [if_neg (by omega)]
theorem mrg_nn {a t : Int} (h : 0 ≤ t) : 0 ≤ mrg a t := by unfold mrg; split <;> (try split) <;> omega
theorem spTAH_in (n : Int) (L : List S36) (hL : L.length ≤ 10) (m q : Int) (h0 : 0 ≤ q) (h1 : q ≤ n - 1) (hn : n ≤ 100) (R : Int × Bool) :
    ∀ (d i : Nat) (a : Int), i + d = L.length → 0 ≤ a → sgl n (L.drop i) = true → Ev (fun k => spec_TimeAllHear.l0 k n L (mx m (bst n (L.drop i) q a)) (q + 1)) R → Ev (fun k => spec_TimeAllHear.l1 k n L m q a L (L.length : Int) (i : Int)) R := by
  intro d
  induction d with
  | zero =>
    intro i a hi ha hs hR
    refine Ev.succ ?_
    simp only [spec_TimeAllHear.l1, l1Most_eq, Option.bind_some]
    rw [List.drop_of_length_le (by omega)] at hR
    refine Ev.neg (by omega) ?_
    rw [wrap64_id (x := q + 1) (by omega) (by omega)]
    exact hR
  | succ d ih =>
    intro i a hi ha hs hR
    rw [sgl_drop n L i (by omega), Bool.and_eq_true] at hs
    have hok := of_decide_eq_true hs.1
    refine Ev.succ ?_
    simp only [spec_TimeAllHear.l1, siFirst_eq hok h0 h1, l1Least_eq, Option.bind_some]
    refine Ev.pos (by omega) (Ev.pos (by omega) (Ev.pos (by omega) ?_))
    rw [wrap64_id (x := (i : Int) + 1) (by omega) (by omega)]
    have hb := (frs_bd (l := (rd_T36 L (i : Int)).f1) (p := q) hok).1
    have ht := Int.mul_nonneg hb (show 0 ≤ (rd_T36 L (i : Int)).f2 by have := hok.2.2.2.2.1; omega)
    rw [List.drop_eq_getElem_cons (show i < L.length by omega), bst_cons, ← rdSigI (show i < L.length by omega), mrg_mn ha] at hR
    exact ih (i + 1) _ (by omega) (by rw [← mrg_mn ha]; exact mrg_nn ht) hs.2 hR
theorem spTAH_loop (n : Int) (L : List S36) (hn : 1 ≤ n ∧ n ≤ 100) (hs : sgsOK n L = true) :
    ∀ (d : Nat) (m q : Int), 0 ≤ q → q + d = n → Ev (fun k => spec_TimeAllHear.l0 k n L m q) ((tbl (fun q => bst n L q (-1)) q d).foldl mx m, true) := by
  have hs0 := hs
  unfold sgsOK at hs0
  rw [Bool.and_eq_true] at hs0
  have hl := of_decide_eq_true hs0.1
  intro d
  induction d with
  | zero =>
    intro m q h0 h1
    refine Ev.succ ?_
    simp only [spec_TimeAllHear.l0]
    exact Ev.neg (by omega) (Ev.now _)
  | succ d ih =>
    intro m q h0 h1
    have hs1 := hs0.2
    have e0 : sgl n (L.drop 0) = true := by simpa using hs1
    rw [sgl_drop n L 0 (by omega), Bool.and_eq_true] at e0
    have hok := of_decide_eq_true e0.1
    refine Ev.succ ?_
    have hsf := siFirst_eq (l := (rd_T36 L ((0 : Nat) : Int)).f1) hok h0 (show q ≤ n - 1 by omega)
    rw [show ((0 : Nat) : Int) = 0 from rfl] at hsf
    simp only [spec_TimeAllHear.l0, hsf, Option.bind_some]
    refine Ev.pos (by omega) (Ev.pos (by omega) ?_)
    have hb := (frs_bd (l := (rd_T36 L 0).f1) (p := q) hok).1
    have ht := Int.mul_nonneg hb (show 0 ≤ (rd_T36 L 0).f2 by have := hok.2.2.2.2.1; exact Int.le_trans (by omega) this)
    refine spTAH_in n L hl.2 m q h0 (by omega) hn.2 _ L.length 0 _ (by omega) ht (by simpa using hs1) ?_
    have e : bst n (L.drop 0) q (frs n (rd_T36 L 0).f0 (rd_T36 L 0).f1 q * (rd_T36 L 0).f2) = bst n L q (-1) := by
      cases L with
      | nil => simp at hl
      | cons x L =>
        have ex : rd_T36 (x :: L) 0 = x := by simp [rd_T36]
        rw [ex] at ht ⊢
        rw [List.drop_zero, bst_cons, bst_cons]
        congr 1
        have hg : 0 ≤ frs n x.f0 x.f1 q * x.f2 := ht
        generalize frs n x.f0 x.f1 q * x.f2 = g at hg ⊢
        unfold mrg
        split <;> (try split) <;> (try split) <;> omega
    rw [e]
    exact ih _ _ (by omega) (by omega)
theorem spTimeAllHear_ev (n : Int) (L : List S36) (hL : L.length ≤ 1000000000) : Ev (fun k => spec_TimeAllHear.f k n L) (if sgsOK n L = true ∧ 1 ≤ n ∧ n ≤ 100 then ((tbl (fun q => bst n L q (-1)) 0 n.toNat).foldl mx 0, true) else (0, false)) := by
  unfold spec_TimeAllHear.f
  simp only [siSoldiers_eq, Option.bind_some]
  refine Ev.iff (fun hc => ?_) (fun hc => ?_)
  · have hn := of_decide_eq_true hc
    refine Ev.bind (siList_ev n L hL) (Ev.succ ?_)
    simp only [spec_TimeAllHear.j0]
    refine Ev.iff (fun hb => ?_) (fun hb => ?_)
    · rw [if_neg (fun h => by rw [h.1] at hb; simp at hb)]; exact Ev.now _
    · have hs : sgsOK n L = true := by simpa using hb
      rw [if_pos ⟨hs, hn⟩]
      exact spTAH_loop n L hn hs n.toNat 0 0 (by omega) (by omega)
  · refine Ev.succ ?_
    simp only [spec_TimeAllHear.j0]
    refine Ev.pos (by first | rfl | trivial) ?_
    rw [if_neg (fun h => hc (decide_eq_true h.2))]
    exact Ev.now _
theorem imTimeAllHear_ev (n : Int) (L : List S36) (hL : L.length ≤ 1000000000) : Ev (fun k => impl_TimeAllHear.f k n L) (if sgsOK n L = true ∧ 1 ≤ n ∧ n ≤ 100 then ((tbl (fun q => bst n L q (-1)) 0 n.toNat).foldl mx 0, true) else (0, false)) := by
  unfold impl_TimeAllHear.f
  refine Ev.bind (areSignals_ev n L hL) ?_
  by_cases h : sgsOK n L = true ∧ 1 ≤ n ∧ n ≤ 100
  · rw [if_pos h]
    refine Ev.pos (by rw [h.1, decide_eq_true h.2]; rfl) (Ev.bind (heard_ev n L h.2 h.1) ?_)
    obtain ⟨m, hm⟩ : ∃ m : Nat, n.toNat = m + 1 := ⟨n.toNat - 1, by omega⟩
    rw [hm]
    simp only [tbl, List.foldl_cons]
    refine Ev.bind (sMax_ev _ _ (by rw [tbl_len]; omega)) (Ev.const ?_)
    have hb := bst_nn' n 0 L h.1
    have e : mx 0 (bst n L 0 (-1)) = bst n L 0 (-1) := by unfold mx; split <;> omega
    rw [e]
  · rw [if_neg h]
    refine Ev.neg (fun k => h ?_) (Ev.now _)
    rw [Bool.and_eq_true] at k
    exact ⟨k.2, of_decide_eq_true k.1⟩
/-- Who has had a signal up to a time. -/
def hby (n : Int) (L : List S36) (u : Int) : List Int × Bool := if (sgsOK n L = true ∧ 1 ≤ n ∧ n ≤ 100) ∧ 0 ≤ u ∧ u ≤ 100000 then (fil (fun q => decide (bst n L q (-1) ≤ u)) 0 n.toNat, true) else ([], false)
theorem hby_len (n : Int) (L : List S36) (u : Int) : (hby n L u).1.length ≤ 100 := by
  unfold hby
  by_cases h : (sgsOK n L = true ∧ 1 ≤ n ∧ n ≤ 100) ∧ 0 ≤ u ∧ u ≤ 100000
  · rw [if_pos h]
    have := fil_len (fun q => decide (bst n L q (-1) ≤ u)) n.toNat 0
    simp only
    omega
  · rw [if_neg h]; simp
theorem mrg_le {a t u : Int} (hu : 0 ≤ u) (ht : 0 ≤ t) : (0 ≤ mrg a t ∧ mrg a t ≤ u) ↔ ((0 ≤ a ∧ a ≤ u) ∨ t ≤ u) := by
  unfold mrg
  split <;> (try split) <;> omega
theorem spHB_in (n : Int) (L : List S36) (hL : L.length ≤ 10) (u : Int) (hu : 0 ≤ u) (out : List Int) (ho : out.length ≤ 1000) (q : Int) (h0 : 0 ≤ q) (h1 : q ≤ n - 1) (hn : n ≤ 100) (R : List Int × Bool) :
    ∀ (d i : Nat) (a : Int), i + d = L.length → sgl n (L.drop i) = true → Ev (fun k => spec_HeardBy.l0 k n L u (out ++ (if 0 ≤ bst n (L.drop i) q a ∧ bst n (L.drop i) q a ≤ u then [q] else [])) (q + 1)) R → Ev (fun k => spec_HeardBy.l1 k n L u out q (decide (0 ≤ a ∧ a ≤ u)) L (L.length : Int) (i : Int)) R := by
  intro d
  induction d with
  | zero =>
    intro i a hi hs hR
    refine Ev.succ ?_
    simp only [spec_HeardBy.l1]
    rw [List.drop_of_length_le (by omega)] at hR
    change Ev (fun k => spec_HeardBy.l0 k n L u (out ++ (if 0 ≤ a ∧ a ≤ u then [q] else [])) (q + 1)) R at hR
    refine Ev.neg (by omega) ?_
    rw [wrap64_id (x := q + 1) (by omega) (by omega)]
    refine Ev.iff (fun hc => ?_) (fun hc => ?_)
    · rw [if_pos (of_decide_eq_true hc)] at hR
      exact Ev.pos (by omega) hR
    · rw [if_neg (fun h => hc (decide_eq_true h)), List.append_nil] at hR
      exact hR
  | succ d ih =>
    intro i a hi hs hR
    rw [sgl_drop n L i (by omega), Bool.and_eq_true] at hs
    have hok := of_decide_eq_true hs.1
    refine Ev.succ ?_
    simp only [spec_HeardBy.l1, siFirst_eq hok h0 h1, Option.bind_some]
    refine Ev.pos (by omega) (Ev.pos (by omega) (Ev.pos (by omega) ?_))
    rw [wrap64_id (x := (i : Int) + 1) (by omega) (by omega)]
    have hb := (frs_bd (l := (rd_T36 L (i : Int)).f1) (p := q) hok).1
    have ht := Int.mul_nonneg hb (show 0 ≤ (rd_T36 L (i : Int)).f2 by have := hok.2.2.2.2.1; omega)
    rw [List.drop_eq_getElem_cons (show i < L.length by omega), bst_cons, ← rdSigI (show i < L.length by omega)] at hR
    have ih' := ih (i + 1) _ (by omega) hs.2 hR
    have hle := mrg_le (a := a) (u := u) hu ht
    refine Ev.iff (fun hc => ?_) (fun hc => ?_)
    · rw [show decide (0 ≤ mrg a (frs n (rd_T36 L (i : Int)).f0 (rd_T36 L (i : Int)).f1 q * (rd_T36 L (i : Int)).f2) ∧ mrg a (frs n (rd_T36 L (i : Int)).f0 (rd_T36 L (i : Int)).f1 q * (rd_T36 L (i : Int)).f2) ≤ u) = true from decide_eq_true (hle.2 (.inl (of_decide_eq_true hc)))] at ih'
      exact ih'
    · have hna : ¬ (0 ≤ a ∧ a ≤ u) := fun h => hc (decide_eq_true h)
      rw [show decide (0 ≤ mrg a (frs n (rd_T36 L (i : Int)).f0 (rd_T36 L (i : Int)).f1 q * (rd_T36 L (i : Int)).f2) ∧ mrg a (frs n (rd_T36 L (i : Int)).f0 (rd_T36 L (i : Int)).f1 q * (rd_T36 L (i : Int)).f2) ≤ u) = decide (frs n (rd_T36 L (i : Int)).f0 (rd_T36 L (i : Int)).f1 q * (rd_T36 L (i : Int)).f2 ≤ u) from decide_eq_decide.2 (hle.trans ⟨fun h => h.resolve_left hna, .inr⟩)] at ih'
      exact ih'
theorem spHB_loop (n : Int) (L : List S36) (u : Int) (hu : 0 ≤ u) (hn : 1 ≤ n ∧ n ≤ 100) (hs : sgsOK n L = true) :
    ∀ (d : Nat) (out : List Int) (q : Int), 0 ≤ q → q + d = n → (out.length : Int) ≤ q → Ev (fun k => spec_HeardBy.l0 k n L u out q) (out ++ fil (fun q => decide (bst n L q (-1) ≤ u)) q d, true) := by
  have hs0 := hs
  unfold sgsOK at hs0
  rw [Bool.and_eq_true] at hs0
  have hl := of_decide_eq_true hs0.1
  intro d
  induction d with
  | zero =>
    intro out q h0 h1 h2
    refine Ev.succ ?_
    simp only [spec_HeardBy.l0]
    refine Ev.neg (by omega) (Ev.const ?_)
    simp [fil]
  | succ d ih =>
    intro out q h0 h1 h2
    refine Ev.succ ?_
    simp only [spec_HeardBy.l0]
    refine Ev.pos (by omega) ?_
    have hb := bst_nn' n q L hs
    have := spHB_in n L hl.2 u hu out (by omega) q h0 (by omega) hn.2 (out ++ fil (fun q => decide (bst n L q (-1) ≤ u)) q (d + 1), true) L.length 0 (-1) (by omega) (by simpa using hs0.2)
    rw [show decide ((0 : Int) ≤ -1 ∧ (-1 : Int) ≤ u) = false from decide_eq_false (by omega), List.drop_zero] at this
    refine this ?_
    simp only [fil]
    by_cases hc : bst n L q (-1) ≤ u
    · rw [if_pos ⟨hb, hc⟩, if_pos (decide_eq_true hc), ← List.append_assoc]
      exact ih _ _ (by omega) (by omega) (by simp; omega)
    · rw [if_neg (fun h => hc h.2), if_neg (by simpa using hc), List.append_nil, List.nil_append]
      exact ih _ _ (by omega) (by omega) (by omega)
theorem spHeardBy_ev (n : Int) (L : List S36) (u : Int) (hL : L.length ≤ 1000000000) : Ev (fun k => spec_HeardBy.f k n L u) (hby n L u) := by
  unfold spec_HeardBy.f hby
  have et : spec_siTime.f u = some (decide (0 ≤ u ∧ u ≤ 100000)) := by unfold spec_siTime.f; rw [l1In_eq]; rfl
  simp only [siSoldiers_eq, et, Option.bind_some]
  have no : (∀ h : (sgsOK n L = true ∧ 1 ≤ n ∧ n ≤ 100) ∧ 0 ≤ u ∧ u ≤ 100000, False) → Ev (fun k => spec_HeardBy.j0 k n L u true) (if (sgsOK n L = true ∧ 1 ≤ n ∧ n ≤ 100) ∧ 0 ≤ u ∧ u ≤ 100000 then (fil (fun q => decide (bst n L q (-1) ≤ u)) 0 n.toNat, true) else ([], false)) := fun hno => by
    refine Ev.succ ?_
    simp only [spec_HeardBy.j0]
    rw [if_neg (fun h => hno h)]
    exact Ev.pos (by first | rfl | trivial) (Ev.now _)
  refine Ev.iff (fun hc => ?_) (fun hc => no (fun h => hc (decide_eq_true h.1.2)))
  have hn := of_decide_eq_true hc
  refine Ev.bind (siList_ev n L hL) (Ev.iff (fun hb => ?_) (fun hb => no (fun h => hb h.1.1)))
  by_cases hu : 0 ≤ u ∧ u ≤ 100000
  · rw [if_pos ⟨⟨hb, hn⟩, hu⟩, decide_eq_true hu]
    refine Ev.succ ?_
    simp only [spec_HeardBy.j0]
    refine Ev.neg (by simp) ?_
    have := spHB_loop n L u hu.1 hn hb n.toNat [] 0 (by omega) (by omega) (by simp)
    simpa using this
  · rw [decide_eq_false hu]
    exact no (fun h => hu h.2)
theorem imHB_loop (u : Int) (o : Int → Int) (n : Nat) (hn : n ≤ 1000) : ∀ (d i : Nat) (out : List Int), i + d = n → out.length ≤ i →
    Ev (fun k => impl_HeardBy.l0 k u out (tbl o 0 n) (n : Int) (i : Int)) (out ++ fil (fun q => decide (o q ≤ u)) (i : Int) d, true) := by
  intro d
  induction d with
  | zero =>
    intro i out hi ho
    refine Ev.succ ?_
    simp only [impl_HeardBy.l0]
    refine Ev.neg (by omega) (Ev.const ?_)
    simp [fil]
  | succ d ih =>
    intro i out hi ho
    refine Ev.succ ?_
    simp only [impl_HeardBy.l0]
    have e := tbl_get o n 0 i (by omega)
    rw [show (0 : Int) + (i : Int) = (i : Int) by omega] at e
    rw [e, wrap64_id (x := (i : Int) + 1) (by omega) (by omega)]
    simp only [fil]
    refine Ev.pos (by omega) (Ev.pos (by omega) (Ev.pos (by rw [tbl_len]; omega) (Ev.iff (fun hc => ?_) (fun hc => ?_))))
    · refine Ev.pos (by omega) ?_
      rw [if_pos (decide_eq_true hc), ← List.append_assoc]
      exact ih (i + 1) (out ++ [(i : Int)]) (by omega) (by simp; omega)
    · rw [if_neg (by simpa using hc), List.nil_append]
      exact ih (i + 1) out (by omega) (by omega)
theorem imHeardBy_ev (n : Int) (L : List S36) (u : Int) (hL : L.length ≤ 1000000000) : Ev (fun k => impl_HeardBy.f k n L u) (hby n L u) := by
  unfold impl_HeardBy.f hby
  have et : impl_isSignalTime.f u = some (decide (0 ≤ u ∧ u ≤ 100000)) := by unfold impl_isSignalTime.f; rw [in_eq]; rfl
  simp only [et, Option.bind_some]
  have no : (∀ h : (sgsOK n L = true ∧ 1 ≤ n ∧ n ≤ 100) ∧ 0 ≤ u ∧ u ≤ 100000, False) → Ev (fun k => impl_HeardBy.j0 k n L u true) (if (sgsOK n L = true ∧ 1 ≤ n ∧ n ≤ 100) ∧ 0 ≤ u ∧ u ≤ 100000 then (fil (fun q => decide (bst n L q (-1) ≤ u)) 0 n.toNat, true) else ([], false)) := fun hno => by
    refine Ev.succ ?_
    simp only [impl_HeardBy.j0]
    rw [if_neg (fun h => hno h)]
    exact Ev.pos (by first | rfl | trivial) (Ev.now _)
  refine Ev.bind (areSignals_ev n L hL) (Ev.iff (fun hc => ?_) (fun hc => no (fun h => hc (by rw [h.1.1, decide_eq_true h.1.2]; rfl))))
  rw [Bool.and_eq_true] at hc
  have hn := of_decide_eq_true hc.1
  by_cases hu : 0 ≤ u ∧ u ≤ 100000
  · rw [if_pos ⟨⟨hc.2, hn⟩, hu⟩, decide_eq_true hu]
    refine Ev.succ ?_
    simp only [impl_HeardBy.j0]
    refine Ev.neg (by simp) (Ev.bind (heard_ev n L hn hc.2) ?_)
    rw [tbl_len]
    have := imHB_loop u (fun q => bst n L q (-1)) n.toNat (by omega) n.toNat 0 [] (by omega) (by simp)
    simpa using this
  · rw [decide_eq_false hu]
    exact no (fun h => hu h.2)
theorem max_ev (n : Int) (l : List Int) (hn : 1 ≤ n ∧ n ≤ 16) : Ev (fun k => slices_Max_int_int.f k (spr n l 0 n.toNat)) (mxs n l) := by
  unfold mxs
  obtain ⟨d, hd⟩ : ∃ d : Nat, n.toNat = d + 1 := ⟨n.toNat - 1, by omega⟩
  rw [hd]
  simp only [spr, List.foldl_cons]
  have hb := near_bd 0 l n (by omega)
  have e : mx 0 (near 0 n l) = near 0 n l := by unfold mx; split <;> omega
  rw [e]
  exact sMax_ev _ _ (by rw [spr_len]; omega)
theorem find_loop (n m due : Int) (r : Nat) (l : List Int) (hn : 1 ≤ n ∧ n ≤ 16) (hm : 1 ≤ m ∧ m ≤ n) (hr : (l.length : Int) + (r + 1) = m)
    (ih : ∀ x, 0 ≤ x → x < n → Ev (fun k => impl_BestStarts_find.f k n m due (l ++ [x]) (x + 1)) (srch n due r (l ++ [x]) (x + 1))) :
    ∀ (d : Nat) (x : Int), 0 ≤ x → (n - (r : Int) - x).toNat = d → x ≤ n → Ev (fun k => impl_BestStarts_find.l k n m due l x) (lpf (fun y => srch n due r (l ++ [y]) (y + 1)) x d) := by
  intro d
  induction d with
  | zero =>
    intro x h0 h1 h2
    refine Ev.succ ?_
    simp only [impl_BestStarts_find.l]
    rw [wrap64_id (x := m - (l.length : Int)) (by omega) (by omega), wrap64_id (x := n - (m - (l.length : Int))) (by omega) (by omega)]
    exact Ev.neg (by omega) (Ev.now _)
  | succ d ihd =>
    intro x h0 h1 h2
    refine Ev.succ ?_
    simp only [impl_BestStarts_find.l]
    rw [wrap64_id (x := m - (l.length : Int)) (by omega) (by omega), wrap64_id (x := n - (m - (l.length : Int))) (by omega) (by omega), wrap64_id (x := x + 1) (by omega) (by omega)]
    refine Ev.pos (by omega) (Ev.pos (by omega) (Ev.bind (ih x h0 (by omega)) ?_))
    simp only [lpf]
    refine Ev.iff (fun hc => ?_) (fun hc => ?_)
    · rw [if_pos hc]; exact Ev.now _
    · rw [if_neg hc]; exact ihd (x + 1) (by omega) (by omega) (by omega)
theorem look_loop (n m due : Int) (r : Nat) (l : List Int) (hn : 1 ≤ n ∧ n ≤ 16) (hm : 1 ≤ m ∧ m ≤ n) (hr : (l.length : Int) + (r + 1) = m)
    (ih : ∀ x, 0 ≤ x → x < n → ∃ out, Ev (fun k => spec_siLook.f k n m due (l ++ [x])) (out, (srch n due r (l ++ [x]) (x + 1)).isSome) ∧ ∀ o, srch n due r (l ++ [x]) (x + 1) = some o → out = o) :
    ∀ (d : Nat) (x : Int), 0 ≤ x → x + d = n → Ev (fun k => spec_siLook.l0 k n m due l x) ((lpf (fun y => srch n due r (l ++ [y]) (y + 1)) x (n - (r : Int) - x).toNat).getD [], (lpf (fun y => srch n due r (l ++ [y]) (y + 1)) x (n - (r : Int) - x).toNat).isSome) := by
  intro d
  induction d with
  | zero =>
    intro x h0 h1
    refine Ev.succ ?_
    simp only [spec_siLook.l0]
    rw [show (n - (r : Int) - x).toNat = 0 by omega]
    exact Ev.neg (by omega) (Ev.now _)
  | succ d ihd =>
    intro x h0 h1
    have own : spec_l1Own.f l = some l := by
      unfold spec_l1Own.f
      simp only [Option.bind_some, List.nil_append, List.length_nil]
      rw [if_pos (by omega)]
    obtain ⟨out, e1, e2⟩ := ih x h0 (by omega)
    have ih' := ihd (x + 1) (by omega) (by omega)
    refine Ev.succ ?_
    simp only [spec_siLook.l0, own, Option.bind_some]
    rw [wrap64_id (x := x + 1) (by omega) (by omega)]
    refine Ev.pos (by omega) (Ev.pos (by omega) (Ev.bind e1 ?_))
    by_cases hr0 : n - (r : Int) ≤ x
    · cases r with
      | zero => omega
      | succ r =>
        rw [srch_over n due r _ _ (by omega)]
        rw [show (n - ((r + 1 : Nat) : Int) - x).toNat = 0 by omega]
        rw [show (n - ((r + 1 : Nat) : Int) - (x + 1)).toNat = 0 by omega] at ih'
        exact Ev.neg (by simp) ih'
    · rw [show (n - (r : Int) - x).toNat = (n - (r : Int) - (x + 1)).toNat + 1 by omega]
      simp only [lpf]
      refine Ev.iff (fun hc => ?_) (fun hc => ?_)
      · rw [if_pos hc]
        obtain ⟨o, ho⟩ := Option.isSome_iff_exists.1 hc
        rw [e2 o ho, ho]
        exact Ev.now _
      · rw [if_neg hc]
        exact ih'
theorem look_ev (n m due : Int) (hn : 1 ≤ n ∧ n ≤ 16) (hm : 1 ≤ m ∧ m ≤ n) (hd0 : 0 ≤ due) (hd : due = 0 ∨ m * (2 * (due - 1) + 1) < n) :
    ∀ (r : Nat) (l : List Int) (x : Int), (l.length : Int) + r = m → (∀ y ∈ l, 0 ≤ y ∧ y < n) → 0 ≤ x → x ≤ n → (l.length = 0 → x = 0) → (0 < l.length → x = rd l ((l.length : Int) - 1) + 1) →
      Ev (fun k => impl_BestStarts_find.f k n m due l x) (srch n due r l x) ∧ ∃ out, Ev (fun k => spec_siLook.f k n m due l) (out, (srch n due r l x).isSome) ∧ (∀ o, srch n due r l x = some o → out = o) ∧ (0 < r → srch n due r l x = none → out = []) := by
  intro r
  induction r with
  | zero =>
    intro l x hl hmem h0 h1 hx0 hx1
    have hle := mxs_ge n due l hn.1 (by omega) (by rcases hd with hd | hd; exact .inl hd; exact .inr (by rw [show (l.length : Int) = m by omega]; exact hd)) hd0
    constructor
    · refine Ev.succ ?_
      simp only [impl_BestStarts_find.f, srch]
      refine Ev.pos (by omega) (Ev.bind (spread_ev n l ⟨hn.1, by omega⟩ (by omega) (fun y hy => by have := hmem y hy; omega)) (Ev.bind (max_ev n l hn) ?_))
      refine Ev.iff (fun hc => ?_) (fun hc => ?_)
      · rw [if_pos (by omega)]; exact Ev.now _
      · rw [if_neg (by omega)]; exact Ev.now _
    · refine ⟨l, Ev.succ ?_, fun o ho => ?_, fun h => absurd h (by omega)⟩
      · simp only [spec_siLook.f, srch]
        refine Ev.pos (by omega) (Ev.bind (siSpread_ev n l ⟨hn.1, by omega⟩ (by omega) (fun y hy => by have := hmem y hy; omega)) (Ev.const ?_))
        have e : (spr n l 0 n.toNat).foldl mx 0 = mxs n l := rfl
        simp only [e]
        by_cases hc : mxs n l ≤ due
        · simp [hc]
        · simp [hc]
      · simp only [srch] at ho
        by_cases hc : mxs n l ≤ due
        · rw [if_pos hc] at ho; exact Option.some.inj ho
        · rw [if_neg hc] at ho; simp at ho
  | succ r ih =>
    intro l x hl hmem h0 h1 hx0 hx1
    have step : ∀ y, 0 ≤ y → y < n → _ := fun y hy0 hy1 => ih (l ++ [y]) (y + 1) (by simp; omega) (fun z hz => by
      rcases List.mem_append.1 hz with hz | hz
      · exact hmem z hz
      · have : z = y := by simpa using hz
        omega) (by omega) (by omega) (fun h => by simp at h) (fun _ => by
      rw [show (((l ++ [y]).length : Nat) : Int) - 1 = (l.length : Int) by simp, rd_append])
    constructor
    · refine Ev.succ ?_
      simp only [impl_BestStarts_find.f, srch]
      exact Ev.neg (by omega) (find_loop n m due r l hn hm (by omega) (fun y hy0 hy1 => (step y hy0 hy1).1) _ x h0 rfl h1)
    · have lp := look_loop n m due r l hn hm (by omega) (fun y hy0 hy1 => by
        obtain ⟨_, out, e1, e2, _⟩ := step y hy0 hy1
        exact ⟨out, e1, e2⟩) (n - x).toNat x h0 (by omega)
      refine ⟨(srch n due (r + 1) l x).getD [], Ev.succ ?_, fun o ho => by rw [ho]; rfl, fun _ ho => by rw [ho]; rfl⟩
      simp only [spec_siLook.f, srch]
      refine Ev.neg (by omega) ?_
      have lp' : Ev (fun k => spec_siLook.j0 k n m due l x) _ := Ev.succ (by simp only [spec_siLook.j0]; exact lp)
      by_cases hz : (l.length : Int) > 0
      · refine Ev.pos hz ?_
        rw [wrap64_id (x := (l.length : Int) - 1) (by omega) (by omega)]
        refine Ev.pos (by omega) (Ev.pos (by omega) ?_)
        rw [← hx1 (by omega), wrap64_id (x := x) (by omega) (by omega)]
        exact lp'
      · refine Ev.neg hz ?_
        rw [hx0 (by omega)] at lp' ⊢
        exact lp'
theorem low8 (y : Int) : 0 ≤ wrap64 (Go.bits .and .u64 ((IntKind.u64.wrap y) / 1099511627776) 255) ∧ wrap64 (Go.bits .and .u64 ((IntKind.u64.wrap y) / 1099511627776) 255) ≤ 255 := by
  have hw : IntKind.u64.wrap y = y % 18446744073709551616 := by simp [IntKind.wrap, IntKind.bits, IntKind.signed]
  rw [hw]
  have hx0 : 0 ≤ y % 18446744073709551616 / 1099511627776 := by omega
  have hx1 : y % 18446744073709551616 / 1099511627776 < 2 ^ 24 := by omega
  have hm := bits_mask .u64 24 (by decide) (fun n h0 h1 => by simp [IntKind.wrap, IntKind.bits, IntKind.signed]; omega) 8 (by decide) _ hx0 hx1
  have e : (2 : Int) ^ 8 - 1 = 255 := by decide
  simp only [e] at hm
  rw [hm, wrap64_id (by omega) (by omega)]
  omega
theorem next_ok (code : List Int) (hc : ∀ x ∈ code, 0 ≤ x ∧ x ≤ 255) (p s : Int) (h0 : 0 ≤ p) (h1 : p ≤ 1000000) : ∃ v s', spec_l1Cur_next.f code p s = some (v, p + 1, s') ∧ 0 ≤ v ∧ v ≤ 255 := by
  unfold spec_l1Cur_next.f
  rw [wrap64_id (x := p + 1) (by omega) (by omega)]
  by_cases c1 : p < (code.length : Int)
  · have hm := hc _ (rd_mem (l := code) (j := p.toNat) (by omega))
    rw [show ((p.toNat : Nat) : Int) = p by omega] at hm
    rw [if_pos c1, if_pos h0, wrap64_id (x := rd code p) (by omega) (by omega)]
    by_cases c2 : p + 1 ≤ (code.length : Int)
    · rw [if_pos c2]; exact ⟨_, _, rfl, hm.1, hm.2⟩
    · rw [if_neg c2]; exact ⟨_, _, rfl, (low8 _).1, (low8 _).2⟩
  · rw [if_neg c1]
    by_cases c2 : p + 1 ≤ (code.length : Int)
    · rw [if_pos c2]; exact ⟨_, _, rfl, by omega, by omega⟩
    · rw [if_neg c2]; exact ⟨_, _, rfl, (low8 _).1, (low8 _).2⟩
theorem pick_ok (code : List Int) (hc : ∀ x ∈ code, 0 ≤ x ∧ x ≤ 255) (p s n : Int) (h0 : 0 ≤ p) (h1 : p ≤ 999990) : ∃ v p' s', spec_l1Cur_pick.f code p s n = some (v, p', s') ∧ 0 ≤ v ∧ (v < n ∨ v = 0) ∧ p ≤ p' ∧ p' ≤ p + 2 := by
  unfold spec_l1Cur_pick.f
  by_cases c1 : n ≤ 1
  · rw [if_pos c1]; exact ⟨0, p, s, rfl, by omega, .inr rfl, by omega, by omega⟩
  · rw [if_neg c1]
    obtain ⟨v, s1, e1, v0, v1⟩ := next_ok code hc p s h0 (by omega)
    rw [e1]
    simp only [Option.bind_some]
    by_cases c2 : n > 200
    · rw [if_pos c2]
      obtain ⟨u, s2, e2, u0, u1⟩ := next_ok code hc (p + 1) s1 (by omega) (by omega)
      rw [e2]
      simp only [Option.bind_some]
      rw [if_neg (show ¬ n = 0 by omega), wrap64_id (x := v * 256) (by omega) (by omega), wrap64_id (x := v * 256 + u) (by omega) (by omega), tmod_nn (by omega)]
      exact ⟨_, _, _, rfl, Int.emod_nonneg _ (by omega), .inl (Int.emod_lt_of_pos _ (by omega)), by omega, by omega⟩
    · rw [if_neg c2, if_neg (show ¬ n = 0 by omega), tmod_nn (by omega)]
      exact ⟨_, _, _, rfl, Int.emod_nonneg _ (by omega), .inl (Int.emod_lt_of_pos _ (by omega)), by omega, by omega⟩
theorem among_ok (code : List Int) (hc : ∀ x ∈ code, 0 ≤ x ∧ x ≤ 255) (p s : Int) (l : List Int) (hl : 0 < l.length) (h0 : 0 ≤ p) (h1 : p ≤ 999990) : ∃ v p' s', spec_l1Cur_among.f code p s l = some (v, p', s') ∧ v ∈ l ∧ p ≤ p' ∧ p' ≤ p + 2 := by
  unfold spec_l1Cur_among.f
  obtain ⟨v, p', s', e, v0, v1, q0, q1⟩ := pick_ok code hc p s (l.length : Int) h0 h1
  rw [e]
  simp only [Option.bind_some]
  have hv : v < (l.length : Int) := by omega
  rw [if_pos v0, if_pos hv]
  have := rd_mem (l := l) (j := v.toNat) (by omega)
  rw [show ((v.toNat : Nat) : Int) = v by omega] at this
  exact ⟨_, _, _, rfl, this, q0, q1⟩
theorem one_ok (code : List Int) (hc : ∀ x ∈ code, 0 ≤ x ∧ x ≤ 255) (p s n : Int) (h0 : 0 ≤ p) (h1 : p ≤ 999990) : ∃ v p' s', spec_l1Cur_one.f code p s n = some (v, p', s') ∧ p ≤ p' ∧ p' ≤ p + 2 := by
  unfold spec_l1Cur_one.f
  obtain ⟨v, p', s', e, _, _, q0, q1⟩ := pick_ok code hc p s n h0 h1
  rw [e]
  exact ⟨_, _, _, rfl, q0, q1⟩
theorem sure_ok (code : List Int) (hc : ∀ x ∈ code, 0 ≤ x ∧ x ≤ 255) (p s n : Int) (h0 : 0 ≤ p) (h1 : p ≤ 999900) : ∃ f l w p' s', spec_l1Cur_sureSignal.f code p s n = some (f, l, w, p', s') ∧ 0 ≤ f ∧ f ≤ 99 ∧ 1 ≤ w ∧ w ≤ 4 ∧ p ≤ p' ∧ p' ≤ p + 6 := by
  unfold spec_l1Cur_sureSignal.f
  simp only [l1Most_eq, l1Least_eq, Option.bind_some]
  have hb : mn 100 (mx 1 n) ≤ 100 := by unfold mn; split <;> omega
  generalize mn 100 (mx 1 n) = z at hb
  obtain ⟨f, p1, s1, e1, f0, f1, a0, a1⟩ := pick_ok code hc p s z h0 (by omega)
  rw [e1]
  simp only [Option.bind_some]
  obtain ⟨l, p2, s2, e2, b0, b1⟩ := one_ok code hc p1 s1 2 (by omega) (by omega)
  rw [e2]
  simp only [Option.bind_some]
  obtain ⟨w, p3, s3, e3, w0, w1, c0, c1⟩ := pick_ok code hc p2 s2 4 (by omega) (by omega)
  rw [e3]
  simp only [Option.bind_some]
  rw [wrap64_id (x := 1 + w) (by omega) (by omega)]
  exact ⟨_, _, _, _, _, rfl, f0, by omega, by omega, by omega, by omega, by omega⟩
theorem sgnl_ok (code : List Int) (hc : ∀ x ∈ code, 0 ≤ x ∧ x ≤ 255) (p s : Int) (h0 : 0 ≤ p) (h1 : p ≤ 999800) : ∃ n f l w p' s', spec_l1Cur_signal.f code p s = some (n, f, l, w, p', s') ∧ I64 n ∧ I64 f ∧ I64 w ∧ p ≤ p' ∧ p' ≤ p + 20 := by
  unfold spec_l1Cur_signal.f
  obtain ⟨n, p1, s1, e1, n0, n1, a0, a1⟩ := pick_ok code hc p s 12 h0 (by omega)
  rw [e1]
  simp only [Option.bind_some]
  rw [wrap64_id (x := 1 + n) (by omega) (by omega)]
  obtain ⟨f, l, w, p2, s2, e2, f0, f1, w0, w1, b0, b1⟩ := sure_ok code hc p1 s1 (1 + n) (by omega) (by omega)
  rw [e2]
  simp only [Option.bind_some]
  obtain ⟨c, p3, s3, e3, c0, c1, d0, d1⟩ := pick_ok code hc p2 s2 18 (by omega) (by omega)
  rw [e3]
  simp only [Option.bind_some]
  have i1 : I64 (1 + n) := by unfold I64; omega
  have i2 : I64 f := by unfold I64; omega
  have i3 : I64 w := by unfold I64; omega
  by_cases k0 : c = 0
  · rw [if_pos k0]
    obtain ⟨v, p4, s4, e4, hv, g0, g1⟩ := among_ok code hc p3 s3 [(-1), 0, 1, 100, 101, 4611686018427387904] (by simp) (by omega) (by omega)
    rw [e4]
    have iv : I64 v := by unfold I64; simp at hv; omega
    exact ⟨_, _, _, _, p4, s4, rfl, iv, i2, i3, by omega, by omega⟩
  · rw [if_neg k0]
    by_cases k1 : c = 1
    · rw [if_pos k1]
      obtain ⟨v, p4, s4, e4, hv, g0, g1⟩ := among_ok code hc p3 s3 [(-1), 0, 1, 12, 99, 100, 4611686018427387904] (by simp) (by omega) (by omega)
      rw [e4]
      have iv : I64 v := by unfold I64; simp at hv; omega
      exact ⟨_, _, _, _, p4, s4, rfl, i1, iv, i3, by omega, by omega⟩
    · rw [if_neg k1]
      by_cases k2 : c = 2
      · rw [if_pos k2]
        obtain ⟨v, p4, s4, e4, hv, g0, g1⟩ := among_ok code hc p3 s3 [(-1), 0, 1, 10, 11, 4611686018427387904] (by simp) (by omega) (by omega)
        rw [e4]
        have iv : I64 v := by unfold I64; simp at hv; omega
        exact ⟨_, _, _, _, p4, s4, rfl, i1, i2, iv, by omega, by omega⟩
      · rw [if_neg k2]
        exact ⟨_, _, _, _, p3, s3, rfl, i1, i2, i3, by omega, by omega⟩
theorem l1Num_lo (n : Nat) (h : n < 10) : Ev (fun k => spec_l1Num.f k (n : Int)) (up (Go.Lib.decDigits n)) := by
  refine Ev.succ ?_
  simp only [spec_l1Num.f]
  refine Ev.pos (by omega) (Ev.const ?_)
  rw [dig n h, dec_lo n h]
theorem l1Num_ev (n : Nat) (h : n < 100) : Ev (fun k => spec_l1Num.f k (n : Int)) (up (Go.Lib.decDigits n)) := by
  by_cases h1 : n < 10
  · exact l1Num_lo n h1
  · refine Ev.succ ?_
    simp only [spec_l1Num.f, Option.bind_some]
    rw [tdiv_nn (by omega), tmod_nn (by omega), show (n : Int) / 10 = ((n / 10 : Nat) : Int) by omega, show (n : Int) % 10 = ((n % 10 : Nat) : Int) by omega, wrap64_id (x := ((n / 10 : Nat) : Int)) (by omega) (by omega), dig (n % 10) (by omega)]
    refine Ev.neg (by omega) (Ev.bind (l1Num_lo (n / 10) (by omega)) ?_)
    have hl := dec_len (n / 10) (by omega)
    refine Ev.pos (by rw [up_size, up_size, List.length_singleton]; omega) (Ev.const ?_)
    rw [up_app, dec_hi n h1]
theorem l1Num_int (n : Int) (h : 0 ≤ n ∧ n < 100) : Ev (fun k => spec_l1Num.f k n) (up (Go.Lib.decDigits n.toNat)) := by
  have := l1Num_ev n.toNat (by omega)
  rw [show ((n.toNat : Nat) : Int) = n by omega] at this
  exact this
theorem itoa_eq (n : Int) (h : 0 ≤ n ∧ n < 100) : strconv_Itoa.f n = some (up (Go.Lib.decDigits n.toNat)) := by
  unfold strconv_Itoa.f
  rw [if_pos h]
theorem l1Read_loop (p : ByteArray) : ∀ (d i : Nat) (acc : Int), i + d = p.size → i ≤ 10 → p.size ≤ 10 → ∃ v, Ev (fun k => spec_l1Read.l0 k p acc (i : Int)) v := by
  intro d
  induction d with
  | zero =>
    intro i acc hi h1 h2
    refine ⟨acc, Ev.succ ?_⟩
    simp only [spec_l1Read.l0]
    exact Ev.neg (by omega) (Ev.now _)
  | succ d ih =>
    intro i acc hi h1 h2
    by_cases c1 : bt p (i : Int) < 48
    · refine ⟨-1, Ev.succ ?_⟩
      simp only [spec_l1Read.l0]
      exact Ev.pos (by omega) (Ev.pos (by omega) (Ev.pos c1 (Ev.now _)))
    · by_cases c2 : bt p (i : Int) > 57
      · refine ⟨-1, Ev.succ ?_⟩
        simp only [spec_l1Read.l0]
        exact Ev.pos (by omega) (Ev.pos (by omega) (Ev.neg c1 (Ev.pos c2 (Ev.now _))))
      · obtain ⟨v, hv⟩ := ih (i + 1) (wrap64 ((wrap64 (10 * acc)) + (((bt p (i : Int)) - 48) % 256))) (by omega) (by omega) h2
        refine ⟨v, Ev.succ ?_⟩
        simp only [spec_l1Read.l0]
        rw [show (i : Int) + 1 = ((i + 1 : Nat) : Int) by omega, wrap64_id (x := ((i + 1 : Nat) : Int)) (by omega) (by omega)]
        exact Ev.pos (by omega) (Ev.pos (by omega) (Ev.neg c1 (Ev.neg c2 hv)))
theorem l1Read_total (p : ByteArray) : ∃ v, Ev (fun k => spec_l1Read.f k p) v := by
  have hT : Ev (fun k => spec_l1Read.j0 k p true) (-1) := Ev.succ (by simp only [spec_l1Read.j0]; exact Ev.pos trivial (Ev.now _))
  unfold spec_l1Read.f
  simp only [l1In_eq, Option.bind_some]
  by_cases h : 1 ≤ (p.size : Int) ∧ (p.size : Int) ≤ 6
  · obtain ⟨v, hv⟩ := l1Read_loop p p.size 0 0 (by omega) (by omega) (by omega)
    have hF : Ev (fun k => spec_l1Read.j0 k p false) v := Ev.succ (by simp only [spec_l1Read.j0]; exact Ev.neg (by decide) hv)
    have hB : ∀ b, ∃ u, Ev (fun k => spec_l1Read.j0 k p b) u := fun b => by cases b; exact ⟨v, hF⟩; exact ⟨-1, hT⟩
    obtain ⟨u, hu⟩ := hB (decide ((p.size : Int) > 1))
    by_cases h0 : bt p 0 = 48
    · exact ⟨u, Ev.pos (by simpa using h) (Ev.pos (by omega) (Ev.pos h0 hu))⟩
    · exact ⟨v, Ev.pos (by simpa using h) (Ev.pos (by omega) (Ev.neg h0 hF))⟩
  · exact ⟨-1, Ev.neg (by simpa using h) hT⟩
theorem l1Read_step (s : List UInt8) (i d : Nat) (hi : i < s.length) (hs : s.length ≤ 10) (hd : d < 10) (hx : s[i] = UInt8.ofNat (48 + d)) (acc : Int) (ha : 0 ≤ acc ∧ acc < 1000) (R : Int)
    (h : Ev (fun k => spec_l1Read.l0 k (up s) (10 * acc + (d : Int)) ((i + 1 : Nat) : Int)) R) : Ev (fun k => spec_l1Read.l0 k (up s) acc (i : Int)) R := by
  have hz := up_isize s
  have hb : bt (up s) (i : Int) = 48 + (d : Int) := by
    rw [bt_nat (up s) i (by rw [L_mk]; exact hi)]
    have e : (L (up s))[i]'(by rw [L_mk]; exact hi) = s[i] := by simp [L]
    rw [e, hx, dg_nat d hd]; omega
  refine Ev.succ ?_
  simp only [spec_l1Read.l0]
  rw [hb, show (i : Int) + 1 = ((i + 1 : Nat) : Int) by omega, wrap64_id (x := ((i + 1 : Nat) : Int)) (by omega) (by omega), wrap64_id (x := 10 * acc) (by omega) (by omega), show (48 + (d : Int) - 48) % 256 = (d : Int) by omega, wrap64_id (x := 10 * acc + (d : Int)) (by omega) (by omega)]
  exact Ev.pos (by omega) (Ev.pos (by omega) (Ev.neg (by omega) (Ev.neg (by omega) h)))
theorem l1Read_end (s : List UInt8) (v : Int) : Ev (fun k => spec_l1Read.l0 k (up s) v (s.length : Int)) v := by
  have hz := up_isize s
  refine Ev.succ ?_
  simp only [spec_l1Read.l0]
  exact Ev.neg (by omega) (Ev.now _)
theorem l1Read_dd (a : Int) (h : 0 ≤ a ∧ a < 100) : Ev (fun k => spec_l1Read.f k (up (dd a))) a := by
  unfold spec_l1Read.f
  simp only [l1In_eq, Option.bind_some]
  rcases dd_cases a h with ⟨d, hd, e0, e⟩ | ⟨x, d, hx0, hx, hd, e0, e⟩
  · rw [e]
    have hz := up_isize [UInt8.ofNat (48 + d)]
    simp only [List.length_cons, List.length_nil] at hz
    have hF : Ev (fun k => spec_l1Read.j0 k (up [UInt8.ofNat (48 + d)]) false) a := by
      refine Ev.succ ?_
      simp only [spec_l1Read.j0]
      refine Ev.neg (by decide) (l1Read_step _ 0 d (by simp) (by simp) hd rfl 0 (by omega) a ?_)
      have := l1Read_end [UInt8.ofNat (48 + d)] a
      rw [show 10 * (0 : Int) + (d : Int) = a by omega]
      exact this
    refine Ev.pos (decide_eq_true (by omega)) (Ev.pos (by omega) (Ev.iff (fun _ => ?_) (fun _ => hF)))
    rw [show decide (((up [UInt8.ofNat (48 + d)]).size : Int) > 1) = false from decide_eq_false (by omega)]
    exact hF
  · rw [e]
    have hz := up_isize [UInt8.ofNat (48 + x), UInt8.ofNat (48 + d)]
    simp only [List.length_cons, List.length_nil] at hz
    have hb : ¬ bt (up [UInt8.ofNat (48 + x), UInt8.ofNat (48 + d)]) 0 = 48 := by
      have h1 := bt_nat (up [UInt8.ofNat (48 + x), UInt8.ofNat (48 + d)]) 0 (by rw [L_mk]; simp)
      have e1 : (L (up [UInt8.ofNat (48 + x), UInt8.ofNat (48 + d)]))[0]'(by rw [L_mk]; simp) = UInt8.ofNat (48 + x) := by simp [L]
      rw [e1, dg_nat x hx] at h1
      have h2 : bt (up [UInt8.ofNat (48 + x), UInt8.ofNat (48 + d)]) 0 = ((48 + x : Nat) : Int) := h1
      omega
    refine Ev.pos (decide_eq_true (by omega)) (Ev.pos (by omega) (Ev.neg hb (Ev.succ ?_)))
    simp only [spec_l1Read.j0]
    refine Ev.neg (by decide) (l1Read_step _ 0 x (by simp) (by simp) hx rfl 0 (by omega) a (l1Read_step _ 1 d (by simp) (by simp) hd rfl _ (by omega) a ?_))
    have := l1Read_end [UInt8.ofNat (48 + x), UInt8.ofNat (48 + d)] a
    rw [show 10 * (10 * (0 : Int) + (x : Int)) + (d : Int) = a by omega]
    exact this
noncomputable def l1R (p : List UInt8) : Int := Classical.choose (l1Read_total (up p))
theorem l1R_ev (p : List UInt8) : Ev (fun k => spec_l1Read.f k (up p)) (l1R p) := Classical.choose_spec (l1Read_total (up p))
theorem atoi_ok {w : List UInt8} {v : Int} (hw : w.length ≤ 281474976710656) (h : Go.Lib.atoiAll w = .ok v) : strconv_Atoi.f (up w) = some (v, none) := by
  unfold strconv_Atoi.f
  rw [if_pos (by rw [up_size]; exact hw)]
  have e : (up w).data.toList = w := L_mk w
  rw [e, h]
theorem atoi_bad {w : List UInt8} (hw : w.length ≤ 281474976710656) (h : ∀ v, Go.Lib.atoiAll w ≠ .ok v) : ∃ x q, strconv_Atoi.f (up w) = some (x, some q) := by
  unfold strconv_Atoi.f
  rw [if_pos (by rw [up_size]; exact hw)]
  have e : (up w).data.toList = w := L_mk w
  rw [e]
  cases h0 : Go.Lib.atoiAll w
  · rename_i v; exact absurd h0 (h v)
  · exact ⟨_, _, rfl⟩
  · exact ⟨_, _, rfl⟩
theorem spSi_ev (f : Int) (l : Bool) (s : Int) (h : sigOK 100 f s) : Ev (fun k => spec_siText.f k f l s) (up (sgx f l s)) := by
  have h2 := h
  unfold sigOK at h2
  have hf := dd_len f (by omega)
  have hs := dd_len s (by omega)
  unfold spec_siText.f sgx
  refine Ev.iff (fun hl => ?_) (fun hl => ?_)
  · have e1 : up (dd f) ++ (⟨#[60]⟩ : ByteArray) = up (dd f ++ [60]) := up_app _ [60]
    refine Ev.bind (l1Num_int f (by omega)) (Ev.pos (by rw [up_size]; unfold dd at hf; omega) (Ev.bind (l1Num_int s (by omega)) ?_))
    show Ev (fun k => if (up (dd f) ++ (⟨#[60]⟩ : ByteArray)).size + (up (dd s)).size ≤ 9223372036854775807 then some ((up (dd f) ++ (⟨#[60]⟩ : ByteArray)) ++ up (dd s)) else none) _
    rw [e1]
    refine Ev.pos (by rw [up_size, up_size, List.length_append, List.length_singleton]; omega) (Ev.const ?_)
    rw [up_app, if_pos hl]; simp
  · have e1 : up (dd f) ++ (⟨#[62]⟩ : ByteArray) = up (dd f ++ [62]) := up_app _ [62]
    refine Ev.bind (l1Num_int f (by omega)) (Ev.pos (by rw [up_size]; unfold dd at hf; omega) (Ev.bind (l1Num_int s (by omega)) ?_))
    show Ev (fun k => if (up (dd f) ++ (⟨#[62]⟩ : ByteArray)).size + (up (dd s)).size ≤ 9223372036854775807 then some ((up (dd f) ++ (⟨#[62]⟩ : ByteArray)) ++ up (dd s)) else none) _
    rw [e1]
    refine Ev.pos (by rw [up_size, up_size, List.length_append, List.length_singleton]; omega) (Ev.const ?_)
    rw [up_app, if_neg hl]; simp
theorem imSi_eq (f : Int) (l : Bool) (s : Int) (h : sigOK 100 f s) : impl_signalText.f f l s = some (up (sgx f l s)) := by
  have h2 := h
  unfold sigOK at h2
  have hf := dd_len f (by omega)
  have hs := dd_len s (by omega)
  have e1 : up (dd f) ++ (⟨#[60]⟩ : ByteArray) = up (dd f ++ [60]) := up_app _ [60]
  have e2 : up (dd f) ++ (⟨#[62]⟩ : ByteArray) = up (dd f ++ [62]) := up_app _ [62]
  have i1 : strconv_Itoa.f f = some (up (dd f)) := itoa_eq f (by omega)
  have i2 : strconv_Itoa.f s = some (up (dd s)) := itoa_eq s (by omega)
  unfold impl_signalText.f sgx
  rw [i1, i2]
  simp only [Option.bind_some]
  rw [e1, e2]
  by_cases hl : l = true
  · rw [if_pos hl, if_pos (by rw [up_size]; omega), if_pos (by rw [up_size, up_size, List.length_append, List.length_singleton]; omega), if_pos hl, up_app]
    simp
  · rw [if_neg hl, if_pos (by rw [up_size]; omega), if_pos (by rw [up_size, up_size, List.length_append, List.length_singleton]; omega), if_neg hl, up_app]
    simp
abbrev sbad : Int × Bool × Int × Bool := (0, false, 0, false)
def sok (s : List UInt8) (R : Int × Bool × Int × Bool) : Prop := R = sbad ∨ ∃ f l x, sigOK 100 f x ∧ s = sgx f l x ∧ R = (f, l, x, true)
theorem any_eq (w : List UInt8) (hw : w.length ≤ 1048576) : strings_IndexAny.f (up w) (⟨#[60, 62]⟩ : ByteArray) = some (Go.Lib.indexAny w [60, 62]) := by
  unfold strings_IndexAny.f
  have e : (up w).data.toList = w := L_mk w
  rw [if_pos ⟨by rw [up_size]; omega, rfl⟩, e]
theorem atoi_tot (w : List UInt8) (hw : w.length ≤ 281474976710656) : ∃ x e, strconv_Atoi.f (up w) = some (x, e) := by
  by_cases h : ∃ v, Go.Lib.atoiAll w = .ok v
  · obtain ⟨v, h⟩ := h
    exact ⟨v, none, atoi_ok hw h⟩
  · obtain ⟨x, q, h2⟩ := atoi_bad hw (fun v h3 => h ⟨v, h3⟩)
    exact ⟨x, some q, h2⟩
theorem imS (w : List UInt8) (hw : w.length ≤ 1048576) : ∃ R, impl_ParseSignal.f (up w) = some R ∧ sok w R := by
  have hz := up_isize w
  unfold impl_ParseSignal.f
  rw [any_eq w hw]
  simp only [Option.bind_some]
  have hlt := indexAny_lt [60, 62] w
  generalize Go.Lib.indexAny w [60, 62] = k at hlt
  by_cases hk : k < 0
  · rw [if_pos hk]; exact ⟨sbad, rfl, .inl rfl⟩
  · obtain ⟨n, rfl⟩ : ∃ n : Nat, k = n := ⟨k.toNat, by omega⟩
    have e1 : (n : Int) + 1 = ((n + 1 : Nat) : Int) := by omega
    rw [if_neg hk, if_pos (by omega), if_pos (by omega), e1, wrap64_id (x := ((n + 1 : Nat) : Int)) (by omega) (by omega), Int.toNat_natCast, Int.toNat_natCast, up_take, up_drop]
    obtain ⟨x1, q1, h1⟩ := atoi_tot (w.take n) (by simp; omega)
    obtain ⟨x2, q2, h2⟩ := atoi_tot (w.drop (n + 1)) (by simp; omega)
    rw [h1, h2]
    simp only [Option.bind_some]
    rw [if_pos (by omega), if_pos (by omega), if_pos (by omega)]
    simp only [isSignal_eq, Option.bind_some]
    generalize (bt (up w) (n : Int) == 60) = l
    by_cases c1 : q1.isNone = true
    · rw [if_pos c1]
      by_cases c2 : q2.isNone = true
      · rw [if_pos c2]
        by_cases c3 : sigOK 100 x1 x2
        · rw [if_pos (by simpa using c3), imSi_eq x1 l x2 c3]
          simp only [Option.bind_some]
          rw [toList_L, toList_L, L_mk, L_mk]
          by_cases c4 : sgx x1 l x2 = w
          · rw [if_pos c4]; exact ⟨_, rfl, .inr ⟨x1, l, x2, c3, c4.symm, rfl⟩⟩
          · rw [if_neg c4]; exact ⟨_, rfl, .inl rfl⟩
        · rw [if_neg (by simpa using c3)]; exact ⟨_, rfl, .inl rfl⟩
      · rw [if_neg c2]; exact ⟨_, rfl, .inl rfl⟩
    · rw [if_neg c1]; exact ⟨_, rfl, .inl rfl⟩
theorem bool60 (l : Bool) : ((if l = true then (60 : Int) else 62) == 60) = l := by cases l <;> rfl
theorem imG (f : Int) (l : Bool) (x : Int) (h : sigOK 100 f x) : impl_ParseSignal.f (up (sgx f l x)) = some (f, l, x, true) := by
  have h2 := h
  unfold sigOK at h2
  obtain ⟨hl, hl1, hl2⟩ := sgx_len f l x (by omega) (by omega)
  have hz := up_isize (sgx f l x)
  have e1 : ((dd f).length : Int) + 1 = (((dd f).length + 1 : Nat) : Int) := by omega
  have a1 : strconv_Atoi.f (up (dd f)) = some (f, none) := atoi_ok (by omega) (atoi_dd f (by omega))
  have a2 : strconv_Atoi.f (up (dd x)) = some (x, none) := atoi_ok (by omega) (atoi_dd x (by omega))
  unfold impl_ParseSignal.f
  rw [any_eq _ (by omega), sgx_any f l x (by omega)]
  simp only [Option.bind_some]
  rw [if_neg (by omega), if_pos (by omega), if_pos (by omega), e1, wrap64_id (x := (((dd f).length + 1 : Nat) : Int)) (by omega) (by omega), Int.toNat_natCast, Int.toNat_natCast, up_take, up_drop, sgx_take, sgx_drop, a1, a2]
  simp only [Option.bind_some]
  rw [if_pos (by omega), if_pos (by omega), if_pos (by omega), sgx_bt, bool60]
  simp only [isSignal_eq, Option.bind_some]
  rw [if_pos (show (none : Option Int).isNone = true from rfl), if_pos (show (none : Option Int).isNone = true from rfl), if_pos (by simpa using h), imSi_eq f l x h]
  simp only [Option.bind_some]
  first | rw [if_pos rfl] | rw [if_pos trivial]
theorem spStep (w : List UInt8) (hw : w.length ≤ 6) (i : Nat) (hi : i < w.length) (R : Int × Bool × Int × Bool) (hR : Ev (fun k => spec_ParseSignal.l0 k (up w) ((i + 1 : Nat) : Int)) R) (hok : sok w R) : ∃ R', Ev (fun k => spec_ParseSignal.l0 k (up w) (i : Int)) R' ∧ sok w R' := by
  have hz := up_isize w
  have e1 : (i : Int) + 1 = ((i + 1 : Nat) : Int) := by omega
  have hskip : Ev (fun k => spec_ParseSignal.j1 k (up w) (i : Int) true) R := by
    refine Ev.succ ?_
    simp only [spec_ParseSignal.j1]
    rw [e1, wrap64_id (x := ((i + 1 : Nat) : Int)) (by omega) (by omega)]
    exact Ev.pos trivial hR
  have htry : ∃ R', Ev (fun k => spec_ParseSignal.j1 k (up w) (i : Int) false) R' ∧ sok w R' := by
    have key : ∀ l : Bool, ∃ R', Ev (fun k => (spec_siSignal.f 100 (l1R (w.take i)) l (l1R (w.drop (i + 1)))).bind fun t123 => (if t123 = true then ((spec_siText.f k (l1R (w.take i)) l (l1R (w.drop (i + 1)))).bind fun t124 => (if t124.toList = (up w).toList then (some (l1R (w.take i), l, l1R (w.drop (i + 1)), true)) else (spec_ParseSignal.l0 k (up w) ((i + 1 : Nat) : Int)))) else (spec_ParseSignal.l0 k (up w) ((i + 1 : Nat) : Int)))) R' ∧ sok w R' := by
      intro l
      simp only [siSignal_eq, Option.bind_some]
      by_cases c3 : sigOK 100 (l1R (w.take i)) (l1R (w.drop (i + 1)))
      · by_cases c4 : sgx (l1R (w.take i)) l (l1R (w.drop (i + 1))) = w
        · refine ⟨_, Ev.pos (by simpa using c3) (Ev.bind (spSi_ev _ l _ c3) (Ev.pos ?_ (Ev.now _))), .inr ⟨_, _, _, c3, c4.symm, rfl⟩⟩
          rw [c4]
        · refine ⟨R, Ev.pos (by simpa using c3) (Ev.bind (spSi_ev _ l _ c3) (Ev.neg ?_ hR)), hok⟩
          rw [toList_L, toList_L, L_mk, L_mk]; exact c4
      · exact ⟨R, Ev.neg (by simpa using c3) hR, hok⟩
    obtain ⟨R', k1, k2⟩ := key (bt (up w) (i : Int) == 60)
    refine ⟨R', Ev.succ ?_, k2⟩
    simp only [spec_ParseSignal.j1]
    rw [e1, wrap64_id (x := ((i + 1 : Nat) : Int)) (by omega) (by omega), Int.toNat_natCast, Int.toNat_natCast, up_take, up_drop]
    exact Ev.neg (by decide) (Ev.pos (by omega) (Ev.pos (by omega) (Ev.bind (l1R_ev _) (Ev.pos (by omega) (Ev.pos (by omega) (Ev.pos (by omega) (Ev.bind (l1R_ev _) k1)))))))
  obtain ⟨R', k1, k2⟩ := htry
  by_cases c1 : bt (up w) (i : Int) = 60
  · refine ⟨R', Ev.succ ?_, k2⟩
    simp only [spec_ParseSignal.l0]
    exact Ev.pos (by omega) (Ev.pos (by omega) (Ev.pos c1 k1))
  · by_cases c2 : bt (up w) (i : Int) = 62
    · refine ⟨R', Ev.succ ?_, k2⟩
      simp only [spec_ParseSignal.l0]
      rw [show (bt (up w) (i : Int) != 62) = false by simpa using c2]
      exact Ev.pos (by omega) (Ev.pos (by omega) (Ev.neg c1 k1))
    · refine ⟨R, Ev.succ ?_, hok⟩
      simp only [spec_ParseSignal.l0]
      rw [show (bt (up w) (i : Int) != 62) = true by simpa using c2]
      exact Ev.pos (by omega) (Ev.pos (by omega) (Ev.neg c1 hskip))
theorem spS_loop (w : List UInt8) (hw : w.length ≤ 6) : ∀ (d i : Nat), i + d = w.length → ∃ R, Ev (fun k => spec_ParseSignal.l0 k (up w) (i : Int)) R ∧ sok w R := by
  have hz := up_isize w
  intro d
  induction d with
  | zero =>
    intro i hi
    refine ⟨sbad, Ev.succ ?_, .inl rfl⟩
    simp only [spec_ParseSignal.l0]
    exact Ev.neg (by omega) (Ev.now _)
  | succ d ih =>
    intro i hi
    obtain ⟨R, h1, h2⟩ := ih (i + 1) (by omega)
    exact spStep w hw i (by omega) R h1 h2
theorem spS (w : List UInt8) : ∃ R, Ev (fun k => spec_ParseSignal.f k (up w)) R ∧ sok w R := by
  have hz := up_isize w
  unfold spec_ParseSignal.f
  by_cases h : w.length ≤ 6
  · obtain ⟨R, h1, h2⟩ := spS_loop w h w.length 0 (by omega)
    exact ⟨R, Ev.neg (by omega) h1, h2⟩
  · exact ⟨sbad, Ev.pos (by omega) (Ev.now _), .inl rfl⟩
theorem spG_skip (w : List UInt8) (hw : w.length ≤ 6) (n : Nat) (hn : n < w.length) (hs : ∀ i (h : i < n), w[i]'(by omega) ≠ 60 ∧ w[i]'(by omega) ≠ 62) (R : Int × Bool × Int × Bool) (hR : Ev (fun k => spec_ParseSignal.l0 k (up w) (n : Int)) R) : ∀ (d i : Nat), i + d = n → Ev (fun k => spec_ParseSignal.l0 k (up w) (i : Int)) R := by
  have hz := up_isize w
  intro d
  induction d with
  | zero => intro i hi; obtain rfl : i = n := by omega
            exact hR
  | succ d ih =>
    intro i hi
    have h1 := ih (i + 1) (by omega)
    obtain ⟨n1, n2⟩ := hs i (by omega)
    have c1 : ¬ bt (up w) (i : Int) = 60 := fun e => n1 ((up_bt w i (by omega) 60).1 e)
    have c2 : ¬ bt (up w) (i : Int) = 62 := fun e => n2 ((up_bt w i (by omega) 62).1 e)
    refine Ev.succ ?_
    simp only [spec_ParseSignal.l0]
    rw [show (bt (up w) (i : Int) != 62) = true by simpa using c2]
    refine Ev.pos (by omega) (Ev.pos (by omega) (Ev.neg c1 (Ev.succ ?_)))
    simp only [spec_ParseSignal.j1]
    rw [show (i : Int) + 1 = ((i + 1 : Nat) : Int) by omega, wrap64_id (x := ((i + 1 : Nat) : Int)) (by omega) (by omega)]
    exact Ev.pos trivial h1
theorem spG (f : Int) (l : Bool) (x : Int) (h : sigOK 100 f x) : Ev (fun k => spec_ParseSignal.f k (up (sgx f l x))) (f, l, x, true) := by
  have h2 := h
  unfold sigOK at h2
  obtain ⟨hl, hl1, hl2⟩ := sgx_len f l x (by omega) (by omega)
  have hz := up_isize (sgx f l x)
  have e1 : ((dd f).length : Int) + 1 = (((dd f).length + 1 : Nat) : Int) := by omega
  have hj : Ev (fun k => spec_ParseSignal.j1 k (up (sgx f l x)) ((dd f).length : Int) false) (f, l, x, true) := by
    refine Ev.succ ?_
    simp only [spec_ParseSignal.j1]
    rw [e1, wrap64_id (x := (((dd f).length + 1 : Nat) : Int)) (by omega) (by omega), Int.toNat_natCast, Int.toNat_natCast, up_take, up_drop, sgx_take, sgx_drop, sgx_bt, bool60]
    refine Ev.neg (by decide) (Ev.pos (by omega) (Ev.pos (by omega) (Ev.bind (l1Read_dd f (by omega)) (Ev.pos (by omega) (Ev.pos (by omega) (Ev.pos (by omega) (Ev.bind (l1Read_dd x (by omega)) ?_)))))))
    simp only [siSignal_eq, Option.bind_some]
    exact Ev.pos (by simpa using h) (Ev.bind (spSi_ev f l x h) (Ev.pos rfl (Ev.now _)))
  have h0 : Ev (fun k => spec_ParseSignal.l0 k (up (sgx f l x)) ((dd f).length : Int)) (f, l, x, true) := by
    refine Ev.succ ?_
    simp only [spec_ParseSignal.l0]
    rw [sgx_bt]
    refine Ev.pos (by omega) (Ev.pos (by omega) ?_)
    cases l
    · exact Ev.neg (by decide) hj
    · exact Ev.pos (by decide) hj
  unfold spec_ParseSignal.f
  refine Ev.neg (by omega) (spG_skip _ (by omega) (dd f).length (by omega) (fun i hi => ?_) _ h0 (dd f).length 0 (by omega))
  have e : (sgx f l x)[i]'(by omega) = (dd f)[i] := by unfold sgx; rw [List.getElem_append_left hi]
  have hm : (dd f)[i] ∈ dd f := List.getElem_mem hi
  rw [e]
  exact ⟨fun e => dd_mem f (by omega) 60 (by decide) (e ▸ hm), fun e => dd_mem f (by omega) 62 (by decide) (e ▸ hm)⟩
theorem par_both (w : List UInt8) (hw : w.length ≤ 1048576) : ∃ R, impl_ParseSignal.f (up w) = some R ∧ Ev (fun k => spec_ParseSignal.f k (up w)) R ∧ sok w R := by
  obtain ⟨R, h1, h2⟩ := imS w hw
  obtain ⟨R', h3, h4⟩ := spS w
  rcases h2 with h2 | ⟨f, l, x, c, rfl, rfl⟩
  · rcases h4 with h4 | ⟨f, l, x, c, rfl, rfl⟩
    · subst h2; subst h4; exact ⟨_, h1, h3, .inl rfl⟩
    · rw [imG f l x c] at h1
      rw [h2] at h1
      cases h1
  · exact ⟨_, h1, spG f l x c, .inr ⟨f, l, x, c, rfl, rfl⟩⟩
theorem vSame_loop (l : List Int) (hl : l.length ≤ 1000000) : ∀ (d i : Nat), i + d = l.length → Ev (fun k => laws_vSame.l0 k l l (l.length : Int) (i : Int)) true := by
  intro d
  induction d with
  | zero =>
    intro i h
    refine Ev.succ ?_
    simp only [laws_vSame.l0]
    exact Ev.neg (by omega) (Ev.now _)
  | succ d ih =>
    intro i h
    refine Ev.succ ?_
    simp only [laws_vSame.l0]
    rw [show (i : Int) + 1 = ((i + 1 : Nat) : Int) by omega, wrap64_id (x := ((i + 1 : Nat) : Int)) (by omega) (by omega)]
    exact Ev.pos (by omega) (Ev.pos (by omega) (Ev.pos (by omega) (Ev.pos (by omega) (Ev.pos (by first | rfl | trivial) (ih (i + 1) (by omega))))))
theorem vSame_ev (l : List Int) (hl : l.length ≤ 1000000) : Ev (fun k => laws_vSame.f k l l) true := by
  unfold laws_vSame.f
  exact Ev.pos rfl (vSame_loop l hl l.length 0 (by omega))
theorem vRises_loop (l : List Int) (hl : l.length ≤ 1000000) (hp : l.Pairwise (· < ·)) : ∀ (d i : Nat), i + 1 + d = l.length → Ev (fun k => laws_vRises.l0 k l ((i + 1 : Nat) : Int)) true := by
  intro d
  induction d with
  | zero =>
    intro i h
    refine Ev.succ ?_
    simp only [laws_vRises.l0]
    exact Ev.neg (by omega) (Ev.now _)
  | succ d ih =>
    intro i h
    refine Ev.succ ?_
    simp only [laws_vRises.l0]
    have := List.pairwise_iff_getElem.1 hp i (i + 1) (by omega) (by omega) (by omega)
    have e0 : ∀ (j : Nat) (h : j < l.length), rd l (j : Int) = l[j] := fun j h => by simp [rd, h]
    have e1 := e0 i (by omega)
    have e2 := e0 (i + 1) (by omega)
    rw [wrap64_id (x := ((i + 1 : Nat) : Int) - 1) (by omega) (by omega), show ((i + 1 : Nat) : Int) - 1 = (i : Int) by omega, e1, e2, show ((i + 1 : Nat) : Int) + 1 = ((i + 1 + 1 : Nat) : Int) by omega, wrap64_id (x := ((i + 1 + 1 : Nat) : Int)) (by omega) (by omega)]
    exact Ev.pos (by omega) (Ev.pos (by omega) (Ev.pos (by omega) (Ev.pos (by omega) (Ev.neg (by omega) (ih (i + 1) (by omega))))))
theorem vRises_ev (l : List Int) (hl : l.length ≤ 1000000) (hp : l.Pairwise (· < ·)) : Ev (fun k => laws_vRises.f k l) true := by
  unfold laws_vRises.f
  by_cases c : l.length = 0
  · refine Ev.succ ?_
    simp only [laws_vRises.l0]
    exact Ev.neg (by omega) (Ev.now _)
  · exact vRises_loop l hl hp (l.length - 1) 0 (by omega)
theorem vHas_loop (l : List Int) (x : Int) (hl : l.length ≤ 1000000) : ∀ (d i : Nat), i + d = l.length → Ev (fun k => laws_vHas.l0 k x l (l.length : Int) (i : Int)) (decide (x ∈ l.drop i)) := by
  intro d
  induction d with
  | zero =>
    intro i h
    refine Ev.succ ?_
    simp only [laws_vHas.l0]
    rw [List.drop_of_length_le (by omega)]
    exact Ev.neg (by omega) (Ev.const (by simp))
  | succ d ih =>
    intro i h
    refine Ev.succ ?_
    simp only [laws_vHas.l0]
    rw [rd_cons_drop (show i < l.length by omega), show (i : Int) + 1 = ((i + 1 : Nat) : Int) by omega, wrap64_id (x := ((i + 1 : Nat) : Int)) (by omega) (by omega)]
    refine Ev.pos (by omega) (Ev.pos (by omega) (Ev.pos (by omega) (Ev.iff (fun c => ?_) (fun c => ?_))))
    · rw [decide_eq_true (by rw [c]; simp)]; exact Ev.now _
    · have := ih (i + 1) (by omega)
      rw [show decide (x ∈ rd l (i : Int) :: l.drop (i + 1)) = decide (x ∈ l.drop (i + 1)) from decide_eq_decide.2 (by rw [List.mem_cons]; exact ⟨fun h => h.resolve_left (fun e => c e.symm), .inr⟩)]
      exact this
theorem vHas_ev (l : List Int) (x : Int) (hl : l.length ≤ 1000000) : Ev (fun k => laws_vHas.f k l x) (decide (x ∈ l)) := by
  unfold laws_vHas.f
  have := vHas_loop l x hl l.length 0 (by omega)
  rw [List.drop_zero] at this
  exact this
theorem vMost_loop (l : List Int) (hl : l.length ≤ 1000000) : ∀ (d i : Nat) (m : Int), i + d = l.length → Ev (fun k => laws_vMost.l0 k m l (l.length : Int) (i : Int)) ((l.drop i).foldl mx m) := by
  intro d
  induction d with
  | zero =>
    intro i m h
    refine Ev.succ ?_
    simp only [laws_vMost.l0]
    rw [List.drop_of_length_le (by omega)]
    exact Ev.neg (by omega) (Ev.now _)
  | succ d ih =>
    intro i m h
    refine Ev.succ ?_
    simp only [laws_vMost.l0]
    rw [rd_cons_drop (show i < l.length by omega), List.foldl_cons, show (i : Int) + 1 = ((i + 1 : Nat) : Int) by omega, wrap64_id (x := ((i + 1 : Nat) : Int)) (by omega) (by omega)]
    refine Ev.pos (by omega) (Ev.pos (by omega) (Ev.pos (by omega) (Ev.iff (fun c => ?_) (fun c => ?_))))
    · rw [show mx m (rd l (i : Int)) = rd l (i : Int) by unfold mx; rw [if_pos (by omega)]]; exact ih (i + 1) _ (by omega)
    · rw [show mx m (rd l (i : Int)) = m by unfold mx; rw [if_neg (by omega)]]; exact ih (i + 1) _ (by omega)
theorem vMost_ev (l : List Int) (hl : l.length ≤ 1000000) : Ev (fun k => laws_vMost.f k l) (l.foldl mx 0) := by
  unfold laws_vMost.f
  have := vMost_loop l hl l.length 0 0 (by omega)
  rw [List.drop_zero] at this
  exact this
theorem least_any (n m : Int) (hn : 1 ≤ n ∧ n ≤ 100) (hm : 1 ≤ m ∧ m ≤ n) : ∀ (d : Nat) (t : Int), t + d = 101 → 0 ≤ t → (t = 0 ∨ m * (2 * (t - 1) + 1) < n) →
    ∃ r : Int, Ev (fun k => spec_siLeast.l0 k n m t) r ∧ Ev (fun k => impl_leastTimeWith.l0 k n m t) r ∧ 0 ≤ r ∧ n ≤ m * (2 * r + 1) ∧ (r = 0 ∨ m * (2 * (r - 1) + 1) < n) := by
  intro d
  induction d with
  | zero =>
    intro t h0 h1 h2
    exfalso
    obtain rfl : t = 101 := by omega
    rcases h2 with h2 | h2
    · omega
    · have : (201 : Int) * 1 ≤ m * 201 := by omega
      omega
  | succ d ih =>
    intro t h0 h1 h2
    have b0 : 0 ≤ m * (2 * t + 1) := Int.mul_nonneg (by omega) (by omega)
    have b1 : m * (2 * t + 1) ≤ 100 * 300 := Int.mul_le_mul (by omega) (by omega) (by omega) (by omega)
    by_cases hc : m * (2 * t + 1) < n
    · obtain ⟨r, e1, e2, h⟩ := ih (t + 1) (by omega) (by omega) (.inr (by rw [show t + 1 - 1 = t by omega]; exact hc))
      refine ⟨r, Ev.succ ?_, Ev.succ ?_, h⟩
      · simp only [spec_siLeast.l0]
        rw [wrap64_id (x := 2 * t) (by omega) (by omega), wrap64_id (x := 2 * t + 1) (by omega) (by omega), wrap64_id (x := m * (2 * t + 1)) (by omega) (by omega), wrap64_id (x := t + 1) (by omega) (by omega)]
        exact Ev.pos hc e1
      · simp only [impl_leastTimeWith.l0]
        rw [wrap64_id (x := 2 * t) (by omega) (by omega), wrap64_id (x := 2 * t + 1) (by omega) (by omega), Int.mul_comm (2 * t + 1) m, wrap64_id (x := m * (2 * t + 1)) (by omega) (by omega), wrap64_id (x := t + 1) (by omega) (by omega)]
        exact Ev.pos hc e2
    · refine ⟨t, Ev.succ ?_, Ev.succ ?_, h1, by omega, h2⟩
      · simp only [spec_siLeast.l0]
        rw [wrap64_id (x := 2 * t) (by omega) (by omega), wrap64_id (x := 2 * t + 1) (by omega) (by omega), wrap64_id (x := m * (2 * t + 1)) (by omega) (by omega)]
        exact Ev.neg hc (Ev.now _)
      · simp only [impl_leastTimeWith.l0]
        rw [wrap64_id (x := 2 * t) (by omega) (by omega), wrap64_id (x := 2 * t + 1) (by omega) (by omega), Int.mul_comm (2 * t + 1) m, wrap64_id (x := m * (2 * t + 1)) (by omega) (by omega)]
        exact Ev.neg hc (Ev.now _)
/-- What BestStarts and LeastTimeWith answer. -/
theorem best_more (n m : Int) : ∃ (R : List Int × Bool) (Q : Int × Bool), Ev (fun k => spec_BestStarts.f k n m) R ∧ Ev (fun k => impl_BestStarts.f k n m) R ∧ R.1.length ≤ 100 ∧
    Ev (fun k => impl_LeastTimeWith.f k n m) Q ∧ Ev (fun k => spec_LeastTimeWith.f k n m) Q ∧
    (R.2 = true → Q.2 = true ∧ (R.1.length : Int) = m ∧ stOK n R.1 ∧ mxs n R.1 = Q.1) := by
  have sig : ∀ a : Int, impl_isSignalRow.f a = some (decide (1 ≤ a ∧ a ≤ 100)) := by intro a; unfold impl_isSignalRow.f; rw [in_eq]; rfl
  unfold spec_BestStarts.f impl_BestStarts.f impl_LeastTimeWith.f spec_LeastTimeWith.f
  simp only [l1In_eq, in_eq, siSoldiers_eq, sig, Option.bind_some]
  by_cases hm : 1 ≤ m ∧ m ≤ n
  · by_cases hn' : 1 ≤ n ∧ n ≤ 100
    · obtain ⟨due, e1, e2, h0, h1, h2⟩ := least_any n m hn' hm 101 0 (by omega) (by omega) (.inl rfl)
      have q1 : Ev (fun k => impl_leastTimeWith.f k n m) due := by unfold impl_leastTimeWith.f; exact e2
      have q2 : Ev (fun k => spec_siLeast.f k n m) due := by unfold spec_siLeast.f; exact e1
      have Q1 : Ev (fun k => if decide (1 ≤ n ∧ n ≤ 100) = true then (if decide (1 ≤ m ∧ m ≤ n) = true then (impl_leastTimeWith.f k n m).bind fun t => some (t, true) else some (0, false)) else some (0, false)) (due, true) := Ev.pos (by simpa using hn') (Ev.pos (by simpa using hm) (Ev.bind q1 (Ev.now _)))
      have Q2 : Ev (fun k => if decide (1 ≤ n ∧ n ≤ 100) = true then (if decide (1 ≤ m ∧ m ≤ n) = true then (spec_siLeast.f k n m).bind fun t => some (t, true) else some (0, false)) else some (0, false)) (due, true) := Ev.pos (by simpa using hn') (Ev.pos (by simpa using hm) (Ev.bind q2 (Ev.now _)))
      by_cases hn : 1 ≤ n ∧ n ≤ 16
      · have hdn : due < n := by
          rcases h2 with h2 | h2
          · omega
          · rcases Int.lt_or_le due 1 with h | h
            · omega
            · have := Int.mul_le_mul_of_nonneg_right (show (1 : Int) ≤ m by omega) (show 0 ≤ 2 * (due - 1) + 1 by omega)
              rw [Int.one_mul] at this
              omega
        obtain ⟨f1, out, f2, f3, f4⟩ := look_ev n m due hn hm h0 h2 m.toNat [] 0 (by simp; omega) (by simp) (by omega) (by omega) (fun _ => rfl) (fun h => by simp at h)
        have hs := gud_srch n due m.toNat (by omega) (by omega) h0 hdn (by rw [show ((m.toNat : Nat) : Int) = m by omega]; exact h1)
        obtain ⟨o, ho⟩ := Option.isSome_iff_exists.1 hs
        have hlen := srch_len _ _ _ _ _ _ ho
        obtain ⟨p1, p2, p3⟩ := srch_ok n due m.toNat [] 0 o ho (by simp) (by simp) (by omega) (by omega)
        rw [ho] at f1 f2
        rw [f3 o ho] at f2
        have hl0 : o.length = m.toNat := by simpa using hlen
        have hge := mxs_ge n due o hn.1 (by omega) (by rcases h2 with h2 | h2; exact .inl h2; exact .inr (by rw [show (o.length : Int) = m by omega]; exact h2)) h0
        refine ⟨(o, true), (due, true), ?_, ?_, by simp only; omega, Q1, Q2, fun _ => ⟨rfl, by simp only; omega, ⟨hn'.1, hn'.2, by simp only; omega, ?_⟩, by simp only; omega⟩⟩
        · simp only [hn, hm, decide_true, if_true, Bool.not_true, and_self]
          refine Ev.succ ?_
          simp only [spec_BestStarts.j0, Bool.false_eq_true, if_false]
          exact Ev.bind q2 (Ev.bind f2 (Ev.now _))
        · simp only [hn, hm, decide_true, if_true, and_self]
          exact Ev.bind q1 (Ev.bind f1 (Ev.now _))
        · exact ris_of p1 (fun y hy => by have := p2 y hy; omega) o.length 0 (by omega)
      · refine ⟨([], false), (due, true), ?_, ?_, by simp, Q1, Q2, fun h => absurd h (by simp)⟩
        · simp only [hn, decide_false, Bool.false_eq_true, if_false]
          refine Ev.succ ?_
          simp only [spec_BestStarts.j0, if_true]
          exact Ev.now _
        · simp only [hn, decide_false, Bool.false_eq_true, if_false]
          exact Ev.now _
    · have hn : ¬ (1 ≤ n ∧ n ≤ 16) := by omega
      refine ⟨([], false), (0, false), ?_, ?_, by simp, Ev.neg (by simpa using hn') (Ev.now _), Ev.neg (by simpa using hn') (Ev.now _), fun h => absurd h (by simp)⟩
      · simp only [hn, decide_false, Bool.false_eq_true, if_false]
        refine Ev.succ ?_
        simp only [spec_BestStarts.j0, if_true]
        exact Ev.now _
      · simp only [hn, decide_false, Bool.false_eq_true, if_false]
        exact Ev.now _
  · refine ⟨([], false), (0, false), ?_, ?_, by simp, ?_, ?_, fun h => absurd h (by simp)⟩
    · refine Ev.iff (fun _ => ?_) (fun _ => ?_)
      · simp only [hm, decide_false, Bool.not_false]
        refine Ev.succ ?_
        simp only [spec_BestStarts.j0, if_true]
        exact Ev.now _
      · refine Ev.succ ?_
        simp only [spec_BestStarts.j0, if_true]
        exact Ev.now _
    · exact Ev.iff (fun _ => Ev.neg (by simpa using hm) (Ev.now _)) (fun _ => Ev.now _)
    · exact Ev.iff (fun _ => Ev.neg (by simpa using hm) (Ev.now _)) (fun _ => Ev.now _)
    · exact Ev.iff (fun _ => Ev.neg (by simpa using hm) (Ev.now _)) (fun _ => Ev.now _)
def mmt (k : Int) : Int × Int × Bool := if 2 ≤ k ∧ k ≤ 100 then ((3 * (k - 1) + 1) / 2, plc k 0 false 1 ((3 * (k - 1) + 1) / 2), true) else (0, 0, false)
theorem sigs13 {k : Int} (h : 2 ≤ k ∧ k ≤ 100) : sigOK k 0 1 ∧ sigOK k 0 3 := by unfold sigOK; omega
theorem imMM_ev (n : Int) : Ev (fun k => impl_MiddleMeeting.f k n) (mmt n) := by
  unfold impl_MiddleMeeting.f mmt
  rw [in_eq]
  simp only [Option.bind_some]
  refine Ev.iff (fun c => ?_) (fun c => ?_)
  · rw [decide_eq_true_eq] at c
    rw [if_pos c]
    have := imFirst_ev (l := false) (l' := false) (sigs13 c).1 (sigs13 c).2 1 (by omega) (by omega)
    rw [mid_fst c.1 c.2 _ (by decide), Option.getD_some] at this
    refine Ev.bind this ?_
    rw [place_eq (sigs13 c).1 (by omega) (by omega)]
    exact Ev.now _
  · rw [decide_eq_true_eq] at c
    rw [if_neg c]; exact Ev.now _
theorem spMM_loop {n : Int} (h : 2 ≤ n ∧ n ≤ 100) : ∀ (d : Nat) (t : Int), 1 ≤ t → 100001 - t = d → ∀ q, fst (mtg n 0 false 1 0 false 3) t d = some q →
    Ev (fun k => spec_MiddleMeeting.l0 k n t 0 false 1 0 false 3) (q, plc n 0 false 1 q, true) := by
  intro d
  induction d with
  | zero => intro t h0 h1 q hq; simp [fst] at hq
  | succ d ih =>
    intro t h0 h1 q hq
    refine Ev.succ ?_
    simp only [spec_MiddleMeeting.l0]
    refine Ev.pos (by omega) (Ev.bind (siMeet_ev (l := false) (l' := false) (sigs13 h).1 (sigs13 h).2 (by omega) (by omega)) ?_)
    rw [wrap64_id (x := t + 1) (by omega) (by omega)]
    simp only [fst] at hq
    refine Ev.iff (fun hc => ?_) (fun hc => ?_)
    · rw [if_pos hc] at hq
      obtain rfl := Option.some.inj hq
      rw [siAt_eq (sigs13 h).1 (by omega) (by omega)]
      exact Ev.now _
    · rw [if_neg hc] at hq
      exact ih (t + 1) (by omega) (by omega) q hq
theorem spMM_ev (n : Int) : Ev (fun k => spec_MiddleMeeting.f k n) (mmt n) := by
  unfold spec_MiddleMeeting.f mmt
  rw [siSoldiers_eq]
  simp only [Option.bind_some]
  by_cases c : 2 ≤ n ∧ n ≤ 100
  · rw [if_pos c]
    refine Ev.pos (by rw [decide_eq_true_eq]; omega) (Ev.succ ?_)
    simp only [spec_MiddleMeeting.j0]
    refine Ev.neg (by simp; omega) (spMM_loop c 100000 1 (by omega) (by omega) _ (mid_fst c.1 c.2 _ (by decide)))
  · rw [if_neg c]
    refine Ev.iff (fun h => Ev.succ ?_) (fun h => Ev.succ ?_)
    · rw [decide_eq_true_eq] at h
      simp only [spec_MiddleMeeting.j0]
      exact Ev.pos (by simp; omega) (Ev.now _)
    · simp only [spec_MiddleMeeting.j0]
      exact Ev.pos (by first | rfl | trivial) (Ev.now _)
def lstw (n a : Int) : Int := mx a (n - 1 - a)
def wfr (n a : Int) : List Int × Bool := if (1 ≤ n ∧ n ≤ 100) ∧ 0 ≤ a ∧ a ≤ n - 1 then (tbl (fun i => lstw n a - mx (i - a) (a - i)) 0 n.toNat, true) else ([], false)
theorem lstw_bd {n a : Int} (h : 0 ≤ a ∧ a ≤ n - 1) : 0 ≤ lstw n a ∧ lstw n a < n := by unfold lstw mx; split <;> omega
theorem near_at {n a i : Int} (h : 0 ≤ a ∧ a ≤ n - 1) (h0 : 0 ≤ i) (h1 : i < n) : near i n [a] = mx (i - a) (a - i) := by
  rw [near_one]; unfold mn mx; repeat' split
  all_goals omega
theorem mxs_at {n a : Int} (h : 0 ≤ a ∧ a ≤ n - 1) : mxs n [a] = lstw n a := by
  have hb := lstw_bd h
  have h1 := (mxs_le n [a] (lstw n a) (by omega) hb.1 hb.2).2 (fun q h0 h1 => by
    simp only [cvd, List.any_cons, List.any_nil, Bool.or_false, decide_eq_true_eq]
    unfold lstw mx; repeat' split
    all_goals omega)
  have h0 := mxs_nn n [a]
  rcases Int.lt_or_le (mxs n [a]) (lstw n a) with c | c
  · exfalso
    have h2 := (mxs_le n [a] (lstw n a - 1) (by omega) (by omega) (by omega)).1 (by omega)
    have q0 := h2 0 (by omega) (by omega)
    have q1 := h2 (n - 1) (by omega) (by omega)
    simp only [cvd, List.any_cons, List.any_nil, Bool.or_false, decide_eq_true_eq] at q0 q1
    unfold lstw mx at q0 q1
    repeat' split at q0
    all_goals (repeat' split at q1)
    all_goals omega
  · omega
theorem imWF_loop (n a : Int) (hn : 1 ≤ n ∧ n ≤ 100) (ha : 0 ≤ a ∧ a ≤ n - 1) : ∀ (d i : Nat) (acc : List Int), (i : Int) + d = n → acc.length ≤ i →
    Ev (fun k => impl_WaitsFor.l0 k a acc (lstw n a) n (i : Int)) (acc ++ tbl (fun i => lstw n a - mx (i - a) (a - i)) (i : Int) d, true) := by
  intro d
  induction d with
  | zero =>
    intro i acc h hc
    refine Ev.succ ?_
    simp only [impl_WaitsFor.l0, tbl, List.append_nil]
    exact Ev.neg (by omega) (Ev.now _)
  | succ d ih =>
    intro i acc h hc
    have hb := lstw_bd ha
    have hm : 0 ≤ mx ((i : Int) - a) (a - i) ∧ mx ((i : Int) - a) (a - i) ≤ n := by unfold mx; split <;> omega
    refine Ev.succ ?_
    simp only [impl_WaitsFor.l0, impl_away.f, Option.bind_some]
    rw [wrap64_id (x := (i : Int) - a) (by omega) (by omega), wrap64_id (x := a - (i : Int)) (by omega) (by omega), wrap64_id (x := lstw n a - mx ((i : Int) - a) (a - i)) (by omega) (by omega), show (i : Int) + 1 = ((i + 1 : Nat) : Int) by omega, wrap64_id (x := ((i + 1 : Nat) : Int)) (by omega) (by omega)]
    have := ih (i + 1) (acc ++ [lstw n a - mx ((i : Int) - a) (a - i)]) (by omega) (by simp; omega)
    rw [List.append_assoc, List.singleton_append] at this
    refine Ev.pos (by omega) (Ev.pos (by omega) ?_)
    rw [show tbl (fun i => lstw n a - mx (i - a) (a - i)) (i : Int) (d + 1) = (lstw n a - mx ((i : Int) - a) (a - i)) :: tbl (fun i => lstw n a - mx (i - a) (a - i)) ((i + 1 : Nat) : Int) d by simp only [tbl]; rfl]
    exact this
theorem imWF_ev (n a : Int) (hn64 : I64 n) (ha64 : I64 a) : Ev (fun k => impl_WaitsFor.f k n a) (wfr n a) := by
  have sig : ∀ a : Int, impl_isSignalRow.f a = some (decide (1 ≤ a ∧ a ≤ 100)) := by intro a; unfold impl_isSignalRow.f; rw [in_eq]; rfl
  unfold impl_WaitsFor.f wfr
  rw [sig, in_eq]
  simp only [Option.bind_some]
  refine Ev.iff (fun h => ?_) (fun h => Ev.succ ?_)
  · rw [decide_eq_true_eq] at h
    rw [wrap64_id (x := n - 1) (by omega) (by omega)]
    by_cases c : 0 ≤ a ∧ a ≤ n - 1
    · rw [if_pos ⟨h, c⟩, decide_eq_true c]
      refine Ev.succ ?_
      simp only [impl_WaitsFor.j0]
      rw [wrap64_id (x := n - 1) (by omega) (by omega), wrap64_id (x := n - 1 - a) (by omega) (by omega)]
      have := imWF_loop n a h c n.toNat 0 [] (by omega) (by simp)
      rw [List.nil_append] at this
      exact Ev.neg (by decide) this
    · rw [if_neg (fun x => c x.2), decide_eq_false c]
      refine Ev.succ ?_
      simp only [impl_WaitsFor.j0]
      exact Ev.pos (by first | rfl | trivial) (Ev.now _)
  · simp only [impl_WaitsFor.j0]
    rw [if_neg (fun x => h (by rw [decide_eq_true_eq]; exact x.1))]
    exact Ev.pos (by first | rfl | trivial) (Ev.now _)
theorem spWF_loop (n a : Int) (hn : 1 ≤ n ∧ n ≤ 100) (ha : 0 ≤ a ∧ a ≤ n - 1) : ∀ (d i : Nat) (acc : List Int), (i : Int) + d = n → acc.length ≤ i →
    Ev (fun k => spec_WaitsFor.l0 k (lstw n a) acc (spr n [a] 0 n.toNat) (n.toNat : Int) (i : Int)) (acc ++ tbl (fun i => lstw n a - mx (i - a) (a - i)) (i : Int) d, true) := by
  intro d
  induction d with
  | zero =>
    intro i acc h hc
    refine Ev.succ ?_
    simp only [spec_WaitsFor.l0, tbl, List.append_nil]
    exact Ev.neg (by omega) (Ev.now _)
  | succ d ih =>
    intro i acc h hc
    have hb := lstw_bd ha
    have hz := spr_len n [a] n.toNat 0
    have hm : 0 ≤ mx ((i : Int) - a) (a - i) ∧ mx ((i : Int) - a) (a - i) ≤ n := by unfold mx; split <;> omega
    have hr := spr_rd n [a] n.toNat 0 i (by omega)
    rw [Int.zero_add, near_at ha (by omega) (by omega)] at hr
    refine Ev.succ ?_
    simp only [spec_WaitsFor.l0]
    rw [hr, wrap64_id (x := lstw n a - mx ((i : Int) - a) (a - i)) (by omega) (by omega), show (i : Int) + 1 = ((i + 1 : Nat) : Int) by omega, wrap64_id (x := ((i + 1 : Nat) : Int)) (by omega) (by omega)]
    have := ih (i + 1) (acc ++ [lstw n a - mx ((i : Int) - a) (a - i)]) (by omega) (by simp; omega)
    rw [List.append_assoc, List.singleton_append] at this
    refine Ev.pos (by omega) (Ev.pos (by omega) (Ev.pos (by omega) (Ev.pos (by omega) ?_)))
    rw [show tbl (fun i => lstw n a - mx (i - a) (a - i)) (i : Int) (d + 1) = (lstw n a - mx ((i : Int) - a) (a - i)) :: tbl (fun i => lstw n a - mx (i - a) (a - i)) ((i + 1 : Nat) : Int) d by simp only [tbl]; rfl]
    exact this
theorem spWF_ev (n a : Int) (hn64 : I64 n) (ha64 : I64 a) : Ev (fun k => spec_WaitsFor.f k n a) (wfr n a) := by
  unfold spec_WaitsFor.f wfr
  rw [siSoldiers_eq, l1In_eq]
  simp only [Option.bind_some]
  refine Ev.iff (fun h => ?_) (fun h => Ev.succ ?_)
  · rw [decide_eq_true_eq] at h
    rw [wrap64_id (x := n - 1) (by omega) (by omega)]
    by_cases c : 0 ≤ a ∧ a ≤ n - 1
    · rw [if_pos ⟨h, c⟩, decide_eq_true c]
      refine Ev.succ ?_
      simp only [spec_WaitsFor.j0]
      refine Ev.neg (by decide) (Ev.bind (siSpread_ev n [a] ⟨h.1, by omega⟩ (by simp) (fun x hx => by simp at hx; omega)) ?_)
      have := spWF_loop n a h c n.toNat 0 [] (by omega) (by simp)
      rw [List.nil_append] at this
      have e : (spr n [a] 0 n.toNat).foldl mx 0 = lstw n a := mxs_at c
      simp only [e, spr_len]
      exact this
    · rw [if_neg (fun x => c x.2), decide_eq_false c]
      refine Ev.succ ?_
      simp only [spec_WaitsFor.j0]
      exact Ev.pos (by first | rfl | trivial) (Ev.now _)
  · simp only [spec_WaitsFor.j0]
    rw [if_neg (fun x => h (by rw [decide_eq_true_eq]; exact x.1))]
    exact Ev.pos (by first | rfl | trivial) (Ev.now _)
theorem sgs_n {n : Int} {L : List S36} (h : sgsOK n L = true) : 1 ≤ n ∧ n ≤ 100 := by
  unfold sgsOK sgl at h
  simp only [Bool.and_eq_true, decide_eq_true_eq] at h
  have := List.all_eq_true.1 h.2 _ (List.getElem_mem (show 0 < L.length by omega))
  rw [decide_eq_true_eq] at this
  unfold sigOK at this; omega
theorem bst_own (n q : Int) (hn : 1 ≤ n) : ∀ (L : List S36) (a : Int), sgl n L = true → (0 ≤ a ∧ a ≤ 0) ∨ (∃ x ∈ L, x.f0 = q) → 0 ≤ bst n L q a ∧ bst n L q a ≤ 0
  | [], a, _, h => by
    rcases h with h | ⟨x, hx, _⟩
    · exact h
    · simp at hx
  | x :: L, a, hs, h => by
    unfold sgl at hs
    simp only [List.all_cons, Bool.and_eq_true, decide_eq_true_eq] at hs
    have hf := frs_bd (l := x.f1) (p := q) hs.1
    have h2 := hs.1
    unfold sigOK at h2
    have ht : 0 ≤ frs n x.f0 x.f1 q * x.f2 := Int.mul_nonneg hf.1 (by omega)
    rw [bst_cons]
    refine bst_own n q hn L _ hs.2 ?_
    rcases h with h | ⟨y, hy, e⟩
    · left; exact (mrg_le (by omega) ht).2 (.inl h)
    · rcases List.mem_cons.1 hy with rfl | hy
      · left
        refine (mrg_le (by omega) ht).2 (.inr ?_)
        rw [← e, frs_own hs.1]; omega
      · right; exact ⟨y, hy, e⟩
/-- What SignalText answers. -/
def sxt (f : Int) (l : Bool) (s : Int) : ByteArray × Bool := if sigOK 100 f s then (up (sgx f l s), true) else (⟨#[]⟩, false)
theorem imSX_eq (f : Int) (l : Bool) (s : Int) : impl_SignalText.f f l s = some (sxt f l s) := by
  unfold impl_SignalText.f sxt
  rw [isSignal_eq]
  simp only [Option.bind_some, decide_eq_true_eq]
  by_cases h : sigOK 100 f s
  · rw [if_pos h, if_pos h, imSi_eq f l s h]; rfl
  · rw [if_neg h, if_neg h]
theorem spSX_ev (f : Int) (l : Bool) (s : Int) : Ev (fun k => spec_SignalText.f k f l s) (sxt f l s) := by
  unfold spec_SignalText.f sxt
  rw [siSignal_eq]
  simp only [Option.bind_some]
  refine Ev.iff (fun h => ?_) (fun h => ?_)
  · rw [decide_eq_true_eq] at h
    rw [if_pos h]; exact Ev.bind (spSi_ev f l s h) (Ev.now _)
  · rw [decide_eq_true_eq] at h
    rw [if_neg h]; exact Ev.now _
theorem sr_tail (t : List UInt8) (R : Int × Bool × Int × Bool) (hR : sok t R) : Ev (fun _ => if R.2.2.2 = true then ((impl_SignalText.f R.1 R.2.1 R.2.2.1).bind fun b => if b.2 = true then (some (b.1.toList == (up t).toList)) else (some false)) else (some true)) true := by
  rcases hR with rfl | ⟨f, l, x, h, e, rfl⟩
  · exact Ev.neg (by unfold sbad; simp) (Ev.now _)
  · refine Ev.pos (by first | rfl | trivial) (Ev.const ?_)
    rw [imSX_eq]
    unfold sxt
    rw [if_pos h, e]
    simp
theorem mm_odd {k : Int} (h : 2 ≤ k ∧ k ≤ 100) (ho : k % 2 = 1) : 2 * plc k 0 false 1 ((3 * (k - 1) + 1) / 2) = k - 1 ∧ (3 * (k - 1) + 1) / 2 = 3 * plc k 0 false 1 ((3 * (k - 1) + 1) / 2) := by
  rw [plc_fast h.1 (by omega) (by omega)]
  split <;> omega
theorem tbl_most (n a : Int) (hn : 1 ≤ n ∧ n ≤ 100) (ha : 0 ≤ a ∧ a ≤ n - 1) : (tbl (fun i => lstw n a - mx (i - a) (a - i)) 0 n.toNat).foldl mx 0 = lstw n a := by
  have hb := lstw_bd ha
  have h1 := (tbl_all (fun i => lstw n a - mx (i - a) (a - i)) (lstw n a) hb.1 n.toNat 0).2 (fun y h0 h1 => by
    have : 0 ≤ mx (y - a) (a - y) := by unfold mx; split <;> omega
    omega)
  have h2 := (tbl_all (fun i => lstw n a - mx (i - a) (a - i)) ((tbl (fun i => lstw n a - mx (i - a) (a - i)) 0 n.toNat).foldl mx 0) (fold_ge _ _) n.toNat 0).1 (Int.le_refl _) a (by omega) (by omega)
  have e : mx (a - a) (a - a) = 0 := by unfold mx; split <;> omega
  simp only [e] at h2
  omega
theorem fil_has {p : Int → Bool} {d : Nat} {q : Int} (h0 : 0 ≤ q) (h1 : q < d) (h : p q = true) : q ∈ fil p 0 d := (fil_mem p d 0 q).2 ⟨h0, by omega, h⟩
/-- What TimeAllHear answers. -/
def tah (n : Int) (L : List S36) : Int × Bool := if sgsOK n L = true ∧ 1 ≤ n ∧ n ≤ 100 then ((tbl (fun q => bst n L q (-1)) 0 n.toNat).foldl mx 0, true) else (0, false)
theorem sgn_loop1 (code : List Int) (hc : ∀ x ∈ code, 0 ≤ x ∧ x ≤ 255) (n a : Int) (b : Bool) (c : Int) : ∀ (d : Nat) (M : List S36) (p s : Int), M.length + d = 11 → 0 ≤ p → p + 2 * d ≤ 999000 →
    ∃ M' p' s', Ev (fun k => spec_l1Cur_signals.l1 k n M code p s a b c) (n, M', p', s') ∧ M'.length ≤ 11 ∧ p ≤ p' ∧ p' ≤ p + 2 * d + 2 := by
  intro d
  induction d with
  | zero =>
    intro M p s h h0 h1
    obtain ⟨v, p1, s1, e1, v0, v1, q0, q1⟩ := pick_ok code hc p s 2 h0 (by omega)
    refine ⟨M, p1, s1, Ev.succ ?_, by omega, by omega, by omega⟩
    simp only [spec_l1Cur_signals.l1]
    rw [e1]
    simp only [Option.bind_some]
    rw [wrap64_id (x := 10 + v) (by omega) (by omega)]
    exact Ev.neg (by omega) (Ev.now _)
  | succ d ih =>
    intro M p s h h0 h1
    obtain ⟨v, p1, s1, e1, v0, v1, q0, q1⟩ := pick_ok code hc p s 2 h0 (by omega)
    by_cases k0 : (M.length : Int) < 10 + v
    · obtain ⟨M', p2, s2, e2, b0, b1, b2⟩ := ih (M ++ [(⟨a, b, c⟩ : S36)]) p1 s1 (by simp; omega) (by omega) (by omega)
      refine ⟨M', p2, s2, Ev.succ ?_, b0, by omega, by omega⟩
      simp only [spec_l1Cur_signals.l1]
      rw [e1]
      simp only [Option.bind_some]
      rw [wrap64_id (x := 10 + v) (by omega) (by omega)]
      exact Ev.pos k0 (Ev.pos (by omega) e2)
    · refine ⟨M, p1, s1, Ev.succ ?_, by omega, by omega, by omega⟩
      simp only [spec_l1Cur_signals.l1]
      rw [e1]
      simp only [Option.bind_some]
      rw [wrap64_id (x := 10 + v) (by omega) (by omega)]
      exact Ev.neg k0 (Ev.now _)
theorem sgn_loop0 (code : List Int) (hc : ∀ x ∈ code, 0 ≤ x ∧ x ≤ 255) (n a : Int) (b : Bool) (c : Int) : ∀ (d : Nat) (M : List S36) (p s : Int), M.length + d ≤ 10 → 0 ≤ p → p + 6 * d ≤ 990000 →
    ∃ M' p' s', Ev (fun k => spec_l1Cur_signals.l0 k n M (d : Int) code p s a b c) (n, M', p', s') ∧ M'.length ≤ 11 ∧ p ≤ p' ∧ p' ≤ p + 6 * d + 40 := by
  intro d
  induction d with
  | zero =>
    intro M p s h h0 h1
    obtain ⟨v, p1, s1, e1, v0, v1, q0, q1⟩ := pick_ok code hc p s 18 h0 (by omega)
    by_cases k0 : v = 0
    · refine ⟨[], p1, s1, Ev.succ ?_, by simp, by omega, by omega⟩
      simp only [spec_l1Cur_signals.l0]
      rw [e1]
      simp only [Option.bind_some]
      exact Ev.neg (by omega) (Ev.pos k0 (Ev.now _))
    · by_cases k1 : v = 1
      · obtain ⟨M', p2, s2, e2, b0, b1, b2⟩ := sgn_loop1 code hc n a b c (11 - M.length) M p1 s1 (by omega) (by omega) (by omega)
        refine ⟨M', p2, s2, Ev.succ ?_, b0, by omega, by omega⟩
        simp only [spec_l1Cur_signals.l0]
        rw [e1]
        simp only [Option.bind_some]
        exact Ev.neg (by omega) (Ev.neg k0 (Ev.pos k1 e2))
      · refine ⟨M, p1, s1, Ev.succ ?_, by omega, by omega, by omega⟩
        simp only [spec_l1Cur_signals.l0]
        rw [e1]
        simp only [Option.bind_some]
        exact Ev.neg (by omega) (Ev.neg k0 (Ev.neg k1 (Ev.now _)))
  | succ d ih =>
    intro M p s h h0 h1
    obtain ⟨f, l, w, p1, s1, e1, f0, f1, w0, w1, q0, q1⟩ := sure_ok code hc p s n h0 (by omega)
    obtain ⟨M', p2, s2, e2, b0, b1, b2⟩ := ih (M ++ [(⟨f, l, w⟩ : S36)]) p1 s1 (by simp; omega) (by omega) (by omega)
    refine ⟨M', p2, s2, Ev.succ ?_, b0, by omega, by omega⟩
    simp only [spec_l1Cur_signals.l0]
    rw [e1, show ((d + 1 : Nat) : Int) - 1 = (d : Int) by omega, wrap64_id (x := (d : Int)) (by omega) (by omega)]
    simp only [Option.bind_some]
    exact Ev.pos (by omega) (Ev.pos (by omega) e2)
theorem drawHB_ok (code : List Int) (hc : ∀ x ∈ code, 0 ≤ x ∧ x ≤ 255) : ∃ n M u, Ev (fun k => spec_DrawHeardBy.f k code) (n, M, u) ∧ M.length ≤ 11 := by
  unfold spec_DrawHeardBy.f spec_l1Cur_signals.f
  obtain ⟨n, f, l, w, p, s, e, i1, i2, i3, q0, q1⟩ := sgnl_ok code hc 0 0 (by omega) (by omega)
  obtain ⟨v, p1, s1, e1, v0, v1, a0, a1⟩ := pick_ok code hc p s 4 (by omega) (by omega)
  obtain ⟨M, p2, s2, e2, b0, b1, b2⟩ := sgn_loop0 code hc n f l w v.toNat [(⟨f, l, w⟩ : S36)] p1 s1 (by simp; omega) (by omega) (by omega)
  rw [show ((v.toNat : Nat) : Int) = v by omega] at e2
  obtain ⟨u, p3, s3, e3, hu, _, _⟩ := among_ok code hc p2 s2 [0, 1, 2, 3, 5, 9, 20, 100000, 100001, (-1)] (by simp) (by omega) (by omega)
  refine ⟨n, M, u, ?_, b0⟩
  rw [e]
  simp only [Option.bind_some]
  rw [e1]
  simp only [Option.bind_some]
  refine Ev.bind e2 ?_
  rw [e3]
  exact Ev.now _
theorem sta_loop (code : List Int) (hc : ∀ x ∈ code, 0 ≤ x ∧ x ≤ 255) (n : Int) : ∀ (d : Nat) (i : Int) (M : List Int) (p s : Int), i + d = n → 0 ≤ i → n ≤ 100 → M.length ≤ i → 0 ≤ p → p + 2 * d ≤ 990000 →
    ∃ r M' p' s', Ev (fun k => spec_l1Cur_starts.l0 k n M i code p s) (r, M', p', s') ∧ M'.length ≤ 101 := by
  intro d
  induction d with
  | zero =>
    intro i M p s h hi hn hM h0 h1
    obtain ⟨v, p1, s1, e1, v0, v1, q0, q1⟩ := pick_ok code hc p s 16 h0 (by omega)
    by_cases k0 : v = 0
    · obtain ⟨u, p2, s2, e2, hu, _, _⟩ := among_ok code hc p1 s1 [(-1), 0, 1, 100, 101, 4611686018427387904] (by simp) (by omega) (by omega)
      refine ⟨u, M, p2, s2, Ev.succ ?_, by omega⟩
      simp only [spec_l1Cur_starts.l0]
      rw [e1]
      simp only [Option.bind_some]
      rw [e2]
      exact Ev.neg (by omega) (Ev.pos k0 (Ev.now _))
    · by_cases k1 : v = 1
      · obtain ⟨u, p2, s2, e2, hu, _, _⟩ := among_ok code hc p1 s1 [(-1), 0, 1, 100, 4611686018427387904] (by simp) (by omega) (by omega)
        refine ⟨n, M ++ [u], p2, s2, Ev.succ ?_, by simp; omega⟩
        simp only [spec_l1Cur_starts.l0]
        rw [e1]
        simp only [Option.bind_some]
        rw [e2]
        exact Ev.neg (by omega) (Ev.neg k0 (Ev.pos k1 (Ev.pos (by omega) (Ev.now _))))
      · refine ⟨n, M, p1, s1, Ev.succ ?_, by omega⟩
        simp only [spec_l1Cur_starts.l0]
        rw [e1]
        simp only [Option.bind_some]
        exact Ev.neg (by omega) (Ev.neg k0 (Ev.neg k1 (Ev.now _)))
  | succ d ih =>
    intro i M p s h hi hn hM h0 h1
    obtain ⟨v, p1, s1, e1, q0, q1⟩ := one_ok code hc p s 4 h0 (by omega)
    cases v with
    | true =>
      obtain ⟨r, M', p2, s2, e2, b0⟩ := ih (i + 1) (M ++ [i]) p1 s1 (by omega) (by omega) hn (by simp; omega) (by omega) (by omega)
      refine ⟨r, M', p2, s2, Ev.succ ?_, b0⟩
      simp only [spec_l1Cur_starts.l0]
      rw [e1, wrap64_id (x := i + 1) (by omega) (by omega)]
      simp only [Option.bind_some]
      exact Ev.pos (by omega) (Ev.pos (by first | rfl | trivial) (Ev.pos (by omega) e2))
    | false =>
      obtain ⟨r, M', p2, s2, e2, b0⟩ := ih (i + 1) M p1 s1 (by omega) (by omega) hn (by omega) (by omega) (by omega)
      refine ⟨r, M', p2, s2, Ev.succ ?_, b0⟩
      simp only [spec_l1Cur_starts.l0]
      rw [e1, wrap64_id (x := i + 1) (by omega) (by omega)]
      simp only [Option.bind_some]
      exact Ev.pos (by omega) (Ev.neg (by decide) e2)
theorem drawSP_ok (code : List Int) (hc : ∀ x ∈ code, 0 ≤ x ∧ x ≤ 255) : ∃ n M, Ev (fun k => spec_DrawSpreadTimes.f k code) (n, M) ∧ M.length ≤ 101 := by
  unfold spec_DrawSpreadTimes.f spec_l1Cur_starts.f
  obtain ⟨v, p, s, e, v0, v1, q0, q1⟩ := pick_ok code hc 0 0 14 (by omega) (by omega)
  obtain ⟨r, M, p2, s2, e2, b0⟩ := sta_loop code hc (1 + v) (1 + v).toNat 0 [] p s (by omega) (by omega) (by omega) (by simp) (by omega) (by omega)
  refine ⟨r, M, ?_, b0⟩
  rw [e]
  simp only [Option.bind_some]
  rw [wrap64_id (x := 1 + v) (by omega) (by omega)]
  exact Ev.bind e2 (Ev.now _)
theorem drawBS_ok (code : List Int) (hc : ∀ x ∈ code, 0 ≤ x ∧ x ≤ 255) : ∃ n m, spec_DrawBestStarts.f code = some (n, m) := by
  unfold spec_DrawBestStarts.f spec_DrawLeastTimeWith.f
  obtain ⟨v, p1, s1, e1, q0, q1⟩ := one_ok code hc 0 0 6 (by omega) (by omega)
  rw [e1]
  simp only [Option.bind_some]
  cases v with
  | true =>
    rw [if_pos rfl]
    obtain ⟨u, p2, s2, e2, hu, a0, a1⟩ := among_ok code hc p1 s1 [(-1), 0, 1, 16, 17, 100, 101] (by simp) (by omega) (by omega)
    rw [e2]
    simp only [Option.bind_some]
    obtain ⟨u, p3, s3, e3, hu, a0, a1⟩ := among_ok code hc p2 s2 [(-1), 0, 1, 2, 16, 100] (by simp) (by omega) (by omega)
    rw [e3]
    exact ⟨_, _, rfl⟩
  | false =>
    rw [if_neg (by decide)]
    obtain ⟨u, p2, s2, e2, u0, u1, a0, a1⟩ := pick_ok code hc p1 s1 14 (by omega) (by omega)
    rw [e2]
    simp only [Option.bind_some]
    obtain ⟨y, p3, s3, e3, y0, y1, c0, c1⟩ := pick_ok code hc p2 s2 (wrap64 (1 + u)) (by omega) (by omega)
    rw [e3]
    exact ⟨_, _, rfl⟩
theorem drawWF_ok (code : List Int) (hc : ∀ x ∈ code, 0 ≤ x ∧ x ≤ 255) : ∃ n a, spec_DrawWaitsFor.f code = some (n, a) ∧ I64 n ∧ I64 a := by
  unfold spec_DrawWaitsFor.f
  obtain ⟨n, f, l, w, p, s, e, i1, i2, i3, q0, q1⟩ := sgnl_ok code hc 0 0 (by omega) (by omega)
  rw [e]
  exact ⟨_, _, rfl, i1, i2⟩
theorem drawMM_ok (code : List Int) (hc : ∀ x ∈ code, 0 ≤ x ∧ x ≤ 255) : ∃ n, spec_DrawMiddleMeeting.f code = some n := by
  unfold spec_DrawMiddleMeeting.f
  obtain ⟨u, p2, s2, e2, hu, a0, a1⟩ := among_ok code hc 0 0 [(-1), 0, 1, 2, 3, 4, 5, 6, 9, 20, 99, 100, 101] (by simp) (by omega) (by omega)
  rw [e2]
  exact ⟨_, rfl⟩
theorem drawST_ok (code : List Int) (hc : ∀ x ∈ code, 0 ≤ x ∧ x ≤ 255) : ∃ f l x, spec_DrawSignalText.f code = some (f, l, x) := by
  unfold spec_DrawSignalText.f
  obtain ⟨n, f, l, w, p, s, e, i1, i2, i3, q0, q1⟩ := sgnl_ok code hc 0 0 (by omega) (by omega)
  rw [e]
  exact ⟨_, _, _, rfl⟩
theorem spo_one (v : Int) : (strOfNums [v]).size = 1 := by simp [strOfNums, ByteArray.size]
theorem spo_loop (code : List Int) (hc : ∀ x ∈ code, 0 ≤ x ∧ x ≤ 255) (w : ByteArray) (hw : 0 < w.size ∧ w.size < 100) : ∀ (d : Nat) (x : ByteArray) (p s : Int), 2 * x.size + 1 + 1000 * d ≤ 100000 → 0 ≤ p → p + 6 * d ≤ 990000 → d ≤ 2 → x.size + 1 + d ≤ 1000 →
    ∃ r p' s', Ev (fun k => spec_l1Cur_spoilt.l0 k x w (d : Int) code p s) (r, p', s') ∧ r.size ≤ 1000 := by
  intro d
  induction d with
  | zero =>
    intro x p s h h0 h1 _ _
    refine ⟨x, p, s, Ev.succ ?_, by omega⟩
    simp only [spec_l1Cur_spoilt.l0]
    refine Ev.neg (by omega) (Ev.succ ?_)
    simp only [spec_l1Cur_spoilt.j1]
    exact Ev.neg (show ¬ (false = true) by decide) (Ev.now _)
  | succ d ih =>
    intro x p s h h0 h1 hd hx
    by_cases c0 : (x.size : Int) > 0
    · obtain ⟨i, p1, s1, e1, i0, i1, q0, q1⟩ := pick_ok code hc p s (x.size : Int) h0 (by omega)
      obtain ⟨v, p2, s2, e2, v0, v1, a0, a1⟩ := pick_ok code hc p1 s1 (w.size : Int) (by omega) (by omega)
      obtain ⟨y, p3, s3, e3, y0, y1, b0, b1⟩ := pick_ok code hc p2 s2 3 (by omega) (by omega)
      have z1 : (x.extract 0 i.toNat).size = i.toNat := by rw [ByteArray.size_extract]; omega
      have z2 : (x.extract i.toNat x.size).size = x.size - i.toNat := by rw [ByteArray.size_extract]; omega
      have z3 : (x.extract (i + 1).toNat x.size).size = x.size - (i.toNat + 1) := by rw [ByteArray.size_extract]; omega
      have z4 := spo_one (bt w v)
      have z5 : ((x.extract 0 i.toNat) ++ strOfNums [bt w v]).size = i.toNat + 1 := by rw [ByteArray.size_append]; omega
      have m1 : (((x.extract 0 i.toNat) ++ strOfNums [bt w v]) ++ (x.extract i.toNat x.size)).size = x.size + 1 := by rw [ByteArray.size_append]; omega
      have m2 : (((x.extract 0 i.toNat) ++ strOfNums [bt w v]) ++ (x.extract (i + 1).toNat x.size)).size = x.size := by rw [ByteArray.size_append]; omega
      have m3 : ((x.extract 0 i.toNat) ++ (x.extract (i + 1).toNat x.size)).size = x.size - 1 := by rw [ByteArray.size_append]; omega
      by_cases k0 : y = 0
      · obtain ⟨r, p4, s4, e4, r0⟩ := ih (((x.extract 0 i.toNat) ++ strOfNums [bt w v]) ++ (x.extract i.toNat x.size)) p3 s3 (by omega) (by omega) (by omega) (by omega) (by omega)
        refine ⟨r, p4, s4, Ev.succ ?_, r0⟩
        simp only [spec_l1Cur_spoilt.l0]
        refine Ev.pos (by omega) (Ev.succ ?_)
        simp only [spec_l1Cur_spoilt.j1]
        rw [e1]
        simp only [Option.bind_some]
        rw [e2]
        simp only [Option.bind_some]
        rw [e3, show ((d + 1 : Nat) : Int) - 1 = (d : Int) by omega, wrap64_id (x := (d : Int)) (by omega) (by omega)]
        simp only [Option.bind_some]
        exact Ev.pos (decide_eq_true c0) (Ev.pos (by omega) (Ev.pos (by omega) (Ev.pos k0 (Ev.pos (by omega) (Ev.pos (by omega) (Ev.pos (by omega) (Ev.pos (by omega) e4)))))))
      · by_cases k1 : y = 1
        · obtain ⟨r, p4, s4, e4, r0⟩ := ih (((x.extract 0 i.toNat) ++ strOfNums [bt w v]) ++ (x.extract (i + 1).toNat x.size)) p3 s3 (by omega) (by omega) (by omega) (by omega) (by omega)
          refine ⟨r, p4, s4, Ev.succ ?_, r0⟩
          simp only [spec_l1Cur_spoilt.l0]
          refine Ev.pos (by omega) (Ev.succ ?_)
          simp only [spec_l1Cur_spoilt.j1]
          rw [e1]
          simp only [Option.bind_some]
          rw [e2]
          simp only [Option.bind_some]
          rw [e3, show ((d + 1 : Nat) : Int) - 1 = (d : Int) by omega, wrap64_id (x := (d : Int)) (by omega) (by omega), wrap64_id (x := i + 1) (by omega) (by omega)]
          simp only [Option.bind_some]
          exact Ev.pos (decide_eq_true c0) (Ev.pos (by omega) (Ev.pos (by omega) (Ev.neg k0 (Ev.pos k1 (Ev.pos (by omega) (Ev.pos (by omega) (Ev.pos (by omega) (Ev.pos (by omega) (Ev.pos (by omega) (Ev.pos (by omega) e4))))))))))
        · obtain ⟨r, p4, s4, e4, r0⟩ := ih ((x.extract 0 i.toNat) ++ (x.extract (i + 1).toNat x.size)) p3 s3 (by omega) (by omega) (by omega) (by omega) (by omega)
          refine ⟨r, p4, s4, Ev.succ ?_, r0⟩
          simp only [spec_l1Cur_spoilt.l0]
          refine Ev.pos (by omega) (Ev.succ ?_)
          simp only [spec_l1Cur_spoilt.j1]
          rw [e1]
          simp only [Option.bind_some]
          rw [e2]
          simp only [Option.bind_some]
          rw [e3, show ((d + 1 : Nat) : Int) - 1 = (d : Int) by omega, wrap64_id (x := (d : Int)) (by omega) (by omega), wrap64_id (x := i + 1) (by omega) (by omega)]
          simp only [Option.bind_some]
          exact Ev.pos (decide_eq_true c0) (Ev.pos (by omega) (Ev.pos (by omega) (Ev.neg k0 (Ev.neg k1 (Ev.pos (by omega) (Ev.pos (by omega) (Ev.pos (by omega) (Ev.pos (by omega) (Ev.pos (by omega) e4)))))))))
    · refine ⟨x, p, s, Ev.succ ?_, by omega⟩
      simp only [spec_l1Cur_spoilt.l0]
      refine Ev.pos (by omega) (Ev.succ ?_)
      simp only [spec_l1Cur_spoilt.j1]
      exact Ev.neg (by simpa using c0) (Ev.now _)
theorem spoilt_ok (code : List Int) (hc : ∀ x ∈ code, 0 ≤ x ∧ x ≤ 255) (p s : Int) (x w : ByteArray) (hw : 0 < w.size ∧ w.size < 100) (hx : x.size ≤ 900) (h0 : 0 ≤ p) (h1 : p ≤ 900000) : ∃ r p' s', Ev (fun k => spec_l1Cur_spoilt.f k code p s x w) (r, p', s') ∧ r.size ≤ 1000 := by
  unfold spec_l1Cur_spoilt.f
  obtain ⟨v, p1, s1, e1, v0, v1, q0, q1⟩ := pick_ok code hc p s 2 h0 (by omega)
  obtain ⟨r, p2, s2, e2, b0⟩ := spo_loop code hc w hw (1 + v).toNat x p1 s1 (by omega) (by omega) (by omega) (by omega) (by omega)
  refine ⟨r, p2, s2, ?_, b0⟩
  rw [e1]
  simp only [Option.bind_some]
  rw [wrap64_id (x := 1 + v) (by omega) (by omega), show 1 + v = (((1 + v).toNat : Nat) : Int) by omega]
  exact e2
theorem drawPS_ok (code : List Int) (hc : ∀ x ∈ code, 0 ≤ x ∧ x ≤ 255) : ∃ t : List UInt8, Ev (fun k => spec_DrawParseSignal.f k code) (up t) ∧ t.length ≤ 1048576 := by
  unfold spec_DrawParseSignal.f
  obtain ⟨f, l, w, p1, s1, e1, f0, f1, w0, w1, q0, q1⟩ := sure_ok code hc 0 0 100 (by omega) (by omega)
  have h : sigOK 100 f w := by unfold sigOK; omega
  have hs := spSi_ev f l w h
  obtain ⟨z0, z1, z2⟩ := sgx_len f l w (by omega) (by omega)
  obtain ⟨v, p2, s2, e2, a0, a1⟩ := one_ok code hc p1 s1 3 (by omega) (by omega)
  cases v with
  | true =>
    obtain ⟨r, p3, s3, e3, b0⟩ := spoilt_ok code hc p2 s2 (up (sgx f l w)) (⟨#[48, 49, 50, 51, 60, 62, 120]⟩ : ByteArray) (by decide) (by rw [up_size]; omega) (by omega) (by omega)
    have e : r = up (Pl.L r) := up_L r
    have hz := isize_L r
    refine ⟨Pl.L r, ?_, by omega⟩
    rw [← e, e1]
    simp only [Option.bind_some]
    refine Ev.bind hs ?_
    rw [e2]
    simp only [Option.bind_some]
    exact Ev.pos (by first | rfl | trivial) (Ev.bind e3 (Ev.now _))
  | false =>
    refine ⟨sgx f l w, ?_, by omega⟩
    rw [e1]
    simp only [Option.bind_some]
    refine Ev.bind hs ?_
    rw [e2]
    simp only [Option.bind_some]
    exact Ev.neg (show ¬ (false = true) by decide) (Ev.now _)
theorem sr_j12 (t : List UInt8) (f : Int) (l : Bool) (x : Int) (R : Int × Bool × Int × Bool) (hR : sok t R) : Ev (fun k => laws_FnSignalsReach.j11 k (sxt f l x).1 (sxt f l x).2 (up t) R.2.2.2 f l x R.1 R.2.1 R.2.2.1) true := by
  have ht := sr_tail t R hR
  refine Ev.succ ?_
  simp only [laws_FnSignalsReach.j11]
  by_cases h : sigOK 100 f x
  · have e : sxt f l x = (up (sgx f l x), true) := by unfold sxt; rw [if_pos h]
    rw [e]
    simp only [if_true]
    rw [imG f l x h]
    simp only [Option.bind_some]
    exact Ev.pos (by first | rfl | trivial) (Ev.neg (by simp) ht)
  · have e : sxt f l x = (⟨#[]⟩, false) := by unfold sxt; rw [if_neg h]
    rw [e]
    exact Ev.neg (by simp) ht
theorem sr_j10 (k9 : Int) (t : List UInt8) (f : Int) (l : Bool) (x : Int) (R : Int × Bool × Int × Bool) (hR : sok t R) : Ev (fun k => laws_FnSignalsReach.j9 k k9 (mmt k9).1 (mmt k9).2.1 (mmt k9).2.2 (sxt f l x).1 (sxt f l x).2 (up t) R.2.2.2 f l x R.1 R.2.1 R.2.2.1) true := by
  have h12 := sr_j12 t f l x R hR
  have hf : ∀ a b : Int, Ev (fun k => laws_FnSignalsReach.j10 k k9 a b (sxt f l x).1 (sxt f l x).2 (up t) R.2.2.2 false f l x R.1 R.2.1 R.2.2.1) true := by
    intro a b
    refine Ev.succ ?_
    simp only [laws_FnSignalsReach.j10]
    exact Ev.neg (by decide) h12
  refine Ev.succ ?_
  simp only [laws_FnSignalsReach.j9]
  by_cases c : 2 ≤ k9 ∧ k9 ≤ 100
  · have e : mmt k9 = ((3 * (k9 - 1) + 1) / 2, plc k9 0 false 1 ((3 * (k9 - 1) + 1) / 2), true) := by unfold mmt; rw [if_pos c]
    rw [e]
    refine Ev.pos (by first | rfl | trivial) ?_
    rw [tmod_nn (by omega)]
    by_cases o : k9 % 2 = 1
    · rw [show (k9 % 2 == 1) = true by rw [o]; rfl]
      obtain ⟨m1, m2⟩ := mm_odd c o
      refine Ev.succ ?_
      simp only [laws_FnSignalsReach.j10]
      refine Ev.pos (by first | rfl | trivial) (Ev.pos ?_ (Ev.pos ?_ h12))
      · rw [wrap64_id (by omega) (by omega), wrap64_id (by omega) (by omega)]; exact m1
      · rw [wrap64_id (by omega) (by omega)]; exact m2
    · rw [show (k9 % 2 == 1) = false by rw [beq_eq_false_iff_ne]; exact o]
      exact hf _ _
  · have e : mmt k9 = (0, 0, false) := by unfold mmt; rw [if_neg c]
    rw [e]
    exact Ev.neg (by simp) (hf _ _)
theorem sr_l3 (n a : Int) (hn : 1 ≤ n ∧ n ≤ 100) (ha : 0 ≤ a ∧ a ≤ n - 1) (y9 : Int) (y11 : ByteArray) (y59 y60 : Int) (y61 : Bool) (y65 : ByteArray) (y66 y70 : Bool) (s0 : Int) (s1 : Bool) (s2 r0 : Int) (r1 : Bool) (r2 : Int)
    (h : Ev (fun k => laws_FnSignalsReach.j9 k y9 y59 y60 y61 y65 y66 y11 y70 s0 s1 s2 r0 r1 r2) true) : ∀ (d i : Nat), (i : Int) + d = n →
    Ev (fun k => laws_FnSignalsReach.l3 k a (wfr n a).1 y9 y59 y60 y61 y65 y66 y11 y70 (spt n [a]).1 (wfr n a).1 n (i : Int) s0 s1 s2 r0 r1 r2) true := by
  have hst : stOK n [a] := ⟨hn.1, hn.2, by simp, by
    have := ris_of (l := [a]) (hi := n - 1) (by simp) (fun y hy => by simp at hy; omega) 1 0 (by simp)
    simpa using this⟩
  have e1 : (wfr n a).1 = tbl (fun i => lstw n a - mx (i - a) (a - i)) 0 n.toNat := by unfold wfr; rw [if_pos ⟨hn, ha⟩]
  have e2 : (spt n [a]).1 = spr n [a] 0 n.toNat := by unfold spt; rw [if_pos hst]
  have z1 := tbl_len (fun i => lstw n a - mx (i - a) (a - i)) n.toNat 0
  have z2 := spr_len n [a] n.toNat 0
  have hb := lstw_bd ha
  rw [e1, e2]
  intro d
  induction d with
  | zero =>
    intro i hi
    refine Ev.succ ?_
    simp only [laws_FnSignalsReach.l3]
    exact Ev.neg (by omega) h
  | succ d ih =>
    intro i hi
    refine Ev.succ ?_
    simp only [laws_FnSignalsReach.l3]
    have r1' := tbl_rd (fun i => lstw n a - mx (i - a) (a - i)) n (i : Int) (by omega) (by omega)
    have r2' := tbl_rd (fun i => lstw n a - mx (i - a) (a - i)) n a (by omega) (by omega)
    have r3' := spr_rd n [a] n.toNat 0 i (by omega)
    rw [Int.zero_add, near_at ha (by omega) (by omega)] at r3'
    have e0 : mx (a - a) (a - a) = 0 := by unfold mx; split <;> omega
    have hm : 0 ≤ mx ((i : Int) - a) (a - i) ∧ mx ((i : Int) - a) (a - i) ≤ lstw n a := by
      unfold lstw mx
      repeat' split
      all_goals omega
    simp only [e0] at r2'
    rw [r1', r2', r3', wrap64_id (x := lstw n a - mx ((i : Int) - a) (a - i) + mx ((i : Int) - a) (a - i)) (by omega) (by omega), show (i : Int) + 1 = ((i + 1 : Nat) : Int) by omega, wrap64_id (x := ((i + 1 : Nat) : Int)) (by omega) (by omega)]
    exact Ev.pos (by omega) (Ev.pos (by omega) (Ev.pos (by omega) (Ev.neg (by omega) (Ev.pos (by omega) (Ev.pos (by omega) (Ev.pos (by omega) (Ev.pos (by omega) (ih (i + 1) (by omega)))))))))
theorem sr_j8 (n a : Int) (hn64 : I64 n) (ha64 : I64 a) (k9 : Int) (t : List UInt8) (f : Int) (l : Bool) (x : Int) (R : Int × Bool × Int × Bool) (hR : sok t R) :
    Ev (fun k => laws_FnSignalsReach.j7 k n a (wfr n a).1 (wfr n a).2 k9 (mmt k9).1 (mmt k9).2.1 (mmt k9).2.2 (sxt f l x).1 (sxt f l x).2 (up t) R.2.2.2 f l x R.1 R.2.1 R.2.2.1) true := by
  have h10 := sr_j10 k9 t f l x R hR
  refine Ev.succ ?_
  simp only [laws_FnSignalsReach.j7]
  by_cases c : (1 ≤ n ∧ n ≤ 100) ∧ 0 ≤ a ∧ a ≤ n - 1
  · have h3 := sr_l3 n a c.1 c.2 k9 (up t) _ _ _ _ _ _ f l x R.1 R.2.1 R.2.2.1 h10 n.toNat 0 (by omega)
    have z1 := tbl_len (fun i => lstw n a - mx (i - a) (a - i)) n.toNat 0
    have e : wfr n a = (tbl (fun i => lstw n a - mx (i - a) (a - i)) 0 n.toNat, true) := by unfold wfr; rw [if_pos c]
    have hst : stOK n [a] := ⟨c.1.1, c.1.2, by simp, by
      have := ris_of (l := [a]) (hi := n - 1) (by simp) (fun y hy => by simp at hy; omega) 1 0 (by simp)
      simpa using this⟩
    have hsp : (spt n [a]).2 = true := by unfold spt; rw [if_pos hst]
    have r2' := tbl_rd (fun i => lstw n a - mx (i - a) (a - i)) n a (by omega) (by omega)
    have e0 : mx (a - a) (a - a) = 0 := by unfold mx; split <;> omega
    simp only [e0] at r2'
    have hm := vMost_ev (tbl (fun i => lstw n a - mx (i - a) (a - i)) 0 n.toNat) (by omega)
    rw [tbl_most n a c.1 c.2] at hm
    rw [e] at h3 ⊢
    simp only at h3 ⊢
    rw [z1, r2', show ((n.toNat : Nat) : Int) = n by omega]
    refine Ev.pos (by first | rfl | trivial) (Ev.bind (imSpreadTimes_ev n [a] (by simp)) (Ev.pos hsp (Ev.pos (by first | rfl | trivial) (Ev.pos (by omega) (Ev.pos (by omega) (Ev.bind hm (Ev.pos (by omega) h3)))))))
  · have e : wfr n a = ([], false) := by unfold wfr; rw [if_neg c]
    rw [e]
    exact Ev.neg (by simp) h10
theorem sr_j7 (n5 m6 : Int) (RB : List Int × Bool) (Q : Int × Bool) (hl : RB.1.length ≤ 100) (hB : RB.2 = true → Q.2 = true ∧ (RB.1.length : Int) = m6 ∧ stOK n5 RB.1 ∧ mxs n5 RB.1 = Q.1)
    (n a : Int) (hn64 : I64 n) (ha64 : I64 a) (k9 : Int) (t : List UInt8) (f : Int) (l : Bool) (x : Int) (R : Int × Bool × Int × Bool) (hR : sok t R) :
    Ev (fun k => laws_FnSignalsReach.j6 k n5 m6 RB.1 RB.2 Q.1 n a (wfr n a).1 (wfr n a).2 k9 (mmt k9).1 (mmt k9).2.1 (mmt k9).2.2 (sxt f l x).1 (sxt f l x).2 (up t) R.2.2.2 f l x R.1 R.2.1 R.2.2.1) true := by
  have h8 := sr_j8 n a hn64 ha64 k9 t f l x R hR
  refine Ev.succ ?_
  simp only [laws_FnSignalsReach.j6]
  refine Ev.iff (fun b => ?_) (fun _ => h8)
  obtain ⟨b1, b2, b3, b4⟩ := hB b
  have ek := imTimeAllKnow_ev n5 RB.1 (by omega)
  rw [if_pos b3] at ek
  refine Ev.bind ek (Ev.pos b2 (Ev.pos (by first | rfl | trivial) (Ev.pos b4 h8)))
theorem sr_l2 (m3 : Int) (l4 : List Int) (h4 : l4.length ≤ 10000) (hst : stOK m3 l4) (y5 y6 y7 y8 y9 : Int) (y11 : ByteArray) (y47 : List Int) (y48 : Bool) (y51 : Int) (y55 : List Int) (y56 : Bool) (y59 y60 : Int) (y61 : Bool) (y65 : ByteArray) (y66 y70 : Bool) (s0 : Int) (s1 : Bool) (s2 r0 : Int) (r1 : Bool) (r2 : Int)
    (h : Ev (fun k => laws_FnSignalsReach.j6 k y5 y6 y47 y48 y51 y7 y8 y55 y56 y9 y59 y60 y61 y65 y66 y11 y70 s0 s1 s2 r0 r1 r2) true) : ∀ (d i : Nat), (i : Int) + d = m3 →
    Ev (fun k => laws_FnSignalsReach.l2 k l4 (spr m3 l4 0 m3.toNat) y5 y6 y47 y48 y51 y7 y8 y55 y56 y9 y59 y60 y61 y65 y66 y11 y70 (spr m3 l4 0 m3.toNat) m3 (i : Int) s0 s1 s2 r0 r1 r2) true := by
  have hn := hst.1
  have hn2 := hst.2.1
  have z := spr_len m3 l4 m3.toNat 0
  intro d
  induction d with
  | zero =>
    intro i hi
    refine Ev.succ ?_
    simp only [laws_FnSignalsReach.l2]
    exact Ev.neg (by omega) h
  | succ d ih =>
    intro i hi
    have e1 := spr_rd m3 l4 m3.toNat 0 i (by omega)
    rw [Int.zero_add] at e1
    have hb := near_bd (i : Int) l4 m3 (by omega)
    have hh := vHas_ev l4 (i : Int) (by omega)
    have hz := near_zero m3 (i : Int) l4 hn
    refine Ev.succ ?_
    simp only [laws_FnSignalsReach.l2]
    rw [e1, show (i : Int) + 1 = ((i + 1 : Nat) : Int) by omega, wrap64_id (x := ((i + 1 : Nat) : Int)) (by omega) (by omega)]
    refine Ev.pos (by omega) (Ev.pos (by omega) (Ev.pos (by omega) (Ev.neg (by omega) (Ev.bind hh (Ev.neg ?_ (Ev.iff (fun c => ?_) (fun c => ih (i + 1) (by omega))))))))
    · by_cases c : (i : Int) ∈ l4
      · rw [hz.2 c, decide_eq_true c]; decide
      · rw [decide_eq_false c, show (near (i : Int) m3 l4 == 0) = false by rw [beq_eq_false_iff_ne]; exact fun y => c (hz.1 y)]; decide
    · obtain ⟨j, rfl⟩ : ∃ j, i = j + 1 := ⟨i - 1, by omega⟩
      have e2 := spr_rd m3 l4 m3.toNat 0 j (by omega)
      rw [Int.zero_add] at e2
      have hb2 := near_bd (j : Int) l4 m3 (by omega)
      have hlp := near_lip (j : Int) l4 m3 m3 (by omega) (by omega)
      rw [show (j : Int) + 1 = ((j + 1 : Nat) : Int) by omega] at hlp
      rw [show ((j + 1 : Nat) : Int) - 1 = (j : Int) by omega, wrap64_id (x := (j : Int)) (by omega) (by omega), e2, wrap64_id (x := near ((j + 1 : Nat) : Int) m3 l4 - near (j : Int) m3 l4) (by omega) (by omega), wrap64_id (x := near (j : Int) m3 l4 - near ((j + 1 : Nat) : Int) m3 l4) (by omega) (by omega)]
      exact Ev.pos (by omega) (Ev.pos (by omega) (Ev.neg (by omega) (Ev.neg (by omega) (ih (j + 1 + 1) (by omega)))))
theorem sr_j3 (code : List Int) (hc : ∀ x ∈ code, 0 ≤ x ∧ x ≤ 255) :
    Ev (fun k => laws_FnSignalsReach.j3 k code) true := by
  obtain ⟨m3, l4, d1, h4⟩ := drawSP_ok code hc
  obtain ⟨n5, m6, d2⟩ := drawBS_ok code hc
  obtain ⟨n, a, d3, hn64, ha64⟩ := drawWF_ok code hc
  obtain ⟨k9, d4⟩ := drawMM_ok code hc
  obtain ⟨f, l, x, d5⟩ := drawST_ok code hc
  obtain ⟨t, d6, ht⟩ := drawPS_ok code hc
  obtain ⟨RB, Q, b1, b2, b3, q1, q2, hB⟩ := best_more n5 m6
  obtain ⟨R, p1, p2, hR⟩ := par_both t ht
  have h7 := sr_j7 n5 m6 RB Q b3 hB n a hn64 ha64 k9 t f l x R hR
  have hs := spt_len m3 l4
  have hw : (wfr n a).1.length ≤ 1000000 := by
    unfold wfr
    split
    · rename_i c
      simp only [tbl_len]; omega
    · simp
  have h5 : Ev (fun k => laws_FnSignalsReach.j4 k m3 l4 (spt m3 l4).1 (spt m3 l4).2 (if stOK m3 l4 then ((spr m3 l4 0 m3.toNat).foldl mx 0, true) else (0, false)).1 n5 m6 RB.1 RB.2 Q.1 n a (wfr n a).1 (wfr n a).2 k9 (mmt k9).1 (mmt k9).2.1 (mmt k9).2.2 (sxt f l x).1 (sxt f l x).2 (up t) R.2.2.2 false f l x R.1 R.2.1 R.2.2.1) true := by
    refine Ev.succ ?_
    simp only [laws_FnSignalsReach.j4]
    refine Ev.neg (by decide) ?_
    by_cases c : stOK m3 l4
    · have e : spt m3 l4 = (spr m3 l4 0 m3.toNat, true) := by unfold spt; rw [if_pos c]
      have z := spr_len m3 l4 m3.toNat 0
      have c1 := c.1
      have c2 := c.2.1
      rw [e, if_pos c]
      simp only
      have hm := vMost_ev (spr m3 l4 0 m3.toNat) (by omega)
      have h2 := sr_l2 m3 l4 (by omega) c n5 m6 n a k9 (up t) _ _ _ _ _ _ _ _ _ _ _ _ _ _ _ _ _ h7 m3.toNat 0 (by omega)
      rw [z, show ((m3.toNat : Nat) : Int) = m3 by omega]
      refine Ev.pos (by first | rfl | trivial) (Ev.pos (by first | rfl | trivial) (Ev.bind hm (Ev.pos (by first | rfl | trivial) h2)))
    · have e : spt m3 l4 = ([], false) := by unfold spt; rw [if_neg c]
      rw [e]
      exact Ev.neg (by simp) h7
  have hk : (if stOK m3 l4 then ((spr m3 l4 0 m3.toNat).foldl mx 0, true) else (0, false)).2 = (spt m3 l4).2 := by
    unfold spt
    split <;> rfl
  refine Ev.succ ?_
  simp only [laws_FnSignalsReach.j3, d2, d3, d4, d5, Option.bind_some]
  refine Ev.bind d1 (Ev.bind (imSpreadTimes_ev m3 l4 (by omega)) (Ev.bind (spSpreadTimes_ev m3 l4 (by omega)) (Ev.bind (imTimeAllKnow_ev m3 l4 (by omega)) (Ev.bind (spTimeAllKnow_ev m3 l4 (by omega)) (Ev.bind b2 (Ev.bind b1 (Ev.bind q1 (Ev.bind q2 (Ev.bind (imWF_ev n a hn64 ha64) (Ev.bind (spWF_ev n a hn64 ha64) (Ev.bind (imMM_ev k9) (Ev.bind (spMM_ev k9) ?_))))))))))))
  rw [imSX_eq]
  simp only [Option.bind_some]
  refine Ev.bind (spSX_ev f l x) (Ev.bind d6 ?_)
  rw [p1]
  simp only [Option.bind_some]
  refine Ev.bind p2 ?_
  generalize hK : (if stOK m3 l4 then ((spr m3 l4 0 m3.toNat).foldl mx 0, true) else (0, false)) = KK at h5 hk
  simp only [bne_self_eq_false, Bool.false_eq_true, if_false, if_true, beq_self_eq_true, Bool.not_true, Bool.or_self]
  refine Ev.bind (vSame_ev _ (by omega)) (Ev.pos (by first | rfl | trivial) (Ev.bind (vSame_ev _ (by omega)) (Ev.pos (by first | rfl | trivial) (Ev.bind (vSame_ev _ hw) (Ev.pos (by first | rfl | trivial) ?_)))))
  refine Ev.neg (by rw [hk]; simp) (Ev.iff (fun y => ?_) (fun y => h5))
  rw [(hB y).1]; exact h5
theorem sr_l1 (H : List Int) (hH : H.length ≤ 1000) (L1 : List Int) (hL1 : L1.length ≤ 1000) (hsub : ∀ y ∈ L1, y ∈ H) (y : List Int)
    (h : Ev (fun k => laws_FnSignalsReach.j3 k y) true) : ∀ (d i : Nat), i + d = L1.length →
    Ev (fun k => laws_FnSignalsReach.l1 k y H L1 (L1.length : Int) (i : Int)) true := by
  intro d
  induction d with
  | zero =>
    intro i hi
    refine Ev.succ ?_
    simp only [laws_FnSignalsReach.l1]
    exact Ev.neg (by omega) h
  | succ d ih =>
    intro i hi
    refine Ev.succ ?_
    simp only [laws_FnSignalsReach.l1]
    have hh := vHas_ev H (rd L1 (i : Int)) (by omega)
    rw [decide_eq_true (hsub _ (rd_mem (show i < L1.length by omega)))] at hh
    rw [show (i : Int) + 1 = ((i + 1 : Nat) : Int) by omega, wrap64_id (x := ((i + 1 : Nat) : Int)) (by omega) (by omega)]
    exact Ev.pos (by omega) (Ev.pos (by omega) (Ev.pos (by omega) (Ev.bind hh (Ev.pos (by first | rfl | trivial) (ih (i + 1) (by omega))))))
theorem sr_l0 (n : Int) (L : List S36) (u : Int) (hL : L.length ≤ 10000) (hg : (sgsOK n L = true ∧ 1 ≤ n ∧ n ≤ 100) ∧ 0 ≤ u ∧ u ≤ 100000) (y : List Int)
    (h : Ev (fun k => laws_FnSignalsReach.j3 k y) true) : ∀ (d i : Nat), i + d = L.length →
    Ev (fun k => laws_FnSignalsReach.l0 k y n L u (hby n L u).1 L (L.length : Int) (i : Int)) true := by
  have hlen := hby_len n L u
  have hs := hg.1.1
  have hsg : sgl n L = true := by unfold sgsOK at hs; rw [Bool.and_eq_true] at hs; exact hs.2
  have e : (hby n L u).1 = fil (fun q => decide (bst n L q (-1) ≤ u)) 0 n.toNat := by unfold hby; rw [if_pos hg]
  intro d
  induction d with
  | zero =>
    intro i hi
    refine Ev.succ ?_
    simp only [laws_FnSignalsReach.l0]
    refine Ev.neg (by omega) (Ev.iff (fun c => ?_) (fun _ => h))
    rw [wrap64_id (x := u - 1) (by omega) (by omega)]
    have e2 : hby n L (u - 1) = (fil (fun q => decide (bst n L q (-1) ≤ u - 1)) 0 n.toNat, true) := by unfold hby; rw [if_pos ⟨hg.1, by omega, by omega⟩]
    have hlen2 := hby_len n L (u - 1)
    have hm := fil_mono (p := fun q => decide (bst n L q (-1) ≤ u - 1)) (q := fun q => decide (bst n L q (-1) ≤ u)) (fun x hx => by rw [decide_eq_true_eq] at hx ⊢; omega) n.toNat 0
    refine Ev.bind (imHeardBy_ev n L (u - 1) (by omega)) ?_
    refine Ev.pos (by rw [e2]) (Ev.neg (by rw [e, e2]; simp only; omega) ?_)
    refine sr_l1 _ (by omega) _ (by omega) (fun y hy => ?_) y h (hby n L (u - 1)).1.length 0 (by omega)
    rw [e2] at hy
    rw [e]
    have := (fil_mem _ _ _ _).1 hy
    exact (fil_mem _ _ _ _).2 ⟨this.1, this.2.1, by have h3 := this.2.2; rw [decide_eq_true_eq] at h3 ⊢; omega⟩
  | succ d ih =>
    intro i hi
    have hlt : i < L.length := by omega
    refine Ev.succ ?_
    simp only [laws_FnSignalsReach.l0]
    have hmem : L[i] ∈ L := List.getElem_mem hlt
    have hok := List.all_eq_true.1 hsg _ hmem
    rw [decide_eq_true_eq] at hok
    have hok2 := hok
    unfold sigOK at hok2
    have hb := bst_own n L[i].f0 hg.1.2.1 L (-1) hsg (.inr ⟨_, hmem, rfl⟩)
    have hh := vHas_ev (hby n L u).1 (rd_T36 L (i : Int)).f0 (by omega)
    rw [rdSigI hlt, decide_eq_true (by rw [e]; exact fil_has (by omega) (by omega) (by rw [decide_eq_true_eq]; omega))] at hh
    rw [rdSigI hlt, show (i : Int) + 1 = ((i + 1 : Nat) : Int) by omega, wrap64_id (x := ((i + 1 : Nat) : Int)) (by omega) (by omega)]
    exact Ev.pos (by omega) (Ev.pos (by omega) (Ev.pos (by omega) (Ev.bind hh (Ev.pos (by first | rfl | trivial) (ih (i + 1) (by omega))))))
theorem sr_j1 (n : Int) (L : List S36) (u : Int) (hL : L.length ≤ 10000) (y : List Int)
    (h : Ev (fun k => laws_FnSignalsReach.j3 k y) true) :
    Ev (fun k => laws_FnSignalsReach.j0 k y n L u (hby n L u).1 (hby n L u).2 (tah n L).1 false) true := by
  refine Ev.succ ?_
  simp only [laws_FnSignalsReach.j0]
  refine Ev.neg (by decide) ?_
  by_cases hg : (sgsOK n L = true ∧ 1 ≤ n ∧ n ≤ 100) ∧ 0 ≤ u ∧ u ≤ 100000
  · have h0 := sr_l0 n L u hL hg y h L.length 0 (by omega)
    have hlen := hby_len n L u
    have e : hby n L u = (fil (fun q => decide (bst n L q (-1) ≤ u)) 0 n.toNat, true) := by unfold hby; rw [if_pos hg]
    have e2 : tah n L = ((tbl (fun q => bst n L q (-1)) 0 n.toNat).foldl mx 0, true) := by unfold tah; rw [if_pos hg.1]
    refine Ev.pos (by rw [e]) (Ev.bind (vRises_ev _ (by omega) (by rw [e]; exact fil_rise _ _ _)) (Ev.pos (by first | rfl | trivial) (Ev.neg ?_ h0)))
    have hfull := fil_full (fun q => decide (bst n L q (-1) ≤ u)) n.toNat 0
    have hall := tbl_all (fun q => bst n L q (-1)) u hg.2.1 n.toNat 0
    rw [e, e2]
    simp only
    have hiff : ((fil (fun q => decide (bst n L q (-1) ≤ u)) 0 n.toNat).length = n.toNat) ↔ (tbl (fun q => bst n L q (-1)) 0 n.toNat).foldl mx 0 ≤ u := by
      rw [hfull, hall]
      exact ⟨fun h y h1 h2 => by have := h y h1 h2; rwa [decide_eq_true_eq] at this, fun h y h1 h2 => by rw [decide_eq_true_eq]; exact h y h1 h2⟩
    by_cases c : (tbl (fun q => bst n L q (-1)) 0 n.toNat).foldl mx 0 ≤ u
    · have := hiff.2 c
      rw [show (((fil (fun q => decide (bst n L q (-1) ≤ u)) 0 n.toNat).length : Int) == n) = true by rw [beq_iff_eq]; omega, decide_eq_true c]; decide
    · have : ¬ (fil (fun q => decide (bst n L q (-1) ≤ u)) 0 n.toNat).length = n.toNat := fun y => c (hiff.1 y)
      rw [show (((fil (fun q => decide (bst n L q (-1) ≤ u)) 0 n.toNat).length : Int) == n) = false by rw [beq_eq_false_iff_ne]; omega, decide_eq_false c]; decide
  · have e : hby n L u = ([], false) := by unfold hby; rw [if_neg hg]
    rw [e]
    exact Ev.neg (by simp) h
theorem FnSignalsReach : StatFnSignalsReach := by
  intro code more hl0 hc hl1 hm
  refine Ev.get ?_
  unfold laws_FnSignalsReach.f laws_big.f
  obtain ⟨n, L, u, d0, hL⟩ := drawHB_ok code hc
  have h4 := sr_j3 more hm
  by_cases hb : (code.length : Int) > 1048576
  · simp only [if_pos hb, Option.bind_some]
    exact Ev.pos (by first | rfl | trivial) (Ev.now _)
  simp only [if_neg hb, Option.bind_some]
  refine Ev.iff (fun _ => Ev.now _) (fun _ => ?_)
  have h1 := sr_j1 n L u (by omega) more h4
  have hlen := hby_len n L u
  have ta : Ev (fun k => impl_TimeAllHear.f k n L) (tah n L) := imTimeAllHear_ev n L (by omega)
  have tb : Ev (fun k => spec_TimeAllHear.f k n L) (tah n L) := spTimeAllHear_ev n L (by omega)
  have hA : (decide (1 ≤ n ∧ n ≤ 100) && sgsOK n L) = sgsOK n L := by
    cases e : sgsOK n L
    · simp
    · rw [decide_eq_true (sgs_n e)]; rfl
  have ia : Ev (fun k => impl_AreSignals.f k n L) (sgsOK n L) := by
    unfold impl_AreSignals.f
    have := areSignals_ev n L (by omega)
    rw [hA] at this
    exact Ev.bind this (Ev.now _)
  have ib : Ev (fun k => spec_AreSignals.f k n L) (sgsOK n L) := by
    unfold spec_AreSignals.f
    exact Ev.bind (siList_ev n L (by omega)) (Ev.now _)
  refine Ev.bind d0 (Ev.bind (imHeardBy_ev n L u (by omega)) (Ev.bind (spHeardBy_ev n L u (by omega)) (Ev.bind ta (Ev.bind tb ?_))))
  simp only [bne_self_eq_false, Bool.false_eq_true, if_false, if_true]
  refine Ev.bind (vSame_ev _ (by omega)) (Ev.pos (by first | rfl | trivial) (Ev.bind ia (Ev.bind ib (Ev.neg (by simp) ?_))))
  have th : (tah n L).2 = true → sgsOK n L = true := by
    unfold tah
    intro y
    split at y
    · rename_i z; exact z.1
    · exact absurd y (by simp)
  have hh : (hby n L u).2 = true → (tah n L).2 = true := by
    unfold hby tah
    intro y
    split at y
    · rename_i z; rw [if_pos z.1]
    · exact absurd y (by simp)
  have hl : (tah n L).2 = true → Ev (fun k => (impl_AreSignals.f k n L).bind fun t_ => laws_FnSignalsReach.j0 k more n L u (hby n L u).1 (hby n L u).2 (tah n L).1 (!t_)) true := by
    intro y
    refine Ev.bind ia ?_
    rw [th y]; exact h1
  refine Ev.iff (fun y => Ev.pos (hh y) (hl (hh y))) (fun y => Ev.iff (fun y2 => hl y2) (fun _ => h1))

end Go.Proofs.YtmhbcfdodcnjmaaGreatDoor.Pure
