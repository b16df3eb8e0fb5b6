/- The law FnExactFirstMeeting, pure: what the printed functions answer, and that it is what the law asks. No condition. -/
import Derived.Test.YtocnicmnckilkaaStatFnExactFirstMeeting
import Derived.Test.YtocnicmnckilkaaPlBase
import Derived.Test.YtocnicmnckilkaaPlSig
namespace Go.Proofs.Ytocnicmnckilkaa.Pure
open Go.RowKit Go.Proofs.Ytocnicmnckilkaa.PFnExactFirstMeeting Go.Proofs.YtocnicmnckilkaaW.PrintWords Go.Proofs.YtocnicmnckilkaaW.PrintMore Go.Proofs.Ytocnicmnckilkaa.Opn Go.Proofs.Ytocnicmnckilkaa.Pl
set_option linter.unusedVariables false
set_option linter.unusedSimpArgs false
theorem in_eq (a b c : Int) : impl_in.f a b c = some (decide (b ≤ a ∧ a ≤ c)) := by
  unfold impl_in.f; by_cases h : b ≤ a <;> simp [h]
theorem l1In_eq (a b c : Int) : spec_l1In.f a b c = some (decide (b ≤ a ∧ a ≤ c)) := by
  unfold spec_l1In.f; by_cases h : b ≤ a <;> simp [h]
theorem siSoldiers_eq (a : Int) : spec_siSoldiers.f a = some (decide (1 ≤ a ∧ a ≤ 100)) := by
  unfold spec_siSoldiers.f; rw [l1In_eq]; rfl
theorem siSignal_eq (n f : Int) (l : Bool) (s : Int) : spec_siSignal.f n f l s = some (decide (sigOK n f s)) := by
  unfold spec_siSignal.f
  simp only [siSoldiers_eq, l1In_eq, Option.bind_some]
  by_cases h : 1 ≤ n ∧ n ≤ 100
  · rw [wrap64_id (x := n - 1) (by omega) (by omega)]
    by_cases h2 : 0 ≤ f ∧ f ≤ n - 1
    · unfold sigOK; simp [h, h2]
    · have k : ¬ sigOK n f s := fun q => h2 ⟨q.2.2.1, q.2.2.2.1⟩
      simp only [h, h2, k, decide_true, decide_false, if_true, Bool.false_eq_true, if_false]; simp
  · simp only [h, decide_false]
    have : ¬ sigOK n f s := fun k => h ⟨k.1, k.2.1⟩
    simp [this]
theorem isSignalRow_eq (a : Int) : impl_isSignalRow.f a = some (decide (1 ≤ a ∧ a ≤ 100)) := by
  unfold impl_isSignalRow.f; rw [in_eq]; rfl
theorem isSignal_eq (n f : Int) (l : Bool) (s : Int) : impl_isSignal.f n f l s = some (decide (sigOK n f s)) := by
  unfold impl_isSignal.f
  simp only [isSignalRow_eq, in_eq, Option.bind_some]
  by_cases h : 1 ≤ n ∧ n ≤ 100
  · rw [wrap64_id (x := n - 1) (by omega) (by omega)]
    by_cases h2 : 0 ≤ f ∧ f ≤ n - 1
    · unfold sigOK; simp [h, h2]
    · have k : ¬ sigOK n f s := fun q => h2 ⟨q.2.2.1, q.2.2.2.1⟩
      simp only [h, h2, k, decide_true, decide_false, if_true, Bool.false_eq_true, if_false]; simp
  · simp only [h, decide_false]
    have : ¬ sigOK n f s := fun k => h ⟨k.1, k.2.1⟩
    simp [this]
theorem siAt_eq {n f : Int} {l : Bool} {s t : Int} (h : sigOK n f s) (ht : 0 ≤ t) (ht' : t ≤ 1000000000) : spec_siAt.f n f l s t = some (plc n f l s t) := by
  have h0 := h
  unfold sigOK at h
  unfold spec_siAt.f plc
  by_cases h1 : n = 1
  · rw [if_pos h1, if_pos h1]
  · rw [if_neg h1, if_neg h1]
    have hq0 : 0 ≤ t / s := Int.ediv_nonneg ht (by omega)
    have hq1 : t / s ≤ t := Int.ediv_le_self s ht
    rw [wrap64_id (x := n - 1) (by omega) (by omega), wrap64_id (x := 2 * (n - 1)) (by omega) (by omega), tdiv_nn ht, wrap64_id (x := t / s) (by omega) (by omega)]
    generalize t / s = q at hq0 hq1
    cases l with
    | true =>
      simp only [if_true]
      rw [if_neg (show ¬ s = 0 by omega), if_neg (show ¬ 2 * (n - 1) = 0 by omega), wrap64_id (x := 2 * (n - 1) - f) (by omega) (by omega), wrap64_id (x := 2 * (n - 1) - f + q) (by omega) (by omega), tmod_nn (by omega)]
      have hm := Int.emod_nonneg (2 * (n - 1) - f + q) (show 2 * (n - 1) ≠ 0 by omega)
      have hM := Int.emod_lt_of_pos (2 * (n - 1) - f + q) (show 0 < 2 * (n - 1) by omega)
      generalize (2 * (n - 1) - f + q) % (2 * (n - 1)) = m at hm hM
      rw [wrap64_id (x := 2 * (n - 1) - m) (by omega) (by omega)]
      unfold spec_l1Least.f
      split <;> rfl
    | false =>
      simp only [Bool.false_eq_true, if_false]
      rw [if_neg (show ¬ s = 0 by omega), if_neg (show ¬ 2 * (n - 1) = 0 by omega), wrap64_id (x := f + q) (by omega) (by omega), tmod_nn (by omega)]
      have hm := Int.emod_nonneg (f + q) (show 2 * (n - 1) ≠ 0 by omega)
      have hM := Int.emod_lt_of_pos (f + q) (show 0 < 2 * (n - 1) by omega)
      generalize (f + q) % (2 * (n - 1)) = m at hm hM
      rw [wrap64_id (x := 2 * (n - 1) - m) (by omega) (by omega)]
      unfold spec_l1Least.f
      split <;> rfl
theorem place_eq {n f : Int} {l : Bool} {s t : Int} (h : sigOK n f s) (ht : 0 ≤ t) (ht' : t ≤ 1000000000) : impl_Signal_place.f f l s n t = some (plc n f l s t) := by
  have h0 := h
  unfold sigOK at h
  unfold impl_Signal_place.f impl_around.f plc
  by_cases h1 : n = 1
  · rw [if_pos h1, if_pos h1]
  · rw [if_neg h1, if_neg h1]
    have hq0 : 0 ≤ t / s := Int.ediv_nonneg ht (by omega)
    have hq1 : t / s ≤ t := Int.ediv_le_self s ht
    rw [wrap64_id (x := n - 1) (by omega) (by omega), wrap64_id (x := 2 * (n - 1)) (by omega) (by omega), tdiv_nn ht, wrap64_id (x := t / s) (by omega) (by omega)]
    have hmx : mx (2 * (n - 1)) 1 = 2 * (n - 1) := by unfold mx; rw [if_neg (by omega)]
    simp only [Option.bind_some, hmx]
    generalize t / s = q at hq0 hq1
    cases l with
    | true =>
      simp only [if_true]
      rw [if_neg (show ¬ s = 0 by omega), if_neg (show ¬ 2 * (n - 1) = 0 by omega), wrap64_id (x := 2 * (n - 1) - f) (by omega) (by omega), wrap64_id (x := 2 * (n - 1) - f + q) (by omega) (by omega), tmod_nn (by omega)]
      have hm := Int.emod_nonneg (2 * (n - 1) - f + q) (show 2 * (n - 1) ≠ 0 by omega)
      have hM := Int.emod_lt_of_pos (2 * (n - 1) - f + q) (show 0 < 2 * (n - 1) by omega)
      generalize (2 * (n - 1) - f + q) % (2 * (n - 1)) = m at hm hM
      rw [wrap64_id (x := 2 * (n - 1) - m) (by omega) (by omega)]
      unfold mn
      congr 1
      split <;> split <;> omega
    | false =>
      simp only [Bool.false_eq_true, if_false]
      rw [if_neg (show ¬ s = 0 by omega), if_neg (show ¬ 2 * (n - 1) = 0 by omega), wrap64_id (x := f + q) (by omega) (by omega), tmod_nn (by omega)]
      have hm := Int.emod_nonneg (f + q) (show 2 * (n - 1) ≠ 0 by omega)
      have hM := Int.emod_lt_of_pos (f + q) (show 0 < 2 * (n - 1) by omega)
      generalize (f + q) % (2 * (n - 1)) = m at hm hM
      rw [wrap64_id (x := 2 * (n - 1) - m) (by omega) (by omega)]
      unfold mn
      congr 1
      split <;> split <;> omega
theorem siComes_eq {n f : Int} {l : Bool} {s t : Int} (h : sigOK n f s) (ht : 0 ≤ t) : spec_siComes.f n f l s t = some (cms n s t) := by
  unfold sigOK at h
  unfold spec_siComes.f cms
  by_cases h1 : t = 0
  · simp [h1]
  · rw [if_neg h1]
    by_cases h2 : n > 1
    · rw [if_pos h2, if_neg (show ¬ s = 0 by omega), tmod_nn ht]; simp [h1, h2]; rfl
    · rw [if_neg h2]; simp [h1]; omega
theorem comes_eq {n f : Int} {l : Bool} {s t : Int} (h : sigOK n f s) (ht : 0 ≤ t) : impl_Signal_comes.f f l s n t = some (cms n s t) := by
  unfold sigOK at h
  unfold impl_Signal_comes.f cms
  by_cases h1 : t = 0
  · simp [h1]
  · rw [if_neg h1]
    by_cases h2 : n > 1
    · rw [if_pos h2, if_neg (show ¬ s = 0 by omega), tmod_nn ht]; simp [h1, h2]; rfl
    · rw [if_neg h2]; simp [h1]; omega
theorem siMeet_ev {n f : Int} {l : Bool} {s f' : Int} {l' : Bool} {s' t : Int} (h : sigOK n f s) (h' : sigOK n f' s') (ht : 0 ≤ t) (ht' : t ≤ 1000000000) : Ev (fun k => spec_siMeet.f k n f l s f' l' s' t) (mtg n f l s f' l' s' t) := by
  unfold spec_siMeet.f mtg
  simp only [siComes_eq h ht, siComes_eq h' ht, Option.bind_some]
  refine Ev.iff (fun hc => ?_) (fun hc => ?_)
  · refine Ev.succ ?_
    simp only [spec_siMeet.j0, siAt_eq h ht ht', siAt_eq h' ht ht', Option.bind_some]
    refine Ev.const ?_
    simp [hc]; rfl
  · refine Ev.succ ?_
    simp only [spec_siMeet.j0, siAt_eq h ht ht', siAt_eq h' ht ht', Option.bind_some]
    refine Ev.const ?_
    cases h2 : cms n s' t <;> simp [hc]; rfl
theorem meet_eq {n f : Int} {l : Bool} {s f' : Int} {l' : Bool} {s' t : Int} (h : sigOK n f s) (h' : sigOK n f' s') (ht : 0 ≤ t) (ht' : t ≤ 1000000000) : impl_meet.f n f l s f' l' s' t = some (mtg n f l s f' l' s' t) := by
  unfold impl_meet.f mtg
  simp only [place_eq h ht ht', place_eq h' ht ht', comes_eq h ht, comes_eq h' ht, Option.bind_some]
  by_cases hp : plc n f l s t = plc n f' l' s' t
  · rw [if_pos hp]
    cases cms n s t <;> simp [hp]
  · rw [if_neg hp]; simp [hp]
theorem siFirst_loop {n f : Int} {l : Bool} {s f' : Int} {l' : Bool} {s' : Int} (h : sigOK n f s) (h' : sigOK n f' s') : ∀ (d : Nat) (t : Int), 0 ≤ t → 100001 - t = d →
    Ev (fun k => spec_FirstMeeting.l0 k n t f l s f' l' s') (match fst (mtg n f l s f' l' s') t d with | some q => (q, plc n f l s q, true) | none => (0, 0, false)) := by
  intro d
  induction d with
  | zero =>
    intro t h0 h1
    refine Ev.succ ?_
    simp only [spec_FirstMeeting.l0]
    exact Ev.neg (by omega) (Ev.const rfl)
  | succ d ih =>
    intro t h0 h1
    refine Ev.succ ?_
    simp only [spec_FirstMeeting.l0]
    refine Ev.pos (by omega) (Ev.bind (siMeet_ev h h' h0 (by omega)) ?_)
    rw [wrap64_id (x := t + 1) (by omega) (by omega)]
    simp only [fst, siAt_eq h h0 (show t ≤ 1000000000 by omega), Option.bind_some]
    refine Ev.iff (fun hc => ?_) (fun hc => ?_)
    · simp only [hc, if_true]; exact Ev.now _
    · simp only [hc, Bool.false_eq_true, if_false]; exact ih (t + 1) (by omega) (by omega)
theorem siFirstMeeting_ev (n f : Int) (l : Bool) (s f' : Int) (l' : Bool) (s' : Int) : Ev (fun k => spec_FirstMeeting.f k n f l s f' l' s')
    (if sigOK n f s ∧ sigOK n f' s' then (match fst (mtg n f l s f' l' s') 0 100001 with | some q => (q, plc n f l s q, true) | none => (0, 0, false)) else (0, 0, false)) := by
  unfold spec_FirstMeeting.f
  simp only [siSignal_eq, Option.bind_some]
  by_cases h : sigOK n f s
  · by_cases h' : sigOK n f' s'
    · simp only [h, h', decide_true, if_true, Bool.not_true, and_self]
      refine Ev.succ ?_
      simp only [spec_FirstMeeting.j0, Bool.false_eq_true, if_false]
      exact siFirst_loop h h' 100001 0 (by omega) (by omega)
    · simp only [h, h', decide_true, if_true, decide_false, Bool.not_false, and_false, if_false]
      refine Ev.succ ?_
      simp only [spec_FirstMeeting.j0, if_true]
      exact Ev.now _
  · simp only [h, decide_false, Bool.false_eq_true, if_false, false_and]
    refine Ev.succ ?_
    simp only [spec_FirstMeeting.j0, if_true]
    exact Ev.now _
theorem imFirst_loop {n f : Int} {l : Bool} {s f' : Int} {l' : Bool} {s' : Int} (h : sigOK n f s) (h' : sigOK n f' s') : ∀ (d : Nat) (t : Int), 0 ≤ t → 100001 - t = d →
    Ev (fun k => impl_firstMeeting.l0 k n t f l s f' l' s') ((fst (mtg n f l s f' l' s') t d).getD (-1)) := by
  intro d
  induction d with
  | zero =>
    intro t h0 h1
    refine Ev.succ ?_
    simp only [impl_firstMeeting.l0]
    exact Ev.neg (by omega) (Ev.const rfl)
  | succ d ih =>
    intro t h0 h1
    refine Ev.succ ?_
    simp only [impl_firstMeeting.l0, meet_eq h h' h0 (show t ≤ 1000000000 by omega), Option.bind_some]
    refine Ev.pos (by omega) ?_
    rw [wrap64_id (x := t + 1) (by omega) (by omega)]
    simp only [fst]
    refine Ev.iff (fun hc => ?_) (fun hc => ?_)
    · simp only [hc, if_true]; exact Ev.now _
    · simp only [hc, Bool.false_eq_true, if_false]; exact ih (t + 1) (by omega) (by omega)
theorem imFirst_ev {n f : Int} {l : Bool} {s f' : Int} {l' : Bool} {s' : Int} (h : sigOK n f s) (h' : sigOK n f' s') (t : Int) (h0 : 0 ≤ t) (h1 : t ≤ 100001) :
    Ev (fun k => impl_firstMeeting.f k n f l s f' l' s' t) ((fst (mtg n f l s f' l' s') t (100001 - t).toNat).getD (-1)) := by
  unfold impl_firstMeeting.f
  exact imFirst_loop h h' _ t h0 (by omega)
theorem imFirstMeeting_ev (n f : Int) (l : Bool) (s f' : Int) (l' : Bool) (s' : Int) : Ev (fun k => impl_FirstMeeting.f k n f l s f' l' s')
    (if sigOK n f s ∧ sigOK n f' s' then (match fst (mtg n f l s f' l' s') 0 100001 with | some q => (q, plc n f l s q, true) | none => (0, 0, false)) else (0, 0, false)) := by
  unfold impl_FirstMeeting.f
  simp only [isSignal_eq, Option.bind_some]
  by_cases h : sigOK n f s
  · by_cases h' : sigOK n f' s'
    · simp only [h, h', decide_true, if_true, Bool.not_true, and_self]
      refine Ev.succ ?_
      simp only [impl_FirstMeeting.j0, Bool.false_eq_true, if_false]
      refine Ev.bind (imFirst_ev h h' 0 (by omega) (by omega)) ?_
      have e : (100001 - (0 : Int)).toNat = 100001 := rfl
      rw [e]
      cases hf : fst (mtg n f l s f' l' s') 0 100001 with
      | none => exact Ev.pos (by simp) (Ev.now _)
      | some q =>
        obtain ⟨h1, h2, _, _⟩ := fst_some _ _ _ _ hf
        simp only [Option.getD_some]
        refine Ev.neg (by omega) ?_
        simp only [place_eq h h1 (show q ≤ 1000000000 by omega), Option.bind_some]
        exact Ev.now _
    · simp only [h, h', decide_true, if_true, decide_false, Bool.not_false, and_false, if_false]
      refine Ev.succ ?_
      simp only [impl_FirstMeeting.j0, if_true]
      exact Ev.now _
  · simp only [h, decide_false, Bool.false_eq_true, if_false, false_and]
    refine Ev.succ ?_
    simp only [impl_FirstMeeting.j0, if_true]
    exact Ev.now _
theorem FnExactFirstMeeting : StatFnExactFirstMeeting := by
  intro n f l s f' l' s' _ _ _ _ _
  refine Ev.get ?_
  unfold laws_FnExactFirstMeeting.f laws_toSignal.f
  simp only [Option.bind_some]
  refine Ev.bind (siFirstMeeting_ev n f l s f' l' s') (Ev.bind (imFirstMeeting_ev n f l s f' l' s') (Ev.const ?_))
  simp

end Go.Proofs.Ytocnicmnckilkaa.Pure
