/- The law FnSignalsGo, pure: what the printed functions answer, and that it is what the law asks. No condition. -/
import Derived.Test.YtlhhbkdeginhoaaStatFnSignalsGo
import Derived.Test.YtlhhbkdeginhoaaPlBase
import Derived.Test.YtlhhbkdeginhoaaPlSig
import Derived.Test.YtlhhbkdeginhoaaPlTms
import Derived.Test.YtlhhbkdeginhoaaPlList
import Derived.Test.YtlhhbkdeginhoaaPlGo
namespace Go.Proofs.Ytlhhbkdeginhoaa.Pure
open Go.RowKit Go.Proofs.Ytlhhbkdeginhoaa.PFnSignalsGo Go.Proofs.YtlhhbkdeginhoaaW.PrintWords Go.Proofs.YtlhhbkdeginhoaaW.PrintMore Go.Proofs.Ytlhhbkdeginhoaa.Opn Go.Proofs.Ytlhhbkdeginhoaa.Pl
set_option linter.unusedVariables false
set_option linter.unusedSimpArgs false
theorem in_eq (a b c : Int) : impl_in.f a b c = some (decide (b ≤ a ∧ a ≤ c)) := by
  unfold impl_in.f; by_cases h : b ≤ a <;> simp [h]
theorem l1In_eq (a b c : Int) : spec_l1In.f a b c = some (decide (b ≤ a ∧ a ≤ c)) := by
  unfold spec_l1In.f; by_cases h : b ≤ a <;> simp [h]
theorem siSoldiers_eq (a : Int) : spec_siSoldiers.f a = some (decide (1 ≤ a ∧ a ≤ 100)) := by
  unfold spec_siSoldiers.f; rw [l1In_eq]; rfl
theorem siSignal_eq (n f : Int) (l : Bool) (s : Int) : spec_siSignal.f n f l s = some (decide (sigOK n f s)) := by
  unfold spec_siSignal.f
  simp only [siSoldiers_eq, l1In_eq, Option.bind_some]
  by_cases h : 1 ≤ n ∧ n ≤ 100
  · rw [wrap64_id (x := n - 1) (by omega) (by omega)]
    by_cases h2 : 0 ≤ f ∧ f ≤ n - 1
    · unfold sigOK; simp [h, h2]
    · have k : ¬ sigOK n f s := fun q => h2 ⟨q.2.2.1, q.2.2.2.1⟩
      simp only [h, h2, k, decide_true, decide_false, if_true, Bool.false_eq_true, if_false]; simp
  · simp only [h, decide_false]
    have : ¬ sigOK n f s := fun k => h ⟨k.1, k.2.1⟩
    simp [this]
theorem isSignalRow_eq (a : Int) : impl_isSignalRow.f a = some (decide (1 ≤ a ∧ a ≤ 100)) := by
  unfold impl_isSignalRow.f; rw [in_eq]; rfl
theorem isSignal_eq (n f : Int) (l : Bool) (s : Int) : impl_isSignal.f n f l s = some (decide (sigOK n f s)) := by
  unfold impl_isSignal.f
  simp only [isSignalRow_eq, in_eq, Option.bind_some]
  by_cases h : 1 ≤ n ∧ n ≤ 100
  · rw [wrap64_id (x := n - 1) (by omega) (by omega)]
    by_cases h2 : 0 ≤ f ∧ f ≤ n - 1
    · unfold sigOK; simp [h, h2]
    · have k : ¬ sigOK n f s := fun q => h2 ⟨q.2.2.1, q.2.2.2.1⟩
      simp only [h, h2, k, decide_true, decide_false, if_true, Bool.false_eq_true, if_false]; simp
  · simp only [h, decide_false]
    have : ¬ sigOK n f s := fun k => h ⟨k.1, k.2.1⟩
    simp [this]
theorem siAt_eq {n f : Int} {l : Bool} {s t : Int} (h : sigOK n f s) (ht : 0 ≤ t) (ht' : t ≤ 1000000000) : spec_siAt.f n f l s t = some (plc n f l s t) := by
  have h0 := h
  unfold sigOK at h
  unfold spec_siAt.f plc
  by_cases h1 : n = 1
  · rw [if_pos h1, if_pos h1]
  · rw [if_neg h1, if_neg h1]
    have hq0 : 0 ≤ t / s := Int.ediv_nonneg ht (by omega)
    have hq1 : t / s ≤ t := Int.ediv_le_self s ht
    rw [wrap64_id (x := n - 1) (by omega) (by omega), wrap64_id (x := 2 * (n - 1)) (by omega) (by omega), tdiv_nn ht, wrap64_id (x := t / s) (by omega) (by omega)]
    generalize t / s = q at hq0 hq1
    cases l with
    | true =>
      simp only [if_true]
      rw [if_neg (show ¬ s = 0 by omega), if_neg (show ¬ 2 * (n - 1) = 0 by omega), wrap64_id (x := 2 * (n - 1) - f) (by omega) (by omega), wrap64_id (x := 2 * (n - 1) - f + q) (by omega) (by omega), tmod_nn (by omega)]
      have hm := Int.emod_nonneg (2 * (n - 1) - f + q) (show 2 * (n - 1) ≠ 0 by omega)
      have hM := Int.emod_lt_of_pos (2 * (n - 1) - f + q) (show 0 < 2 * (n - 1) by omega)
      generalize (2 * (n - 1) - f + q) % (2 * (n - 1)) = m at hm hM
      rw [wrap64_id (x := 2 * (n - 1) - m) (by omega) (by omega)]
      unfold spec_l1Least.f
      split <;> rfl
    | false =>
      simp only [Bool.false_eq_true, if_false]
      rw [if_neg (show ¬ s = 0 by omega), if_neg (show ¬ 2 * (n - 1) = 0 by omega), wrap64_id (x := f + q) (by omega) (by omega), tmod_nn (by omega)]
      have hm := Int.emod_nonneg (f + q) (show 2 * (n - 1) ≠ 0 by omega)
      have hM := Int.emod_lt_of_pos (f + q) (show 0 < 2 * (n - 1) by omega)
      generalize (f + q) % (2 * (n - 1)) = m at hm hM
      rw [wrap64_id (x := 2 * (n - 1) - m) (by omega) (by omega)]
      unfold spec_l1Least.f
      split <;> rfl
theorem place_eq {n f : Int} {l : Bool} {s t : Int} (h : sigOK n f s) (ht : 0 ≤ t) (ht' : t ≤ 1000000000) : impl_Signal_place.f f l s n t = some (plc n f l s t) := by
  have h0 := h
  unfold sigOK at h
  unfold impl_Signal_place.f impl_around.f plc
  by_cases h1 : n = 1
  · rw [if_pos h1, if_pos h1]
  · rw [if_neg h1, if_neg h1]
    have hq0 : 0 ≤ t / s := Int.ediv_nonneg ht (by omega)
    have hq1 : t / s ≤ t := Int.ediv_le_self s ht
    rw [wrap64_id (x := n - 1) (by omega) (by omega), wrap64_id (x := 2 * (n - 1)) (by omega) (by omega), tdiv_nn ht, wrap64_id (x := t / s) (by omega) (by omega)]
    have hmx : mx (2 * (n - 1)) 1 = 2 * (n - 1) := by unfold mx; rw [if_neg (by omega)]
    simp only [Option.bind_some, hmx]
    generalize t / s = q at hq0 hq1
    cases l with
    | true =>
      simp only [if_true]
      rw [if_neg (show ¬ s = 0 by omega), if_neg (show ¬ 2 * (n - 1) = 0 by omega), wrap64_id (x := 2 * (n - 1) - f) (by omega) (by omega), wrap64_id (x := 2 * (n - 1) - f + q) (by omega) (by omega), tmod_nn (by omega)]
      have hm := Int.emod_nonneg (2 * (n - 1) - f + q) (show 2 * (n - 1) ≠ 0 by omega)
      have hM := Int.emod_lt_of_pos (2 * (n - 1) - f + q) (show 0 < 2 * (n - 1) by omega)
      generalize (2 * (n - 1) - f + q) % (2 * (n - 1)) = m at hm hM
      rw [wrap64_id (x := 2 * (n - 1) - m) (by omega) (by omega)]
      unfold mn
      congr 1
      split <;> split <;> omega
    | false =>
      simp only [Bool.false_eq_true, if_false]
      rw [if_neg (show ¬ s = 0 by omega), if_neg (show ¬ 2 * (n - 1) = 0 by omega), wrap64_id (x := f + q) (by omega) (by omega), tmod_nn (by omega)]
      have hm := Int.emod_nonneg (f + q) (show 2 * (n - 1) ≠ 0 by omega)
      have hM := Int.emod_lt_of_pos (f + q) (show 0 < 2 * (n - 1) by omega)
      generalize (f + q) % (2 * (n - 1)) = m at hm hM
      rw [wrap64_id (x := 2 * (n - 1) - m) (by omega) (by omega)]
      unfold mn
      congr 1
      split <;> split <;> omega
theorem siComes_eq {n f : Int} {l : Bool} {s t : Int} (h : sigOK n f s) (ht : 0 ≤ t) : spec_siComes.f n f l s t = some (cms n s t) := by
  unfold sigOK at h
  unfold spec_siComes.f cms
  by_cases h1 : t = 0
  · simp [h1]
  · rw [if_neg h1]
    by_cases h2 : n > 1
    · rw [if_pos h2, if_neg (show ¬ s = 0 by omega), tmod_nn ht]; simp [h1, h2]; rfl
    · rw [if_neg h2]; simp [h1]; omega
theorem comes_eq {n f : Int} {l : Bool} {s t : Int} (h : sigOK n f s) (ht : 0 ≤ t) : impl_Signal_comes.f f l s n t = some (cms n s t) := by
  unfold sigOK at h
  unfold impl_Signal_comes.f cms
  by_cases h1 : t = 0
  · simp [h1]
  · rw [if_neg h1]
    by_cases h2 : n > 1
    · rw [if_pos h2, if_neg (show ¬ s = 0 by omega), tmod_nn ht]; simp [h1, h2]; rfl
    · rw [if_neg h2]; simp [h1]; omega
theorem siMeet_ev {n f : Int} {l : Bool} {s f' : Int} {l' : Bool} {s' t : Int} (h : sigOK n f s) (h' : sigOK n f' s') (ht : 0 ≤ t) (ht' : t ≤ 1000000000) : Ev (fun k => spec_siMeet.f k n f l s f' l' s' t) (mtg n f l s f' l' s' t) := by
  unfold spec_siMeet.f mtg
  simp only [siComes_eq h ht, siComes_eq h' ht, Option.bind_some]
  refine Ev.iff (fun hc => ?_) (fun hc => ?_)
  · refine Ev.succ ?_
    simp only [spec_siMeet.j0, siAt_eq h ht ht', siAt_eq h' ht ht', Option.bind_some]
    refine Ev.const ?_
    simp [hc]; rfl
  · refine Ev.succ ?_
    simp only [spec_siMeet.j0, siAt_eq h ht ht', siAt_eq h' ht ht', Option.bind_some]
    refine Ev.const ?_
    cases h2 : cms n s' t <;> simp [hc]; rfl
theorem meet_eq {n f : Int} {l : Bool} {s f' : Int} {l' : Bool} {s' t : Int} (h : sigOK n f s) (h' : sigOK n f' s') (ht : 0 ≤ t) (ht' : t ≤ 1000000000) : impl_meet.f n f l s f' l' s' t = some (mtg n f l s f' l' s' t) := by
  unfold impl_meet.f mtg
  simp only [place_eq h ht ht', place_eq h' ht ht', comes_eq h ht, comes_eq h' ht, Option.bind_some]
  by_cases hp : plc n f l s t = plc n f' l' s' t
  · rw [if_pos hp]
    cases cms n s t <;> simp [hp]
  · rw [if_neg hp]; simp [hp]
theorem siCount_loop {n f : Int} {l : Bool} {s f' : Int} {l' : Bool} {s' u : Int} (h : sigOK n f s) (h' : sigOK n f' s') (hu : u ≤ 1000000000) : ∀ (d : Nat) (c t : Int), 0 ≤ t → u + 1 - t = d → 0 ≤ c → c ≤ t →
    Ev (fun k => spec_CountMeetings.l0 k n u c t f l s f' l' s') (c + cnt (mtg n f l s f' l' s') t d, true) := by
  intro d
  induction d with
  | zero =>
    intro c t h0 h1 h2 h3
    refine Ev.succ ?_
    simp only [spec_CountMeetings.l0]
    refine Ev.neg (by omega) (Ev.const ?_)
    simp [cnt]
  | succ d ih =>
    intro c t h0 h1 h2 h3
    refine Ev.succ ?_
    simp only [spec_CountMeetings.l0]
    refine Ev.pos (by omega) (Ev.bind (siMeet_ev h h' h0 (by omega)) ?_)
    rw [wrap64_id (x := t + 1) (by omega) (by omega), wrap64_id (x := c + 1) (by omega) (by omega)]
    simp only [cnt]
    refine Ev.iff (fun hc => ?_) (fun hc => ?_)
    · rw [if_pos hc, ← Int.add_assoc]; exact ih (c + 1) (t + 1) (by omega) (by omega) (by omega) (by omega)
    · rw [if_neg hc, Int.zero_add]; exact ih c (t + 1) (by omega) (by omega) (by omega) (by omega)
theorem spCountMeetings_ev (n f : Int) (l : Bool) (s f' : Int) (l' : Bool) (s' u : Int) : Ev (fun k => spec_CountMeetings.f k n f l s f' l' s' u)
    (if sigOK n f s ∧ sigOK n f' s' ∧ 0 ≤ u ∧ u ≤ 1000 then (cnt (mtg n f l s f' l' s') 0 (u + 1).toNat, true) else (0, false)) := by
  unfold spec_CountMeetings.f
  simp only [siSignal_eq, l1In_eq, Option.bind_some]
  by_cases h : sigOK n f s
  · by_cases h' : sigOK n f' s'
    · by_cases hu : 0 ≤ u ∧ u ≤ 1000
      · simp only [h, h', hu, decide_true, if_true, Bool.not_true, and_self]
        refine Ev.succ ?_
        simp only [spec_CountMeetings.j0, Bool.false_eq_true, if_false]
        have := siCount_loop (l := l) (l' := l') (u := u) h h' (by omega) (u + 1).toNat 0 0 (by omega) (by omega) (by omega) (by omega)
        simpa using this
      · simp only [h, h', hu, decide_true, if_true, decide_false, Bool.not_false, and_false, if_false]
        refine Ev.succ ?_
        simp only [spec_CountMeetings.j0, if_true]
        exact Ev.now _
    · simp only [h, h', decide_true, if_true, decide_false, Bool.false_eq_true, if_false, false_and, and_false]
      refine Ev.succ ?_
      simp only [spec_CountMeetings.j0, if_true]
      exact Ev.now _
  · simp only [h, decide_false, Bool.false_eq_true, if_false, false_and]
    refine Ev.succ ?_
    simp only [spec_CountMeetings.j0, if_true]
    exact Ev.now _
theorem imCount_loop {n f : Int} {l : Bool} {s f' : Int} {l' : Bool} {s' u : Int} (h : sigOK n f s) (h' : sigOK n f' s') (hu : u ≤ 1000000000) : ∀ (d : Nat) (c t : Int), 0 ≤ t → u - t = d → 0 ≤ c → c ≤ t →
    Ev (fun k => impl_CountMeetings.l0 k n c u t f l s f' l' s') (c + cnt (mtg n f l s f' l' s') t d, true) := by
  intro d
  induction d with
  | zero =>
    intro c t h0 h1 h2 h3
    refine Ev.succ ?_
    simp only [impl_CountMeetings.l0]
    refine Ev.neg (by omega) (Ev.const ?_)
    simp [cnt]
  | succ d ih =>
    intro c t h0 h1 h2 h3
    refine Ev.succ ?_
    simp only [impl_CountMeetings.l0, meet_eq h h' h0 (show t ≤ 1000000000 by omega), Option.bind_some]
    refine Ev.pos (by omega) ?_
    rw [wrap64_id (x := t + 1) (by omega) (by omega), wrap64_id (x := c + 1) (by omega) (by omega)]
    simp only [cnt]
    refine Ev.iff (fun hc => ?_) (fun hc => ?_)
    · rw [if_pos hc, ← Int.add_assoc]; exact ih (c + 1) (t + 1) (by omega) (by omega) (by omega) (by omega)
    · rw [if_neg hc, Int.zero_add]; exact ih c (t + 1) (by omega) (by omega) (by omega) (by omega)
theorem imCountMeetings_ev (n f : Int) (l : Bool) (s f' : Int) (l' : Bool) (s' u : Int) : Ev (fun k => impl_CountMeetings.f k n f l s f' l' s' u)
    (if sigOK n f s ∧ sigOK n f' s' ∧ 0 ≤ u ∧ u ≤ 1000 then (cnt (mtg n f l s f' l' s') 0 (u + 1).toNat, true) else (0, false)) := by
  unfold impl_CountMeetings.f
  simp only [isSignal_eq, in_eq, Option.bind_some]
  by_cases h : sigOK n f s
  · by_cases h' : sigOK n f' s'
    · by_cases hu : 0 ≤ u ∧ u ≤ 1000
      · simp only [h, h', hu, decide_true, if_true, Bool.not_true, and_self]
        refine Ev.succ ?_
        simp only [impl_CountMeetings.j0, Bool.false_eq_true, if_false]
        rw [wrap64_id (x := u + 1) (by omega) (by omega)]
        have := imCount_loop (l := l) (l' := l') (u := u + 1) h h' (by omega) (u + 1).toNat 0 0 (by omega) (by omega) (by omega) (by omega)
        simpa using this
      · simp only [h, h', hu, decide_true, if_true, decide_false, Bool.not_false, and_false, if_false]
        refine Ev.succ ?_
        simp only [impl_CountMeetings.j0, if_true]
        exact Ev.now _
    · simp only [h, h', decide_true, if_true, decide_false, Bool.false_eq_true, if_false, false_and, and_false]
      refine Ev.succ ?_
      simp only [impl_CountMeetings.j0, if_true]
      exact Ev.now _
  · simp only [h, decide_false, Bool.false_eq_true, if_false, false_and]
    refine Ev.succ ?_
    simp only [impl_CountMeetings.j0, if_true]
    exact Ev.now _
theorem siFirst_loop {n f : Int} {l : Bool} {s f' : Int} {l' : Bool} {s' : Int} (h : sigOK n f s) (h' : sigOK n f' s') : ∀ (d : Nat) (t : Int), 0 ≤ t → 100001 - t = d →
    Ev (fun k => spec_FirstMeeting.l0 k n t f l s f' l' s') (match fst (mtg n f l s f' l' s') t d with | some q => (q, plc n f l s q, true) | none => (0, 0, false)) := by
  intro d
  induction d with
  | zero =>
    intro t h0 h1
    refine Ev.succ ?_
    simp only [spec_FirstMeeting.l0]
    exact Ev.neg (by omega) (Ev.const rfl)
  | succ d ih =>
    intro t h0 h1
    refine Ev.succ ?_
    simp only [spec_FirstMeeting.l0]
    refine Ev.pos (by omega) (Ev.bind (siMeet_ev h h' h0 (by omega)) ?_)
    rw [wrap64_id (x := t + 1) (by omega) (by omega)]
    simp only [fst, siAt_eq h h0 (show t ≤ 1000000000 by omega), Option.bind_some]
    refine Ev.iff (fun hc => ?_) (fun hc => ?_)
    · simp only [hc, if_true]; exact Ev.now _
    · simp only [hc, Bool.false_eq_true, if_false]; exact ih (t + 1) (by omega) (by omega)
theorem siFirstMeeting_ev (n f : Int) (l : Bool) (s f' : Int) (l' : Bool) (s' : Int) : Ev (fun k => spec_FirstMeeting.f k n f l s f' l' s')
    (if sigOK n f s ∧ sigOK n f' s' then (match fst (mtg n f l s f' l' s') 0 100001 with | some q => (q, plc n f l s q, true) | none => (0, 0, false)) else (0, 0, false)) := by
  unfold spec_FirstMeeting.f
  simp only [siSignal_eq, Option.bind_some]
  by_cases h : sigOK n f s
  · by_cases h' : sigOK n f' s'
    · simp only [h, h', decide_true, if_true, Bool.not_true, and_self]
      refine Ev.succ ?_
      simp only [spec_FirstMeeting.j0, Bool.false_eq_true, if_false]
      exact siFirst_loop h h' 100001 0 (by omega) (by omega)
    · simp only [h, h', decide_true, if_true, decide_false, Bool.not_false, and_false, if_false]
      refine Ev.succ ?_
      simp only [spec_FirstMeeting.j0, if_true]
      exact Ev.now _
  · simp only [h, decide_false, Bool.false_eq_true, if_false, false_and]
    refine Ev.succ ?_
    simp only [spec_FirstMeeting.j0, if_true]
    exact Ev.now _
theorem imFirst_loop {n f : Int} {l : Bool} {s f' : Int} {l' : Bool} {s' : Int} (h : sigOK n f s) (h' : sigOK n f' s') : ∀ (d : Nat) (t : Int), 0 ≤ t → 100001 - t = d →
    Ev (fun k => impl_firstMeeting.l0 k n t f l s f' l' s') ((fst (mtg n f l s f' l' s') t d).getD (-1)) := by
  intro d
  induction d with
  | zero =>
    intro t h0 h1
    refine Ev.succ ?_
    simp only [impl_firstMeeting.l0]
    exact Ev.neg (by omega) (Ev.const rfl)
  | succ d ih =>
    intro t h0 h1
    refine Ev.succ ?_
    simp only [impl_firstMeeting.l0, meet_eq h h' h0 (show t ≤ 1000000000 by omega), Option.bind_some]
    refine Ev.pos (by omega) ?_
    rw [wrap64_id (x := t + 1) (by omega) (by omega)]
    simp only [fst]
    refine Ev.iff (fun hc => ?_) (fun hc => ?_)
    · simp only [hc, if_true]; exact Ev.now _
    · simp only [hc, Bool.false_eq_true, if_false]; exact ih (t + 1) (by omega) (by omega)
theorem imFirst_ev {n f : Int} {l : Bool} {s f' : Int} {l' : Bool} {s' : Int} (h : sigOK n f s) (h' : sigOK n f' s') (t : Int) (h0 : 0 ≤ t) (h1 : t ≤ 100001) :
    Ev (fun k => impl_firstMeeting.f k n f l s f' l' s' t) ((fst (mtg n f l s f' l' s') t (100001 - t).toNat).getD (-1)) := by
  unfold impl_firstMeeting.f
  exact imFirst_loop h h' _ t h0 (by omega)
theorem imFirstMeeting_ev (n f : Int) (l : Bool) (s f' : Int) (l' : Bool) (s' : Int) : Ev (fun k => impl_FirstMeeting.f k n f l s f' l' s')
    (if sigOK n f s ∧ sigOK n f' s' then (match fst (mtg n f l s f' l' s') 0 100001 with | some q => (q, plc n f l s q, true) | none => (0, 0, false)) else (0, 0, false)) := by
  unfold impl_FirstMeeting.f
  simp only [isSignal_eq, Option.bind_some]
  by_cases h : sigOK n f s
  · by_cases h' : sigOK n f' s'
    · simp only [h, h', decide_true, if_true, Bool.not_true, and_self]
      refine Ev.succ ?_
      simp only [impl_FirstMeeting.j0, Bool.false_eq_true, if_false]
      refine Ev.bind (imFirst_ev h h' 0 (by omega) (by omega)) ?_
      have e : (100001 - (0 : Int)).toNat = 100001 := rfl
      rw [e]
      cases hf : fst (mtg n f l s f' l' s') 0 100001 with
      | none => exact Ev.pos (by simp) (Ev.now _)
      | some q =>
        obtain ⟨h1, h2, _, _⟩ := fst_some _ _ _ _ hf
        simp only [Option.getD_some]
        refine Ev.neg (by omega) ?_
        simp only [place_eq h h1 (show q ≤ 1000000000 by omega), Option.bind_some]
        exact Ev.now _
    · simp only [h, h', decide_true, if_true, decide_false, Bool.not_false, and_false, if_false]
      refine Ev.succ ?_
      simp only [impl_FirstMeeting.j0, if_true]
      exact Ev.now _
  · simp only [h, decide_false, Bool.false_eq_true, if_false, false_and]
    refine Ev.succ ?_
    simp only [impl_FirstMeeting.j0, if_true]
    exact Ev.now _
theorem spTimesAt_loop {n f : Int} {l : Bool} {s p u : Int} (h : sigOK n f s) (hu : u ≤ 1000) : ∀ (d : Nat) (out : List Int) (t : Int), 0 ≤ t → u + 1 - t = d → (out.length : Int) ≤ t →
    Ev (fun k => spec_TimesAt.l0 k n p u out t f l s) (out ++ fil (atP n f l s p) t d, true) := by
  intro d
  induction d with
  | zero =>
    intro out t h0 h1 h2
    refine Ev.succ ?_
    simp only [spec_TimesAt.l0]
    refine Ev.neg (by omega) (Ev.const ?_)
    simp [fil]
  | succ d ih =>
    intro out t h0 h1 h2
    refine Ev.succ ?_
    simp only [spec_TimesAt.l0, siComes_eq h h0, siAt_eq h h0 (show t ≤ 1000000000 by omega), Option.bind_some]
    rw [wrap64_id (x := t + 1) (by omega) (by omega)]
    simp only [fil, atP]
    refine Ev.pos (by omega) (Ev.iff (fun hc => ?_) (fun hc => ?_))
    · refine Ev.iff (fun hp => ?_) (fun hp => ?_)
      · refine Ev.pos (by omega) ?_
        have := ih (out ++ [t]) (t + 1) (by omega) (by omega) (by simp; omega)
        simpa [hc, hp] using this
      · have := ih out (t + 1) (by omega) (by omega) (by omega)
        simpa [hc, hp] using this
    · have := ih out (t + 1) (by omega) (by omega) (by omega)
      simpa [hc] using this
theorem spTimesAt_ev (n f : Int) (l : Bool) (s p u : Int) (hn : I64 n) : Ev (fun k => spec_TimesAt.f k n f l s p u) (tms n f l s p u) := by
  unfold spec_TimesAt.f tms
  simp only [siSignal_eq, l1In_eq, Option.bind_some]
  by_cases h : sigOK n f s
  · have h' := h
    unfold sigOK at h'
    rw [wrap64_id (x := n - 1) (by omega) (by omega)]
    by_cases hp : 0 ≤ p ∧ p ≤ n - 1
    · by_cases hu : 0 ≤ u ∧ u ≤ 1000
      · simp only [h, hp, hu, decide_true, if_true, Bool.not_true, and_self]
        refine Ev.succ ?_
        simp only [spec_TimesAt.j0, Bool.false_eq_true, if_false]
        have := spTimesAt_loop (l := l) (p := p) h hu.2 (u + 1).toNat [] 0 (by omega) (by omega) (by simp)
        simpa using this
      · simp only [h, hp, hu, decide_true, if_true, decide_false, Bool.not_false, and_false, if_false]
        refine Ev.succ ?_
        simp only [spec_TimesAt.j0, if_true]
        exact Ev.now _
    · simp only [h, hp, decide_true, if_true, decide_false, Bool.false_eq_true, if_false, false_and, and_false]
      refine Ev.succ ?_
      simp only [spec_TimesAt.j0, if_true]
      exact Ev.now _
  · simp only [h, decide_false, Bool.false_eq_true, if_false, false_and]
    refine Ev.succ ?_
    simp only [spec_TimesAt.j0, if_true]
    exact Ev.now _
theorem imTimesAt_loop {n f : Int} {l : Bool} {s p u : Int} (h : sigOK n f s) (hu : u ≤ 1001) : ∀ (d : Nat) (out : List Int) (t : Int), 0 ≤ t → u - t = d → (out.length : Int) ≤ t →
    Ev (fun k => impl_TimesAt.l0 k n p out u t f l s) (out ++ fil (atP n f l s p) t d, true) := by
  intro d
  induction d with
  | zero =>
    intro out t h0 h1 h2
    refine Ev.succ ?_
    simp only [impl_TimesAt.l0]
    refine Ev.neg (by omega) (Ev.const ?_)
    simp [fil]
  | succ d ih =>
    intro out t h0 h1 h2
    refine Ev.succ ?_
    simp only [impl_TimesAt.l0, comes_eq h h0, place_eq h h0 (show t ≤ 1000000000 by omega), Option.bind_some]
    rw [wrap64_id (x := t + 1) (by omega) (by omega)]
    simp only [fil, atP]
    refine Ev.pos (by omega) (Ev.iff (fun hc => ?_) (fun hc => ?_))
    · refine Ev.iff (fun hp => ?_) (fun hp => ?_)
      · refine Ev.pos (by omega) ?_
        have := ih (out ++ [t]) (t + 1) (by omega) (by omega) (by simp; omega)
        simpa [hc, hp] using this
      · have := ih out (t + 1) (by omega) (by omega) (by omega)
        simpa [hc, hp] using this
    · have := ih out (t + 1) (by omega) (by omega) (by omega)
      simpa [hc] using this
theorem imTimesAt_ev (n f : Int) (l : Bool) (s p u : Int) (hn : I64 n) : Ev (fun k => impl_TimesAt.f k n f l s p u) (tms n f l s p u) := by
  unfold impl_TimesAt.f tms
  simp only [isSignal_eq, in_eq, Option.bind_some]
  by_cases h : sigOK n f s
  · have h' := h
    unfold sigOK at h'
    rw [wrap64_id (x := n - 1) (by omega) (by omega)]
    by_cases hp : 0 ≤ p ∧ p ≤ n - 1
    · by_cases hu : 0 ≤ u ∧ u ≤ 1000
      · simp only [h, hp, hu, decide_true, if_true, Bool.not_true, and_self]
        refine Ev.succ ?_
        simp only [impl_TimesAt.j0, Bool.false_eq_true, if_false]
        rw [wrap64_id (x := u + 1) (by omega) (by omega)]
        have := imTimesAt_loop (l := l) (p := p) (u := u + 1) h (by omega) (u + 1).toNat [] 0 (by omega) (by omega) (by simp)
        simpa using this
      · simp only [h, hp, hu, decide_true, if_true, decide_false, Bool.not_false, and_false, if_false]
        refine Ev.succ ?_
        simp only [impl_TimesAt.j0, if_true]
        exact Ev.now _
    · simp only [h, hp, decide_true, if_true, decide_false, Bool.false_eq_true, if_false, false_and, and_false]
      refine Ev.succ ?_
      simp only [impl_TimesAt.j0, if_true]
      exact Ev.now _
  · simp only [h, decide_false, Bool.false_eq_true, if_false, false_and]
    refine Ev.succ ?_
    simp only [impl_TimesAt.j0, if_true]
    exact Ev.now _
theorem l1Least_eq (a b : Int) : spec_l1Least.f a b = some (mn a b) := by
  unfold spec_l1Least.f mn
  split <;> split <;> congr 1 <;> omega
theorem l1Most_eq (a b : Int) : spec_l1Most.f a b = some (mx a b) := by
  unfold spec_l1Most.f mx
  split <;> split <;> congr 1 <;> omega
theorem low8 (y : Int) : 0 ≤ wrap64 (Go.bits .and .u64 ((IntKind.u64.wrap y) / 1099511627776) 255) ∧ wrap64 (Go.bits .and .u64 ((IntKind.u64.wrap y) / 1099511627776) 255) ≤ 255 := by
  have hw : IntKind.u64.wrap y = y % 18446744073709551616 := by simp [IntKind.wrap, IntKind.bits, IntKind.signed]
  rw [hw]
  have hx0 : 0 ≤ y % 18446744073709551616 / 1099511627776 := by omega
  have hx1 : y % 18446744073709551616 / 1099511627776 < 2 ^ 24 := by omega
  have hm := bits_mask .u64 24 (by decide) (fun n h0 h1 => by simp [IntKind.wrap, IntKind.bits, IntKind.signed]; omega) 8 (by decide) _ hx0 hx1
  have e : (2 : Int) ^ 8 - 1 = 255 := by decide
  simp only [e] at hm
  rw [hm, wrap64_id (by omega) (by omega)]
  omega
theorem next_ok (code : List Int) (hc : ∀ x ∈ code, 0 ≤ x ∧ x ≤ 255) (p s : Int) (h0 : 0 ≤ p) (h1 : p ≤ 1000000) : ∃ v s', spec_l1Cur_next.f code p s = some (v, p + 1, s') ∧ 0 ≤ v ∧ v ≤ 255 := by
  unfold spec_l1Cur_next.f
  rw [wrap64_id (x := p + 1) (by omega) (by omega)]
  by_cases c1 : p < (code.length : Int)
  · have hm := hc _ (rd_mem (l := code) (j := p.toNat) (by omega))
    rw [show ((p.toNat : Nat) : Int) = p by omega] at hm
    rw [if_pos c1, if_pos h0, wrap64_id (x := rd code p) (by omega) (by omega)]
    by_cases c2 : p + 1 ≤ (code.length : Int)
    · rw [if_pos c2]; exact ⟨_, _, rfl, hm.1, hm.2⟩
    · rw [if_neg c2]; exact ⟨_, _, rfl, (low8 _).1, (low8 _).2⟩
  · rw [if_neg c1]
    by_cases c2 : p + 1 ≤ (code.length : Int)
    · rw [if_pos c2]; exact ⟨_, _, rfl, by omega, by omega⟩
    · rw [if_neg c2]; exact ⟨_, _, rfl, (low8 _).1, (low8 _).2⟩
theorem pick_ok (code : List Int) (hc : ∀ x ∈ code, 0 ≤ x ∧ x ≤ 255) (p s n : Int) (h0 : 0 ≤ p) (h1 : p ≤ 999990) : ∃ v p' s', spec_l1Cur_pick.f code p s n = some (v, p', s') ∧ 0 ≤ v ∧ (v < n ∨ v = 0) ∧ p ≤ p' ∧ p' ≤ p + 2 := by
  unfold spec_l1Cur_pick.f
  by_cases c1 : n ≤ 1
  · rw [if_pos c1]; exact ⟨0, p, s, rfl, by omega, .inr rfl, by omega, by omega⟩
  · rw [if_neg c1]
    obtain ⟨v, s1, e1, v0, v1⟩ := next_ok code hc p s h0 (by omega)
    rw [e1]
    simp only [Option.bind_some]
    by_cases c2 : n > 200
    · rw [if_pos c2]
      obtain ⟨u, s2, e2, u0, u1⟩ := next_ok code hc (p + 1) s1 (by omega) (by omega)
      rw [e2]
      simp only [Option.bind_some]
      rw [if_neg (show ¬ n = 0 by omega), wrap64_id (x := v * 256) (by omega) (by omega), wrap64_id (x := v * 256 + u) (by omega) (by omega), tmod_nn (by omega)]
      exact ⟨_, _, _, rfl, Int.emod_nonneg _ (by omega), .inl (Int.emod_lt_of_pos _ (by omega)), by omega, by omega⟩
    · rw [if_neg c2, if_neg (show ¬ n = 0 by omega), tmod_nn (by omega)]
      exact ⟨_, _, _, rfl, Int.emod_nonneg _ (by omega), .inl (Int.emod_lt_of_pos _ (by omega)), by omega, by omega⟩
theorem among_ok (code : List Int) (hc : ∀ x ∈ code, 0 ≤ x ∧ x ≤ 255) (p s : Int) (l : List Int) (hl : 0 < l.length) (h0 : 0 ≤ p) (h1 : p ≤ 999990) : ∃ v p' s', spec_l1Cur_among.f code p s l = some (v, p', s') ∧ v ∈ l ∧ p ≤ p' ∧ p' ≤ p + 2 := by
  unfold spec_l1Cur_among.f
  obtain ⟨v, p', s', e, v0, v1, q0, q1⟩ := pick_ok code hc p s (l.length : Int) h0 h1
  rw [e]
  simp only [Option.bind_some]
  have hv : v < (l.length : Int) := by omega
  rw [if_pos v0, if_pos hv]
  have := rd_mem (l := l) (j := v.toNat) (by omega)
  rw [show ((v.toNat : Nat) : Int) = v by omega] at this
  exact ⟨_, _, _, rfl, this, q0, q1⟩
theorem one_ok (code : List Int) (hc : ∀ x ∈ code, 0 ≤ x ∧ x ≤ 255) (p s n : Int) (h0 : 0 ≤ p) (h1 : p ≤ 999990) : ∃ v p' s', spec_l1Cur_one.f code p s n = some (v, p', s') ∧ p ≤ p' ∧ p' ≤ p + 2 := by
  unfold spec_l1Cur_one.f
  obtain ⟨v, p', s', e, _, _, q0, q1⟩ := pick_ok code hc p s n h0 h1
  rw [e]
  exact ⟨_, _, _, rfl, q0, q1⟩
theorem sure_ok (code : List Int) (hc : ∀ x ∈ code, 0 ≤ x ∧ x ≤ 255) (p s n : Int) (h0 : 0 ≤ p) (h1 : p ≤ 999900) : ∃ f l w p' s', spec_l1Cur_sureSignal.f code p s n = some (f, l, w, p', s') ∧ 0 ≤ f ∧ f ≤ 100 ∧ 1 ≤ w ∧ w ≤ 4 ∧ p ≤ p' ∧ p' ≤ p + 6 := by
  unfold spec_l1Cur_sureSignal.f
  simp only [l1Most_eq, l1Least_eq, Option.bind_some]
  have hb : mn 100 (mx 1 n) ≤ 100 := by unfold mn; split <;> omega
  generalize mn 100 (mx 1 n) = z at hb
  obtain ⟨f, p1, s1, e1, f0, f1, a0, a1⟩ := pick_ok code hc p s z h0 (by omega)
  rw [e1]
  simp only [Option.bind_some]
  obtain ⟨l, p2, s2, e2, b0, b1⟩ := one_ok code hc p1 s1 2 (by omega) (by omega)
  rw [e2]
  simp only [Option.bind_some]
  obtain ⟨w, p3, s3, e3, w0, w1, c0, c1⟩ := pick_ok code hc p2 s2 4 (by omega) (by omega)
  rw [e3]
  simp only [Option.bind_some]
  rw [wrap64_id (x := 1 + w) (by omega) (by omega)]
  exact ⟨_, _, _, _, _, rfl, f0, by omega, by omega, by omega, by omega, by omega⟩
theorem sgnl_ok (code : List Int) (hc : ∀ x ∈ code, 0 ≤ x ∧ x ≤ 255) (p s : Int) (h0 : 0 ≤ p) (h1 : p ≤ 999800) : ∃ n f l w p' s', spec_l1Cur_signal.f code p s = some (n, f, l, w, p', s') ∧ I64 n ∧ I64 f ∧ I64 w ∧ p ≤ p' ∧ p' ≤ p + 20 := by
  unfold spec_l1Cur_signal.f
  obtain ⟨n, p1, s1, e1, n0, n1, a0, a1⟩ := pick_ok code hc p s 12 h0 (by omega)
  rw [e1]
  simp only [Option.bind_some]
  rw [wrap64_id (x := 1 + n) (by omega) (by omega)]
  obtain ⟨f, l, w, p2, s2, e2, f0, f1, w0, w1, b0, b1⟩ := sure_ok code hc p1 s1 (1 + n) (by omega) (by omega)
  rw [e2]
  simp only [Option.bind_some]
  obtain ⟨c, p3, s3, e3, c0, c1, d0, d1⟩ := pick_ok code hc p2 s2 18 (by omega) (by omega)
  rw [e3]
  simp only [Option.bind_some]
  have i1 : I64 (1 + n) := by unfold I64; omega
  have i2 : I64 f := by unfold I64; omega
  have i3 : I64 w := by unfold I64; omega
  by_cases k0 : c = 0
  · rw [if_pos k0]
    obtain ⟨v, p4, s4, e4, hv, g0, g1⟩ := among_ok code hc p3 s3 [(-1), 0, 1, 100, 101, 4611686018427387904] (by simp) (by omega) (by omega)
    rw [e4]
    have iv : I64 v := by unfold I64; simp at hv; omega
    exact ⟨_, _, _, _, p4, s4, rfl, iv, i2, i3, by omega, by omega⟩
  · rw [if_neg k0]
    by_cases k1 : c = 1
    · rw [if_pos k1]
      obtain ⟨v, p4, s4, e4, hv, g0, g1⟩ := among_ok code hc p3 s3 [(-1), 0, 1, 12, 99, 100, 4611686018427387904] (by simp) (by omega) (by omega)
      rw [e4]
      have iv : I64 v := by unfold I64; simp at hv; omega
      exact ⟨_, _, _, _, p4, s4, rfl, i1, iv, i3, by omega, by omega⟩
    · rw [if_neg k1]
      by_cases k2 : c = 2
      · rw [if_pos k2]
        obtain ⟨v, p4, s4, e4, hv, g0, g1⟩ := among_ok code hc p3 s3 [(-1), 0, 1, 10, 11, 4611686018427387904] (by simp) (by omega) (by omega)
        rw [e4]
        have iv : I64 v := by unfold I64; simp at hv; omega
        exact ⟨_, _, _, _, p4, s4, rfl, i1, i2, iv, by omega, by omega⟩
      · rw [if_neg k2]
        exact ⟨_, _, _, _, p3, s3, rfl, i1, i2, i3, by omega, by omega⟩
theorem drawAt_ok (code : List Int) (hc : ∀ x ∈ code, 0 ≤ x ∧ x ≤ 255) : ∃ n f l w t, spec_DrawSignalAt.f code = some (n, f, l, w, t) ∧ I64 n ∧ I64 f ∧ I64 w ∧ I64 t := by
  unfold spec_DrawSignalAt.f
  obtain ⟨n, f, l, w, p, s, e, i1, i2, i3, q0, q1⟩ := sgnl_ok code hc 0 0 (by omega) (by omega)
  rw [e]
  simp only [Option.bind_some]
  obtain ⟨v, p4, s4, e4, hv, g0, g1⟩ := among_ok code hc p s [0, 1, 2, 3, 5, 7, 20, 99, 100000, 100001, (-1)] (by simp) (by omega) (by omega)
  rw [e4]
  have iv : I64 v := by unfold I64; simp at hv; omega
  exact ⟨_, _, _, _, _, rfl, i1, i2, i3, iv⟩
theorem drawTimes_ok (code : List Int) (hc : ∀ x ∈ code, 0 ≤ x ∧ x ≤ 255) : ∃ n f l w q t, spec_DrawTimesAt.f code = some (n, f, l, w, q, t) ∧ I64 n ∧ I64 f ∧ I64 w ∧ I64 q ∧ I64 t := by
  unfold spec_DrawTimesAt.f
  obtain ⟨n, f, l, w, p, s, e, i1, i2, i3, q0, q1⟩ := sgnl_ok code hc 0 0 (by omega) (by omega)
  rw [e]
  simp only [l1Most_eq, l1Least_eq, Option.bind_some]
  have hb : 0 ≤ mn 100 (mx 1 n) ∧ mn 100 (mx 1 n) ≤ 100 := by unfold mn mx; split <;> split <;> omega
  generalize mn 100 (mx 1 n) = z at hb
  rw [wrap64_id (x := z + 1) (by omega) (by omega)]
  obtain ⟨a, p1, s1, e1, a0, a1, b0, b1⟩ := pick_ok code hc p s (z + 1) (by omega) (by omega)
  rw [e1]
  simp only [Option.bind_some]
  obtain ⟨c, p2, s2, e2, c0, c1, d0, d1⟩ := pick_ok code hc p1 s1 9 (by omega) (by omega)
  rw [e2]
  simp only [Option.bind_some]
  obtain ⟨v, p4, s4, e4, hv, g0, g1⟩ := among_ok code hc p2 s2 [0, 1, 5, 20, 60, 1000, 1001, (-1)] (by simp) (by omega) (by omega)
  rw [e4]
  have iv : I64 v := by unfold I64; simp at hv; omega
  have hc8 : 0 ≤ c / 8 ∧ c / 8 ≤ 9 := by omega
  rw [tdiv_nn c0, wrap64_id (x := c / 8) (by omega) (by omega)]
  have iq : I64 (wrap64 (a - c / 8)) := by rw [wrap64_id (by omega) (by omega)]; unfold I64; omega
  exact ⟨_, _, _, _, _, _, rfl, i1, i2, i3, iq, iv⟩
theorem drawFirst_ok (code : List Int) (hc : ∀ x ∈ code, 0 ≤ x ∧ x ≤ 255) : ∃ n f l w f' l' w', spec_DrawFirstMeeting.f code = some (n, f, l, w, f', l', w') ∧ I64 n ∧ I64 f ∧ I64 w ∧ I64 f' ∧ I64 w' := by
  unfold spec_DrawFirstMeeting.f
  obtain ⟨n, f, l, w, p, s, e, i1, i2, i3, q0, q1⟩ := sgnl_ok code hc 0 0 (by omega) (by omega)
  rw [e]
  simp only [Option.bind_some]
  obtain ⟨f', l', w', p2, s2, e2, f0, f1, w0, w1, b0, b1⟩ := sure_ok code hc p s n (by omega) (by omega)
  rw [e2]
  exact ⟨_, _, _, _, _, _, _, rfl, i1, i2, i3, show I64 f' from by unfold I64; omega, show I64 w' from by unfold I64; omega⟩
theorem drawCount_ok (code : List Int) (hc : ∀ x ∈ code, 0 ≤ x ∧ x ≤ 255) : ∃ n f l w f' l' w' u, spec_DrawCountMeetings.f code = some (n, f, l, w, f', l', w', u) ∧ I64 n ∧ I64 f ∧ I64 w ∧ I64 f' ∧ I64 w' ∧ I64 u := by
  unfold spec_DrawCountMeetings.f
  obtain ⟨n, f, l, w, p, s, e, i1, i2, i3, q0, q1⟩ := sgnl_ok code hc 0 0 (by omega) (by omega)
  rw [e]
  simp only [Option.bind_some]
  obtain ⟨f', l', w', p2, s2, e2, f0, f1, w0, w1, b0, b1⟩ := sure_ok code hc p s n (by omega) (by omega)
  rw [e2]
  simp only [Option.bind_some]
  obtain ⟨v, p4, s4, e4, hv, g0, g1⟩ := among_ok code hc p2 s2 [0, 1, 5, 20, 60, 1000, 1001, (-1)] (by simp) (by omega) (by omega)
  rw [e4]
  have iv : I64 v := by unfold I64; simp at hv; omega
  exact ⟨_, _, _, _, _, _, _, _, rfl, i1, i2, i3, show I64 f' from by unfold I64; omega, show I64 w' from by unfold I64; omega, iv⟩
def sat (n f : Int) (l : Bool) (s t : Int) : Int × Bool := if sigOK n f s ∧ 0 ≤ t ∧ t ≤ 100000 then (plc n f l s t, true) else (0, false)
def spe (n f s : Int) : Int × Bool := if sigOK n f s then (per n s, true) else (0, false)
theorem imSat (n f : Int) (l : Bool) (s t : Int) : impl_SignalAt.f n f l s t = some (sat n f l s t) := by
  unfold impl_SignalAt.f impl_isSignalTime.f sat
  simp only [isSignal_eq, in_eq, Option.bind_some]
  by_cases h : sigOK n f s
  · rw [if_pos (by simpa using h)]
    by_cases h2 : 0 ≤ t ∧ t ≤ 100000
    · rw [if_pos (by simpa using h2), if_pos ⟨h, h2⟩, place_eq h h2.1 (by omega)]; rfl
    · rw [if_neg (by simpa using h2), if_neg (fun h3 => h2 h3.2)]
  · rw [if_neg (by simpa using h), if_neg (fun h3 => h h3.1)]
theorem spSat (n f : Int) (l : Bool) (s t : Int) : spec_SignalAt.f n f l s t = some (sat n f l s t) := by
  unfold spec_SignalAt.f spec_siTime.f sat
  simp only [siSignal_eq, l1In_eq, Option.bind_some]
  by_cases h : sigOK n f s
  · rw [if_pos (by simpa using h)]
    by_cases h2 : 0 ≤ t ∧ t ≤ 100000
    · rw [if_pos (by simpa using h2), if_pos ⟨h, h2⟩, siAt_eq h h2.1 (by omega)]; rfl
    · rw [if_neg (by simpa using h2), if_neg (fun h3 => h2 h3.2)]
  · rw [if_neg (by simpa using h), if_neg (fun h3 => h h3.1)]
theorem prod_bd {n f s : Int} (h : sigOK n f s) : 0 ≤ 2 * (n - 1) * s ∧ 2 * (n - 1) * s ≤ 1980 ∧ (n ≠ 1 → 1 ≤ 2 * (n - 1) * s) := by
  have h2 := h
  unfold sigOK at h2
  have h3 := per_pos h
  unfold per at h3
  by_cases h1 : n = 1
  · subst h1; simp
  · rw [if_neg h1] at h3; exact ⟨by omega, by omega, fun _ => h3.1⟩
theorem imPer (n f : Int) (l : Bool) (s : Int) : impl_SignalPeriod.f n f l s = some (spe n f s) := by
  unfold impl_SignalPeriod.f impl_around.f spe
  simp only [isSignal_eq, Option.bind_some]
  by_cases h : sigOK n f s
  · have h2 := h
    unfold sigOK at h2
    obtain ⟨b1, b2, b3⟩ := prod_bd h
    rw [if_pos (by simpa using h), if_pos h]
    unfold per
    by_cases h1 : n = 1
    · rw [if_pos h1, if_pos h1]
    · rw [if_neg h1, if_neg h1, wrap64_id (x := n - 1) (by omega) (by omega), wrap64_id (x := 2 * (n - 1)) (by omega) (by omega)]
      have e : mx (2 * (n - 1)) 1 = 2 * (n - 1) := by unfold mx; split <;> omega
      rw [e, wrap64_id (by omega) (by omega)]
  · rw [if_neg (by simpa using h), if_neg h]
theorem spPer (n f : Int) (l : Bool) (s : Int) : spec_SignalPeriod.f n f l s = some (spe n f s) := by
  unfold spec_SignalPeriod.f spe
  simp only [siSignal_eq, l1Most_eq, Option.bind_some]
  by_cases h : sigOK n f s
  · have h2 := h
    unfold sigOK at h2
    obtain ⟨b1, b2, b3⟩ := prod_bd h
    rw [if_pos (by simpa using h), if_pos h, wrap64_id (x := n - 1) (by omega) (by omega), wrap64_id (x := 2 * (n - 1)) (by omega) (by omega), wrap64_id (x := 2 * (n - 1) * s) (by omega) (by omega)]
    have e : mx 1 (2 * (n - 1) * s) = per n s := by
      unfold per mx
      by_cases h1 : n = 1
      · subst h1; simp
      · have := b3 h1
        rw [if_neg h1]; split <;> omega
    rw [e]
  · rw [if_neg (by simpa using h), if_neg h]
theorem vSame_loop (l : List Int) (hl : l.length ≤ 1000000000) : ∀ (d i : Nat), i + d = l.length → Ev (fun k => laws_vSame.l0 k l l (l.length : Int) (i : Int)) true := by
  intro d
  induction d with
  | zero =>
    intro i h
    refine Ev.succ ?_
    simp only [laws_vSame.l0]
    exact Ev.neg (by omega) (Ev.now _)
  | succ d ih =>
    intro i h
    refine Ev.succ ?_
    simp only [laws_vSame.l0]
    rw [wrap64_id (x := (i : Int) + 1) (by omega) (by omega)]
    exact Ev.pos (by omega) (Ev.pos (by omega) (Ev.pos (by omega) (Ev.pos (by omega) (Ev.pos (by first | rfl | trivial) (ih (i + 1) (by omega))))))
theorem vSame_ev (l : List Int) (hl : l.length ≤ 1000000000) : Ev (fun k => laws_vSame.f k l l) true := by
  unfold laws_vSame.f
  exact Ev.pos (by first | rfl | trivial) (vSame_loop l hl l.length 0 (by omega))
/-- Rising. -/
def ris (l : List Int) : Prop := ∀ (i : Nat) (h : i + 1 < l.length), l[i]'(by omega) < l[i + 1]
theorem fil_ge (p : Int → Bool) : ∀ (d : Nat) (t x : Int), x ∈ fil p t d → t ≤ x ∧ x < t + d ∧ p x = true
  | 0, t, x, h => by simp [fil] at h
  | d + 1, t, x, h => by
    simp only [fil, List.mem_append] at h
    rcases h with h | h
    · split at h
      · next hp => simp at h; subst h; exact ⟨by omega, by omega, hp⟩
      · simp at h
    · obtain ⟨h1, h2, h3⟩ := fil_ge p d (t + 1) x h
      exact ⟨by omega, by omega, h3⟩
theorem fil_ris (p : Int → Bool) : ∀ (d : Nat) (t : Int), ris (fil p t d)
  | 0, t => by intro i h; simp [fil] at h
  | d + 1, t => by
    have ih := fil_ris p d (t + 1)
    intro i h
    by_cases hp : p t = true
    · have e : fil p t (d + 1) = t :: fil p (t + 1) d := by simp [fil, hp]
      simp only [e] at h ⊢
      cases i with
      | zero =>
        have hm := List.getElem_mem (l := fil p (t + 1) d) (n := 0) (by simpa using h)
        have := (fil_ge p d (t + 1) _ hm).1
        simp only [List.getElem_cons_zero, List.getElem_cons_succ]
        omega
      | succ i =>
        have := ih i (by simpa using h)
        simpa using this
    · have e : fil p t (d + 1) = fil p (t + 1) d := by simp [fil, hp]
      simp only [e] at h ⊢
      exact ih i h
theorem rdI {l : List Int} {i : Nat} (h : i < l.length) : rd l (i : Int) = l[i] := by simp [rd, h]
theorem vRises_loop (l : List Int) (hl : l.length ≤ 1000000000) (hr : ris l) : ∀ (d i : Nat), i + d = l.length → 1 ≤ i → Ev (fun k => laws_vRises.l0 k l (i : Int)) true := by
  intro d
  induction d with
  | zero =>
    intro i h h1
    refine Ev.succ ?_
    simp only [laws_vRises.l0]
    exact Ev.neg (by omega) (Ev.now _)
  | succ d ih =>
    intro i h h1
    refine Ev.succ ?_
    simp only [laws_vRises.l0]
    have e1 : (i : Int) - 1 = ((i - 1 : Nat) : Int) := by omega
    rw [wrap64_id (x := (i : Int) + 1) (by omega) (by omega), e1, wrap64_id (x := ((i - 1 : Nat) : Int)) (by omega) (by omega), rdI (i := i - 1) (by omega), rdI (i := i) (by omega)]
    have := hr (i - 1) (by omega)
    simp only [show i - 1 + 1 = i by omega] at this
    exact Ev.pos (by omega) (Ev.pos (by omega) (Ev.pos (by omega) (Ev.pos (by omega) (Ev.neg (by omega) (ih (i + 1) (by omega) (by omega))))))
theorem vRises_ev (l : List Int) (hl : l.length ≤ 1000000000) (hr : ris l) : Ev (fun k => laws_vRises.f k l) true := by
  unfold laws_vRises.f
  by_cases h0 : l.length = 0
  · refine Ev.succ ?_
    simp only [laws_vRises.l0]
    exact Ev.neg (by omega) (Ev.now _)
  · exact vRises_loop l hl hr (l.length - 1) 1 (by omega) (by omega)
theorem cnt_first (p : Int → Bool) : ∀ (d : Nat) (t : Int), (∀ x, t ≤ x → x < t + d → p x = false) → p (t + d) = true → cnt p t (d + 1) = 1
  | 0, t, _, h => by simp only [cnt]; rw [if_pos (by simpa using h)]; rfl
  | d + 1, t, h0, h => by
    have e := cnt_first p d (t + 1) (fun x h1 h2 => h0 x (by omega) (by omega)) (by rw [show t + 1 + (d : Int) = t + ((d + 1 : Nat) : Int) by omega]; exact h)
    rw [cnt, e, if_neg (by rw [h0 t (by omega) (by omega)]; decide)]
    rfl
def fme (n f : Int) (l : Bool) (s f' : Int) (l' : Bool) (s' : Int) : Int × Int × Bool := if sigOK n f s ∧ sigOK n f' s' then (match fst (mtg n f l s f' l' s') 0 100001 with | some q => (q, plc n f l s q, true) | none => (0, 0, false)) else (0, 0, false)
def cme (n f : Int) (l : Bool) (s f' : Int) (l' : Bool) (s' u : Int) : Int × Bool := if sigOK n f s ∧ sigOK n f' s' ∧ 0 ≤ u ∧ u ≤ 1000 then (cnt (mtg n f l s f' l' s') 0 (u + 1).toNat, true) else (0, false)
theorem cme_tail (n f : Int) (l : Bool) (s f' : Int) (l' : Bool) (s' u : Int) :
    (if (cme n f l s f' l' s' u).2 = true then (if (cme n f l s f' l' s' u).1 < 0 then (some false) else (if (cme n f l s f' l' s' u).1 > (wrap64 (u + 1)) then (some false) else (some true))) else (some true)) = some true := by
  unfold cme
  by_cases h : sigOK n f s ∧ sigOK n f' s' ∧ 0 ≤ u ∧ u ≤ 1000
  · rw [if_pos h]
    have hb := cnt_bd (mtg n f l s f' l' s') (u + 1).toNat 0
    rw [if_pos rfl, if_neg (by omega), wrap64_id (by omega) (by omega), if_neg (by omega)]
  · rw [if_neg h, if_neg (by simp)]
theorem go_j7 (n f : Int) (l : Bool) (s f' : Int) (l' : Bool) (s' : Int) (u a : Int) (b : Bool) (h : (if b = true then (if a < 0 then (some false) else (if a > (wrap64 (u + 1)) then (some false) else (some true))) else (some true)) = some true) :
    Ev (fun k => laws_FnSignalsGo.j5 k n (fme n f l s f' l' s').1 (fme n f l s f' l' s').2.1 (fme n f l s f' l' s').2.2 u a b f l s f' l' s') true := by
  have hbad : ∀ x y, Ev (fun k => laws_FnSignalsGo.j5 k n x y false u a b f l s f' l' s') true := fun x y => by
    refine Ev.succ ?_
    simp only [laws_FnSignalsGo.j5]
    exact Ev.neg (by decide) (Ev.const h)
  by_cases hs : sigOK n f s ∧ sigOK n f' s'
  · cases hf : fst (mtg n f l s f' l' s') 0 100001 with
    | none =>
      have e : fme n f l s f' l' s' = (0, 0, false) := by unfold fme; rw [if_pos hs, hf]
      rw [e]; exact hbad 0 0
    | some q =>
      have e : fme n f l s f' l' s' = (q, plc n f l s q, true) := by unfold fme; rw [if_pos hs, hf]
      obtain ⟨q0, q1, qm, qf⟩ := fst_some _ _ _ _ hf
      have hpl : plc n f' l' s' q = plc n f l s q := by
        unfold mtg at qm
        simp only [Bool.and_eq_true, decide_eq_true_eq] at qm
        exact qm.2.symm
      have e2 : fme n f' l' s' f l s = (q, plc n f l s q, true) := by
        unfold fme; rw [if_pos ⟨hs.2, hs.1⟩, mtg_comm n f' l' s' f l s, hf]
        simp only
        rw [hpl]
      have hfm : Ev (fun k => impl_FirstMeeting.f k n f' l' s' f l s) (fme n f' l' s' f l s) := imFirstMeeting_ev n f' l' s' f l s
      have a1 : sat n f l s q = (plc n f l s q, true) := by unfold sat; rw [if_pos ⟨hs.1, by omega, by omega⟩]
      have a2 : sat n f' l' s' q = (plc n f l s q, true) := by unfold sat; rw [if_pos ⟨hs.2, by omega, by omega⟩, hpl]
      rw [e]
      refine Ev.succ ?_
      simp only [laws_FnSignalsGo.j5, imSat, Option.bind_some, a1, a2]
      rw [e2] at hfm
      refine Ev.pos (by first | rfl | trivial) (Ev.bind hfm (Ev.pos (by first | rfl | trivial) (Ev.pos (by first | rfl | trivial) (Ev.pos (by first | rfl | trivial) (Ev.pos (by first | rfl | trivial) (Ev.pos (by first | rfl | trivial) (Ev.pos (by first | rfl | trivial) (Ev.pos (by first | rfl | trivial) (Ev.iff (fun h1 => ?_) (fun _ => Ev.const h))))))))))
      have hcm : Ev (fun k => impl_CountMeetings.f k n f l s f' l' s' q) (cnt (mtg n f l s f' l' s') 0 (q + 1).toNat, true) := by
        have := imCountMeetings_ev n f l s f' l' s' q
        rw [if_pos ⟨hs.1, hs.2, by omega, h1⟩] at this
        exact this
      have hc1 : cnt (mtg n f l s f' l' s') 0 (q + 1).toNat = 1 := by
        have := cnt_first (mtg n f l s f' l' s') q.toNat 0 (fun x h2 h3 => qf x h2 (by omega)) (by rw [show (0 : Int) + (q.toNat : Int) = q by omega]; exact qm)
        rw [show (q + 1).toNat = q.toNat + 1 by omega]; exact this
      rw [hc1] at hcm
      exact Ev.bind hcm (Ev.pos (by first | rfl | trivial) (Ev.pos (by first | rfl | trivial) (Ev.const h)))
  · have e : fme n f l s f' l' s' = (0, 0, false) := by unfold fme; rw [if_neg hs]
    rw [e]; exact hbad 0 0
theorem go_l0 (n0 f0 : Int) (l0 : Bool) (s0 p u0 : Int) (hs : sigOK n0 f0 s0) (hu : 0 ≤ u0 ∧ u0 ≤ 1000) (xs : List Int) (hl : xs.length ≤ 1000000000) (hx : ∀ x ∈ xs, 0 ≤ x ∧ x ≤ u0 ∧ atP n0 f0 l0 s0 p x = true)
    (n x32 x33 : Int) (x34 : Bool) (u a : Int) (b : Bool) (f : Int) (l : Bool) (s f' : Int) (l' : Bool) (s' : Int) (h7 : Ev (fun k => laws_FnSignalsGo.j5 k n x32 x33 x34 u a b f l s f' l' s') true) :
    ∀ (d i : Nat), i + d = xs.length → Ev (fun k => laws_FnSignalsGo.l0 k n0 p u0 n x32 x33 x34 u a b xs (xs.length : Int) (i : Int) f0 l0 s0 f l s f' l' s') true := by
  have hs2 := hs
  unfold sigOK at hs2
  intro d
  induction d with
  | zero =>
    intro i hi
    refine Ev.succ ?_
    simp only [laws_FnSignalsGo.l0]
    exact Ev.neg (by omega) h7
  | succ d ih =>
    intro i hi
    have hlt : i < xs.length := by omega
    obtain ⟨b1, b2, b3⟩ := hx xs[i] (List.getElem_mem hlt)
    unfold atP cms at b3
    simp only [Bool.and_eq_true, Bool.or_eq_true, decide_eq_true_eq] at b3
    have a1 : sat n0 f0 l0 s0 xs[i] = (p, true) := by unfold sat; rw [if_pos ⟨hs, by omega, by omega⟩, b3.2]
    have hmod : Int.tmod xs[i] s0 = 0 := by
      rw [tmod_nn b1]
      rcases b3.1 with h0 | h0
      · rw [h0]; simp
      · exact h0.2
    refine Ev.succ ?_
    simp only [laws_FnSignalsGo.l0]
    rw [rdI hlt, imSat, a1, wrap64_id (x := (i : Int) + 1) (by omega) (by omega)]
    simp only [Option.bind_some]
    exact Ev.pos (by omega) (Ev.pos (by omega) (Ev.pos (by omega) (Ev.neg (by omega) (Ev.neg (by omega) (Ev.neg (by omega) (Ev.pos hmod (Ev.pos (by first | rfl | trivial) (Ev.pos (by first | rfl | trivial) (ih (i + 1) (by omega))))))))))
theorem go_j4 (more : List Int) (hm : ∀ x ∈ more, 0 ≤ x ∧ x ≤ 255) : Ev (fun k => laws_FnSignalsGo.j3 k more) true := by
  obtain ⟨n0, f0, l0, s0, p, u0, e1, i1, _, _, _, _⟩ := drawTimes_ok more hm
  obtain ⟨n1, f1, l1, s1, g1, m1, w1, e2, _⟩ := drawFirst_ok more hm
  obtain ⟨n2, f2, l2, s2, g2, m2, w2, u, e3, _⟩ := drawCount_ok more hm
  have t1 := imTimesAt_ev n0 f0 l0 s0 p u0 i1
  have t2 := spTimesAt_ev n0 f0 l0 s0 p u0 i1
  have t3 : Ev (fun k => impl_FirstMeeting.f k n1 f1 l1 s1 g1 m1 w1) (fme n1 f1 l1 s1 g1 m1 w1) := imFirstMeeting_ev n1 f1 l1 s1 g1 m1 w1
  have t4 : Ev (fun k => spec_FirstMeeting.f k n1 f1 l1 s1 g1 m1 w1) (fme n1 f1 l1 s1 g1 m1 w1) := siFirstMeeting_ev n1 f1 l1 s1 g1 m1 w1
  have t5 : Ev (fun k => impl_CountMeetings.f k n2 f2 l2 s2 g2 m2 w2 u) (cme n2 f2 l2 s2 g2 m2 w2 u) := imCountMeetings_ev n2 f2 l2 s2 g2 m2 w2 u
  have t6 : Ev (fun k => spec_CountMeetings.f k n2 f2 l2 s2 g2 m2 w2 u) (cme n2 f2 l2 s2 g2 m2 w2 u) := spCountMeetings_ev n2 f2 l2 s2 g2 m2 w2 u
  have h7 := go_j7 n1 f1 l1 s1 g1 m1 w1 u _ _ (cme_tail n2 f2 l2 s2 g2 m2 w2 u)
  have hlen := tms_len n0 f0 l0 s0 p u0
  have hv := vSame_ev (tms n0 f0 l0 s0 p u0).1 (by omega)
  refine Ev.succ ?_
  simp only [laws_FnSignalsGo.j3]
  rw [e1, e2, e3]
  simp only [Option.bind_some]
  refine Ev.bind t1 (Ev.bind t2 (Ev.bind t3 (Ev.bind t4 (Ev.bind t5 (Ev.bind t6 (Ev.neg (by simp) (Ev.bind hv (Ev.pos (by first | rfl | trivial) (Ev.neg (by simp) (Ev.pos (by first | rfl | trivial) (Ev.pos (by first | rfl | trivial) (Ev.neg (by simp) (Ev.pos (by first | rfl | trivial) ?_)))))))))))))
  unfold tms
  by_cases hc : sigOK n0 f0 s0 ∧ (0 ≤ p ∧ p ≤ n0 - 1) ∧ 0 ≤ u0 ∧ u0 ≤ 1000
  · rw [if_pos hc]
    have hl2 := fil_len (atP n0 f0 l0 s0 p) (u0 + 1).toNat 0
    refine Ev.pos (by first | rfl | trivial) (Ev.bind (vRises_ev (fil (atP n0 f0 l0 s0 p) 0 (u0 + 1).toNat) (by omega) (fil_ris _ _ _)) (Ev.pos (by first | rfl | trivial) ?_))
    exact go_l0 n0 f0 l0 s0 p u0 hc.1 hc.2.2 (fil (atP n0 f0 l0 s0 p) 0 (u0 + 1).toNat) (by omega) (fun x hx => by
      obtain ⟨h1, h2, h3⟩ := fil_ge _ _ _ _ hx
      exact ⟨h1, by omega, h3⟩) n1 _ _ _ u _ _ f1 l1 s1 g1 m1 w1 h7 (fil (atP n0 f0 l0 s0 p) 0 (u0 + 1).toNat).length 0 (by omega)
  · rw [if_neg hc]
    exact Ev.neg (by decide) h7
theorem FnSignalsGo : StatFnSignalsGo := by
  intro code more hl0 hc hl1 hm
  refine Ev.get ?_
  unfold laws_FnSignalsGo.f laws_big.f
  obtain ⟨n, f, l, s, t, e1, i1, i2, i3, i4⟩ := drawAt_ok code hc
  have h4 := go_j4 more hm
  by_cases hb : (code.length : Int) > 1048576
  · simp only [if_pos hb, Option.bind_some]
    exact Ev.pos (by first | rfl | trivial) (Ev.now _)
  simp only [if_neg hb, Option.bind_some]
  refine Ev.iff (fun _ => Ev.now _) (fun _ => ?_)
  rw [e1]
  simp only [Option.bind_some, imSat, spSat, imPer, spPer]
  refine Ev.neg (by simp) (Ev.pos (by first | rfl | trivial) (Ev.neg (by simp) (Ev.pos (by first | rfl | trivial) ?_)))
  by_cases hok : sigOK n f s ∧ 0 ≤ t ∧ t ≤ 100000
  · have a1 : sat n f l s t = (plc n f l s t, true) := by unfold sat; rw [if_pos hok]
    have a2 : spe n f s = (per n s, true) := by unfold spe; rw [if_pos hok.1]
    have hs2 := hok.1
    unfold sigOK at hs2
    have hb := plc_bd (l := l) hok.1 hok.2.1
    have hp := per_pos hok.1
    rw [a1, a2]
    refine Ev.pos (by first | rfl | trivial) (Ev.succ ?_)
    simp only [laws_FnSignalsGo.j0]
    refine Ev.neg (by decide) (Ev.pos (by first | rfl | trivial) (Ev.neg (by omega) (Ev.neg (by omega) (Ev.neg (by omega) ?_))))
    have hj3 : ∀ b, b = false → Ev (fun k => laws_FnSignalsGo.j2 k more t (plc n f l s t) b f l s) true := by
      rintro b rfl
      refine Ev.succ ?_
      simp only [laws_FnSignalsGo.j2]
      refine Ev.neg (by decide) (Ev.iff (fun h0 => ?_) (fun _ => h4))
      subst h0
      exact Ev.pos (plc_start hok.1) h4
    have hj2 : Ev (fun k => laws_FnSignalsGo.j1 k more n t (plc n f l s t) f l s) true := by
      refine Ev.succ ?_
      simp only [laws_FnSignalsGo.j1]
      refine Ev.iff (fun h1 => ?_) (fun _ => Ev.iff (fun h0 => ?_) (fun _ => h4))
      · obtain ⟨c1, c2, c3⟩ := plc_step (l := l) hok.1 hok.2.1
        have a3 : sat n f l s (t + 1) = (plc n f l s (t + 1), true) := by unfold sat; rw [if_pos ⟨hok.1, by omega, by omega⟩]
        rw [wrap64_id (x := t + 1) (by omega) (by omega), imSat, a3]
        simp only [Option.bind_some]
        rw [wrap64_id (x := plc n f l s (t + 1) - plc n f l s t) (by omega) (by omega), tmod_nn (by omega)]
        refine Ev.pos (by first | rfl | trivial) (Ev.neg (by omega) (Ev.neg (by omega) (Ev.iff (fun hn => Ev.neg (by omega) (hj3 _ ?_)) (fun hn => hj3 _ ?_))))
        · by_cases hz : plc n f l s (t + 1) - plc n f l s t = 0
          · have hm : ¬ (t + 1) % s = 0 := fun h => (c3.2 ⟨hn, h⟩) hz
            rw [show (plc n f l s (t + 1) - plc n f l s t != 0) = false by simpa using hz, show ((t + 1) % s == 0) = false by simpa using hm]; rfl
          · have hm := (c3.1 hz).2
            rw [show (plc n f l s (t + 1) - plc n f l s t != 0) = true by simpa using hz, show ((t + 1) % s == 0) = true by simpa using hm]; rfl
        · have hz : plc n f l s (t + 1) - plc n f l s t = 0 := by
            by_cases hz : plc n f l s (t + 1) - plc n f l s t = 0
            · exact hz
            · exact absurd (c3.1 hz).1 hn
          rw [hz]; rfl
      · subst h0
        exact Ev.pos (plc_start hok.1) h4
    rw [wrap64_id (x := t + per n s) (by omega) (by omega)]
    refine Ev.iff (fun h1 => ?_) (fun _ => hj2)
    have a3 : sat n f l s (t + per n s) = (plc n f l s t, true) := by unfold sat; rw [if_pos ⟨hok.1, by omega, by omega⟩, plc_per hok.1 hok.2.1]
    rw [imSat, a3]
    simp only [Option.bind_some]
    exact Ev.pos (by first | rfl | trivial) (Ev.pos (by first | rfl | trivial) hj2)
  · have a1 : sat n f l s t = (0, false) := by unfold sat; rw [if_neg hok]
    rw [a1]
    refine Ev.neg (by decide) (Ev.succ ?_)
    simp only [laws_FnSignalsGo.j0]
    exact Ev.neg (by decide) (Ev.neg (by decide) h4)

end Go.Proofs.Ytlhhbkdeginhoaa.Pure
