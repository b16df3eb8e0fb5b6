/- The law FnExactIsDesk, pure: what the printed functions answer, and that it is what the law asks. No condition. -/
import Derived.Test.YtmindeeacfdonaaDoorStatFnExactIsDesk
import Derived.Test.YtmindeeacfdonaaDoorPlBase
import Derived.Test.YtmindeeacfdonaaDoorPlBytes
import Derived.Test.YtmindeeacfdonaaDoorPlTick
namespace Go.Proofs.YtmindeeacfdonaaDoor.Pure
open Go.RowKit Go.Proofs.YtmindeeacfdonaaDoor.PFnExactIsDesk Go.Proofs.YtmindeeacfdonaaDoorW.PrintWords Go.Proofs.YtmindeeacfdonaaDoorW.PrintMore Go.Proofs.YtmindeeacfdonaaDoor.Opn Go.Proofs.YtmindeeacfdonaaDoor.Pl
set_option linter.unusedVariables false
set_option linter.unusedSimpArgs false
theorem in_eq (a b c : Int) : impl_in.f a b c = some (decide (b ≤ a ∧ a ≤ c)) := by
  unfold impl_in.f; by_cases h : b ≤ a <;> simp [h]
theorem l1In_eq (a b c : Int) : spec_l1In.f a b c = some (decide (b ≤ a ∧ a ≤ c)) := by
  unfold spec_l1In.f; by_cases h : b ≤ a <;> simp [h]
theorem rwGood_loop (s : ByteArray) (hs : s.size ≤ 140737488351232) : ∀ (d i : Nat), i + d = (L s).length → Ev (fun k => spec_rwGood.l0 k s (i : Int)) (((L s).drop i).all sgn) := by
  have hl := size_L s
  intro d
  induction d with
  | zero =>
    intro i hi
    refine Ev.succ ?_
    simp only [spec_rwGood.l0]
    refine Ev.neg (by omega) (Ev.const ?_)
    rw [List.drop_of_length_le (by omega)]; rfl
  | succ d ih =>
    intro i hi
    have hlt : i < (L s).length := by omega
    refine Ev.succ ?_
    simp only [spec_rwGood.l0]
    rw [List.drop_eq_getElem_cons hlt, List.all_cons, wrap64_id (x := (i : Int) + 1) (by omega) (by omega)]
    refine Ev.pos (by omega) (Ev.pos (by omega) ?_)
    refine Ev.iff (fun hc => ?_) (fun hc => Ev.iff (fun hd => ?_) (fun hd => ?_))
    · rw [bt60 s i hlt] at hc
      rw [hc]; exact ih (i + 1) (by omega)
    · rw [bt62 s i hlt] at hd
      rw [hd]; exact ih (i + 1) (by omega)
    · rw [bt60 s i hlt] at hc
      rw [bt62 s i hlt] at hd
      have e : sgn (L s)[i] = false := by unfold sgn; rw [beq_eq_false_iff_ne.2 hc, beq_eq_false_iff_ne.2 hd]; rfl
      rw [e]; exact Ev.now _
theorem rwGood_ev (s : ByteArray) (hs : s.size ≤ 140737488351232) : Ev (fun k => spec_rwGood.f k s) (rgood (L s)) := by
  have hl := size_L s
  unfold spec_rwGood.f rgood
  simp only [l1In_eq, Option.bind_some]
  refine Ev.iff (fun hc => ?_) (fun hc => ?_)
  · rw [decide_eq_true_eq] at hc
    rw [decide_eq_true (by omega), Bool.true_and]
    have := rwGood_loop s hs (L s).length 0 (by omega)
    rw [List.drop_zero] at this
    exact this
  · rw [decide_eq_true_eq] at hc
    rw [decide_eq_false (by omega), Bool.false_and]
    exact Ev.now _
theorem isRow_eq (s : ByteArray) (hs : s.size ≤ 140737488351232) : impl_isRow.f s = some (rgood (L s)) := by
  have hl := size_L s
  unfold impl_isRow.f rgood strings_Trim.f
  simp only [in_eq, Option.bind_some]
  by_cases h : 1 ≤ (L s).length ∧ (L s).length ≤ 60
  · rw [if_pos (by rw [decide_eq_true_eq]; omega), if_pos ⟨by omega, by decide, by decide⟩, decide_eq_true h, Bool.true_and, Option.bind_some, toList_L, L_mk]
    congr 1
    by_cases ha : (L s).all sgn = true
    · rw [ha]
      exact beq_iff_eq.2 ((trim_sgn (L s)).2 ha)
    · rw [Bool.not_eq_true] at ha
      rw [ha, beq_eq_false_iff_ne]
      intro e
      have := (trim_sgn (L s)).1 e
      rw [ha] at this
      exact absurd this (by decide)
  · rw [if_neg (by rw [decide_eq_true_eq]; omega), decide_eq_false h, Bool.false_and]
def ogood (l : List UInt8) : Bool := rgood l && decide (l.length ≤ 40)
theorem le40 (s : ByteArray) : decide (((L s).length : Int) ≤ 40) = decide ((L s).length ≤ 40) := decide_eq_decide.2 (by omega)
theorem odGood_ev (s : ByteArray) (hs : s.size ≤ 140737488351232) : Ev (fun k => spec_odGood.f k s) (ogood (L s)) := by
  unfold spec_odGood.f ogood
  refine Ev.bind (rwGood_ev s hs) ?_
  rw [isize_L, le40 s]
  cases rgood (L s) <;> exact Ev.const rfl
theorem odTwo_ev (s t : ByteArray) (hs : s.size ≤ 140737488351232) (ht : t.size ≤ 140737488351232) : Ev (fun k => spec_odTwo.f k s t) (ogood (L s) && (ogood (L t) && decide ((L s).length = (L t).length))) := by
  unfold spec_odTwo.f
  refine Ev.bind (odGood_ev s hs) ?_
  rw [isize_L, isize_L]
  refine Ev.iff (fun hc => ?_) (fun hc => ?_)
  · rw [hc, Bool.true_and]
    refine Ev.bind (odGood_ev t ht) ?_
    refine Ev.iff (fun hd => ?_) (fun hd => ?_)
    · rw [hd, Bool.true_and]
      refine Ev.const ?_
      congr 1
      by_cases e : (L s).length = (L t).length
      · simp [e]
      · rw [decide_eq_false e, beq_eq_false_iff_ne]; omega
    · rw [Bool.not_eq_true] at hd; rw [hd, Bool.false_and]; exact Ev.now _
  · rw [Bool.not_eq_true] at hc; rw [hc, Bool.false_and]; exact Ev.now _
theorem isOrdered_eq (s : ByteArray) (hs : s.size ≤ 140737488351232) : impl_isOrdered.f s = some (ogood (L s)) := by
  unfold impl_isOrdered.f ogood
  rw [isRow_eq s hs, Option.bind_some, isize_L, le40 s]
  cases rgood (L s) <;> rfl
theorem areOrdered_eq (s t : ByteArray) (hs : s.size ≤ 140737488351232) (ht : t.size ≤ 140737488351232) : impl_areOrdered.f s t = some (ogood (L s) && (ogood (L t) && decide ((L s).length = (L t).length))) := by
  unfold impl_areOrdered.f
  rw [isOrdered_eq s hs, isOrdered_eq t ht, isize_L, isize_L]
  simp only [Option.bind_some]
  have e : (((L s).length : Int) == ((L t).length : Int)) = decide ((L s).length = (L t).length) := by
    by_cases e : (L s).length = (L t).length
    · simp [e]
    · rw [decide_eq_false e, beq_eq_false_iff_ne]; omega
  rw [e]
  cases ogood (L s) <;> cases ogood (L t) <;> simp
theorem szDesk_neg (s t : ByteArray) : ∃ r, laws_szDesk.f s t 1048576 = some r := by
  unfold laws_szDesk.f
  repeat' split
  all_goals exact ⟨_, rfl⟩
theorem FnExactIsDesk : StatFnExactIsDesk := by
  intro s t hs ht
  refine Ev.get ?_
  unfold laws_FnExactIsDesk.f
  obtain ⟨q, hq⟩ := szDesk_neg s t
  rw [hq]
  simp only [Option.bind_some]
  refine Ev.iff (fun _ => Ev.now _) (fun _ => ?_)
  unfold laws_toDesk.f spec_IsDesk.f spec_coGood.f impl_IsDesk.f impl_isDesk.f
  simp only [Option.bind_some]
  refine Ev.bind (Ev.bind (Ev.bind (odTwo_ev s t hs ht) (Ev.now _)) (Ev.now _)) ?_
  rw [areOrdered_eq s t hs ht]
  simp only [Option.bind_some]
  exact Ev.neg (by simp) (Ev.now _)

end Go.Proofs.YtmindeeacfdonaaDoor.Pure
