/- The law FnExactTimesAt, pure: what the printed functions answer, and that it is what the law asks. No condition. -/
import Derived.Test.YtafcfhlgenljgaaStatFnExactTimesAt
import Derived.Test.YtafcfhlgenljgaaPlBase
import Derived.Test.YtafcfhlgenljgaaPlSig
import Derived.Test.YtafcfhlgenljgaaPlTms
import Derived.Test.YtafcfhlgenljgaaPlList
namespace Go.Proofs.Ytafcfhlgenljgaa.Pure
open Go.RowKit Go.Proofs.Ytafcfhlgenljgaa.PFnExactTimesAt Go.Proofs.YtafcfhlgenljgaaW.PrintWords Go.Proofs.YtafcfhlgenljgaaW.PrintMore Go.Proofs.Ytafcfhlgenljgaa.Opn Go.Proofs.Ytafcfhlgenljgaa.Pl
set_option linter.unusedVariables false
set_option linter.unusedSimpArgs false
theorem in_eq (a b c : Int) : impl_in.f a b c = some (decide (b ≤ a ∧ a ≤ c)) := by
  unfold impl_in.f; by_cases h : b ≤ a <;> simp [h]
theorem l1In_eq (a b c : Int) : spec_l1In.f a b c = some (decide (b ≤ a ∧ a ≤ c)) := by
  unfold spec_l1In.f; by_cases h : b ≤ a <;> simp [h]
theorem siSoldiers_eq (a : Int) : spec_siSoldiers.f a = some (decide (1 ≤ a ∧ a ≤ 100)) := by
  unfold spec_siSoldiers.f; rw [l1In_eq]; rfl
theorem siSignal_eq (n f : Int) (l : Bool) (s : Int) : spec_siSignal.f n f l s = some (decide (sigOK n f s)) := by
  unfold spec_siSignal.f
  simp only [siSoldiers_eq, l1In_eq, Option.bind_some]
  by_cases h : 1 ≤ n ∧ n ≤ 100
  · rw [wrap64_id (x := n - 1) (by omega) (by omega)]
    by_cases h2 : 0 ≤ f ∧ f ≤ n - 1
    · unfold sigOK; simp [h, h2]
    · have k : ¬ sigOK n f s := fun q => h2 ⟨q.2.2.1, q.2.2.2.1⟩
      simp only [h, h2, k, decide_true, decide_false, if_true, Bool.false_eq_true, if_false]; simp
  · simp only [h, decide_false]
    have : ¬ sigOK n f s := fun k => h ⟨k.1, k.2.1⟩
    simp [this]
theorem isSignalRow_eq (a : Int) : impl_isSignalRow.f a = some (decide (1 ≤ a ∧ a ≤ 100)) := by
  unfold impl_isSignalRow.f; rw [in_eq]; rfl
theorem isSignal_eq (n f : Int) (l : Bool) (s : Int) : impl_isSignal.f n f l s = some (decide (sigOK n f s)) := by
  unfold impl_isSignal.f
  simp only [isSignalRow_eq, in_eq, Option.bind_some]
  by_cases h : 1 ≤ n ∧ n ≤ 100
  · rw [wrap64_id (x := n - 1) (by omega) (by omega)]
    by_cases h2 : 0 ≤ f ∧ f ≤ n - 1
    · unfold sigOK; simp [h, h2]
    · have k : ¬ sigOK n f s := fun q => h2 ⟨q.2.2.1, q.2.2.2.1⟩
      simp only [h, h2, k, decide_true, decide_false, if_true, Bool.false_eq_true, if_false]; simp
  · simp only [h, decide_false]
    have : ¬ sigOK n f s := fun k => h ⟨k.1, k.2.1⟩
    simp [this]
theorem siAt_eq {n f : Int} {l : Bool} {s t : Int} (h : sigOK n f s) (ht : 0 ≤ t) (ht' : t ≤ 1000000000) : spec_siAt.f n f l s t = some (plc n f l s t) := by
  have h0 := h
  unfold sigOK at h
  unfold spec_siAt.f plc
  by_cases h1 : n = 1
  · rw [if_pos h1, if_pos h1]
  · rw [if_neg h1, if_neg h1]
    have hq0 : 0 ≤ t / s := Int.ediv_nonneg ht (by omega)
    have hq1 : t / s ≤ t := Int.ediv_le_self s ht
    rw [wrap64_id (x := n - 1) (by omega) (by omega), wrap64_id (x := 2 * (n - 1)) (by omega) (by omega), tdiv_nn ht, wrap64_id (x := t / s) (by omega) (by omega)]
    generalize t / s = q at hq0 hq1
    cases l with
    | true =>
      simp only [if_true]
      rw [if_neg (show ¬ s = 0 by omega), if_neg (show ¬ 2 * (n - 1) = 0 by omega), wrap64_id (x := 2 * (n - 1) - f) (by omega) (by omega), wrap64_id (x := 2 * (n - 1) - f + q) (by omega) (by omega), tmod_nn (by omega)]
      have hm := Int.emod_nonneg (2 * (n - 1) - f + q) (show 2 * (n - 1) ≠ 0 by omega)
      have hM := Int.emod_lt_of_pos (2 * (n - 1) - f + q) (show 0 < 2 * (n - 1) by omega)
      generalize (2 * (n - 1) - f + q) % (2 * (n - 1)) = m at hm hM
      rw [wrap64_id (x := 2 * (n - 1) - m) (by omega) (by omega)]
      unfold spec_l1Least.f
      split <;> rfl
    | false =>
      simp only [Bool.false_eq_true, if_false]
      rw [if_neg (show ¬ s = 0 by omega), if_neg (show ¬ 2 * (n - 1) = 0 by omega), wrap64_id (x := f + q) (by omega) (by omega), tmod_nn (by omega)]
      have hm := Int.emod_nonneg (f + q) (show 2 * (n - 1) ≠ 0 by omega)
      have hM := Int.emod_lt_of_pos (f + q) (show 0 < 2 * (n - 1) by omega)
      generalize (f + q) % (2 * (n - 1)) = m at hm hM
      rw [wrap64_id (x := 2 * (n - 1) - m) (by omega) (by omega)]
      unfold spec_l1Least.f
      split <;> rfl
theorem place_eq {n f : Int} {l : Bool} {s t : Int} (h : sigOK n f s) (ht : 0 ≤ t) (ht' : t ≤ 1000000000) : impl_Signal_place.f f l s n t = some (plc n f l s t) := by
  have h0 := h
  unfold sigOK at h
  unfold impl_Signal_place.f impl_around.f plc
  by_cases h1 : n = 1
  · rw [if_pos h1, if_pos h1]
  · rw [if_neg h1, if_neg h1]
    have hq0 : 0 ≤ t / s := Int.ediv_nonneg ht (by omega)
    have hq1 : t / s ≤ t := Int.ediv_le_self s ht
    rw [wrap64_id (x := n - 1) (by omega) (by omega), wrap64_id (x := 2 * (n - 1)) (by omega) (by omega), tdiv_nn ht, wrap64_id (x := t / s) (by omega) (by omega)]
    have hmx : mx (2 * (n - 1)) 1 = 2 * (n - 1) := by unfold mx; rw [if_neg (by omega)]
    simp only [Option.bind_some, hmx]
    generalize t / s = q at hq0 hq1
    cases l with
    | true =>
      simp only [if_true]
      rw [if_neg (show ¬ s = 0 by omega), if_neg (show ¬ 2 * (n - 1) = 0 by omega), wrap64_id (x := 2 * (n - 1) - f) (by omega) (by omega), wrap64_id (x := 2 * (n - 1) - f + q) (by omega) (by omega), tmod_nn (by omega)]
      have hm := Int.emod_nonneg (2 * (n - 1) - f + q) (show 2 * (n - 1) ≠ 0 by omega)
      have hM := Int.emod_lt_of_pos (2 * (n - 1) - f + q) (show 0 < 2 * (n - 1) by omega)
      generalize (2 * (n - 1) - f + q) % (2 * (n - 1)) = m at hm hM
      rw [wrap64_id (x := 2 * (n - 1) - m) (by omega) (by omega)]
      unfold mn
      congr 1
      split <;> split <;> omega
    | false =>
      simp only [Bool.false_eq_true, if_false]
      rw [if_neg (show ¬ s = 0 by omega), if_neg (show ¬ 2 * (n - 1) = 0 by omega), wrap64_id (x := f + q) (by omega) (by omega), tmod_nn (by omega)]
      have hm := Int.emod_nonneg (f + q) (show 2 * (n - 1) ≠ 0 by omega)
      have hM := Int.emod_lt_of_pos (f + q) (show 0 < 2 * (n - 1) by omega)
      generalize (f + q) % (2 * (n - 1)) = m at hm hM
      rw [wrap64_id (x := 2 * (n - 1) - m) (by omega) (by omega)]
      unfold mn
      congr 1
      split <;> split <;> omega
theorem siComes_eq {n f : Int} {l : Bool} {s t : Int} (h : sigOK n f s) (ht : 0 ≤ t) : spec_siComes.f n f l s t = some (cms n s t) := by
  unfold sigOK at h
  unfold spec_siComes.f cms
  by_cases h1 : t = 0
  · simp [h1]
  · rw [if_neg h1]
    by_cases h2 : n > 1
    · rw [if_pos h2, if_neg (show ¬ s = 0 by omega), tmod_nn ht]; simp [h1, h2]; rfl
    · rw [if_neg h2]; simp [h1]; omega
theorem comes_eq {n f : Int} {l : Bool} {s t : Int} (h : sigOK n f s) (ht : 0 ≤ t) : impl_Signal_comes.f f l s n t = some (cms n s t) := by
  unfold sigOK at h
  unfold impl_Signal_comes.f cms
  by_cases h1 : t = 0
  · simp [h1]
  · rw [if_neg h1]
    by_cases h2 : n > 1
    · rw [if_pos h2, if_neg (show ¬ s = 0 by omega), tmod_nn ht]; simp [h1, h2]; rfl
    · rw [if_neg h2]; simp [h1]; omega
theorem spTimesAt_loop {n f : Int} {l : Bool} {s p u : Int} (h : sigOK n f s) (hu : u ≤ 1000) : ∀ (d : Nat) (out : List Int) (t : Int), 0 ≤ t → u + 1 - t = d → (out.length : Int) ≤ t →
    Ev (fun k => spec_TimesAt.l0 k n p u out t f l s) (out ++ fil (atP n f l s p) t d, true) := by
  intro d
  induction d with
  | zero =>
    intro out t h0 h1 h2
    refine Ev.succ ?_
    simp only [spec_TimesAt.l0]
    refine Ev.neg (by omega) (Ev.const ?_)
    simp [fil]
  | succ d ih =>
    intro out t h0 h1 h2
    refine Ev.succ ?_
    simp only [spec_TimesAt.l0, siComes_eq h h0, siAt_eq h h0 (show t ≤ 1000000000 by omega), Option.bind_some]
    rw [wrap64_id (x := t + 1) (by omega) (by omega)]
    simp only [fil, atP]
    refine Ev.pos (by omega) (Ev.iff (fun hc => ?_) (fun hc => ?_))
    · refine Ev.iff (fun hp => ?_) (fun hp => ?_)
      · refine Ev.pos (by omega) ?_
        have := ih (out ++ [t]) (t + 1) (by omega) (by omega) (by simp; omega)
        simpa [hc, hp] using this
      · have := ih out (t + 1) (by omega) (by omega) (by omega)
        simpa [hc, hp] using this
    · have := ih out (t + 1) (by omega) (by omega) (by omega)
      simpa [hc] using this
theorem spTimesAt_ev (n f : Int) (l : Bool) (s p u : Int) (hn : I64 n) : Ev (fun k => spec_TimesAt.f k n f l s p u) (tms n f l s p u) := by
  unfold spec_TimesAt.f tms
  simp only [siSignal_eq, l1In_eq, Option.bind_some]
  by_cases h : sigOK n f s
  · have h' := h
    unfold sigOK at h'
    rw [wrap64_id (x := n - 1) (by omega) (by omega)]
    by_cases hp : 0 ≤ p ∧ p ≤ n - 1
    · by_cases hu : 0 ≤ u ∧ u ≤ 1000
      · simp only [h, hp, hu, decide_true, if_true, Bool.not_true, and_self]
        refine Ev.succ ?_
        simp only [spec_TimesAt.j0, Bool.false_eq_true, if_false]
        have := spTimesAt_loop (l := l) (p := p) h hu.2 (u + 1).toNat [] 0 (by omega) (by omega) (by simp)
        simpa using this
      · simp only [h, hp, hu, decide_true, if_true, decide_false, Bool.not_false, and_false, if_false]
        refine Ev.succ ?_
        simp only [spec_TimesAt.j0, if_true]
        exact Ev.now _
    · simp only [h, hp, decide_true, if_true, decide_false, Bool.false_eq_true, if_false, false_and, and_false]
      refine Ev.succ ?_
      simp only [spec_TimesAt.j0, if_true]
      exact Ev.now _
  · simp only [h, decide_false, Bool.false_eq_true, if_false, false_and]
    refine Ev.succ ?_
    simp only [spec_TimesAt.j0, if_true]
    exact Ev.now _
theorem imTimesAt_loop {n f : Int} {l : Bool} {s p u : Int} (h : sigOK n f s) (hu : u ≤ 1001) : ∀ (d : Nat) (out : List Int) (t : Int), 0 ≤ t → u - t = d → (out.length : Int) ≤ t →
    Ev (fun k => impl_TimesAt.l0 k n p out u t f l s) (out ++ fil (atP n f l s p) t d, true) := by
  intro d
  induction d with
  | zero =>
    intro out t h0 h1 h2
    refine Ev.succ ?_
    simp only [impl_TimesAt.l0]
    refine Ev.neg (by omega) (Ev.const ?_)
    simp [fil]
  | succ d ih =>
    intro out t h0 h1 h2
    refine Ev.succ ?_
    simp only [impl_TimesAt.l0, comes_eq h h0, place_eq h h0 (show t ≤ 1000000000 by omega), Option.bind_some]
    rw [wrap64_id (x := t + 1) (by omega) (by omega)]
    simp only [fil, atP]
    refine Ev.pos (by omega) (Ev.iff (fun hc => ?_) (fun hc => ?_))
    · refine Ev.iff (fun hp => ?_) (fun hp => ?_)
      · refine Ev.pos (by omega) ?_
        have := ih (out ++ [t]) (t + 1) (by omega) (by omega) (by simp; omega)
        simpa [hc, hp] using this
      · have := ih out (t + 1) (by omega) (by omega) (by omega)
        simpa [hc, hp] using this
    · have := ih out (t + 1) (by omega) (by omega) (by omega)
      simpa [hc] using this
theorem imTimesAt_ev (n f : Int) (l : Bool) (s p u : Int) (hn : I64 n) : Ev (fun k => impl_TimesAt.f k n f l s p u) (tms n f l s p u) := by
  unfold impl_TimesAt.f tms
  simp only [isSignal_eq, in_eq, Option.bind_some]
  by_cases h : sigOK n f s
  · have h' := h
    unfold sigOK at h'
    rw [wrap64_id (x := n - 1) (by omega) (by omega)]
    by_cases hp : 0 ≤ p ∧ p ≤ n - 1
    · by_cases hu : 0 ≤ u ∧ u ≤ 1000
      · simp only [h, hp, hu, decide_true, if_true, Bool.not_true, and_self]
        refine Ev.succ ?_
        simp only [impl_TimesAt.j0, Bool.false_eq_true, if_false]
        rw [wrap64_id (x := u + 1) (by omega) (by omega)]
        have := imTimesAt_loop (l := l) (p := p) (u := u + 1) h (by omega) (u + 1).toNat [] 0 (by omega) (by omega) (by simp)
        simpa using this
      · simp only [h, hp, hu, decide_true, if_true, decide_false, Bool.not_false, and_false, if_false]
        refine Ev.succ ?_
        simp only [impl_TimesAt.j0, if_true]
        exact Ev.now _
    · simp only [h, hp, decide_true, if_true, decide_false, Bool.false_eq_true, if_false, false_and, and_false]
      refine Ev.succ ?_
      simp only [impl_TimesAt.j0, if_true]
      exact Ev.now _
  · simp only [h, decide_false, Bool.false_eq_true, if_false, false_and]
    refine Ev.succ ?_
    simp only [impl_TimesAt.j0, if_true]
    exact Ev.now _
theorem eqIntS_loop (l : List Int) (hl : l.length ≤ 1000000000) : ∀ (d i : Nat), i + d = l.length → Ev (fun k => laws_eqIntS.l0 k l l (i : Int)) true := by
  intro d
  induction d with
  | zero =>
    intro i h
    refine Ev.succ ?_
    simp only [laws_eqIntS.l0]
    exact Ev.neg (by omega) (Ev.now _)
  | succ d ih =>
    intro i h
    refine Ev.succ ?_
    simp only [laws_eqIntS.l0]
    refine Ev.pos (by omega) (Ev.pos (by omega) (Ev.pos (by omega) (Ev.pos (by first | rfl | trivial) ?_)))
    rw [wrap64_id (x := (i : Int) + 1) (by omega) (by omega)]
    exact ih (i + 1) (by omega)
theorem eqIntS_ev (l : List Int) (hl : l.length ≤ 1000000000) : Ev (fun k => laws_eqIntS.f k l l) true := by
  unfold laws_eqIntS.f
  exact Ev.pos rfl (eqIntS_loop l hl l.length 0 (by omega))
def mki : Nat → List Int
  | 0 => []
  | n + 1 => mki n ++ [(n : Int) + 1]
theorem mki_len : ∀ n, (mki n).length = n
  | 0 => rfl
  | n + 1 => by simp [mki, mki_len n]
theorem markIntS_loop (l : List Int) (hl : l.length ≤ 1000000000) : ∀ (d i : Nat), i + d = l.length → Ev (fun k => laws_markIntS.l0 k (mki i ++ l.drop i) ((i : Int) + 1) (i : Int)) ((l.length : Int) + 1, mki l.length) := by
  intro d
  induction d with
  | zero =>
    intro i h
    refine Ev.succ ?_
    simp only [laws_markIntS.l0]
    refine Ev.neg (by simp [mki_len]; omega) (Ev.const ?_)
    rw [List.drop_of_length_le (by omega), List.append_nil, show i = l.length by omega]
  | succ d ih =>
    intro i h
    have hd : l.drop i = l[i]'(by omega) :: l.drop (i + 1) := List.drop_eq_getElem_cons (by omega)
    refine Ev.succ ?_
    simp only [laws_markIntS.l0]
    refine Ev.pos (by simp [mki_len]; omega) (Ev.pos (by omega) ?_)
    rw [hd, Int.toNat_natCast, List.set_append_right _ _ (by rw [mki_len]; omega), mki_len, Nat.sub_self, List.set_cons_zero]
    rw [wrap64_id (x := (i : Int) + 1 + 1) (by omega) (by omega), wrap64_id (x := (i : Int) + 1) (by omega) (by omega)]
    have := ih (i + 1) (by omega)
    have e : mki (i + 1) ++ l.drop (i + 1) = mki i ++ ((i : Int) + 1) :: l.drop (i + 1) := by simp [mki]
    rw [e] at this
    exact this
theorem markIntS_ev (l : List Int) (hl : l.length ≤ 1000000000) : Ev (fun k => laws_markIntS.f k l 1) ((l.length : Int) + 1, mki l.length) := by
  unfold laws_markIntS.f
  have := markIntS_loop l hl l.length 0 (by omega)
  simpa [mki] using this
theorem mki_get : ∀ (n i : Nat), i < n → rd (mki n) (i : Int) = (i : Int) + 1
  | 0, i, h => by omega
  | n + 1, i, h => by
    by_cases hi : i < n
    · have := mki_get n i hi
      simp only [mki, rd, Int.toNat_natCast, List.getD_eq_getElem?_getD] at this ⊢
      rw [List.getElem?_append_left (by rw [mki_len]; exact hi)]
      exact this
    · obtain rfl : i = n := by omega
      simp only [mki, rd, Int.toNat_natCast, List.getD_eq_getElem?_getD]
      rw [List.getElem?_append_right (by rw [mki_len]; omega)]
      simp [mki_len]
theorem heldIntS_loop (m : Nat) (hl : m ≤ 1000000000) : ∀ (d i : Nat), i + d = m → Ev (fun k => laws_heldIntS.l0 k (mki m) ((i : Int) + 1) (i : Int)) ((m : Int) + 1) := by
  intro d
  induction d with
  | zero =>
    intro i h
    refine Ev.succ ?_
    simp only [laws_heldIntS.l0]
    refine Ev.neg (by rw [mki_len]; omega) (Ev.const ?_)
    rw [show i = m by omega]
  | succ d ih =>
    intro i h
    refine Ev.succ ?_
    simp only [laws_heldIntS.l0, mki_get m i (by omega)]
    rw [wrap64_id (x := (i : Int) + 1 + 1) (by omega) (by omega), wrap64_id (x := (i : Int) + 1) (by omega) (by omega)]
    refine Ev.pos (by rw [mki_len]; omega) (Ev.pos (by omega) (Ev.pos (by first | rfl | trivial) ?_))
    have := ih (i + 1) (by omega)
    exact this
theorem heldIntS_ev (m : Nat) (hl : m ≤ 1000000000) : Ev (fun k => laws_heldIntS.f k (mki m) 1) ((m : Int) + 1) := by
  unfold laws_heldIntS.f
  have := heldIntS_loop m hl m 0 (by omega)
  simpa using this

theorem FnExactTimesAt : StatFnExactTimesAt := by
  intro n f l s p u hn _ _ _ _
  refine Ev.get ?_
  unfold laws_FnExactTimesAt.f laws_toSignal.f
  simp only [Option.bind_some]
  have sp := spTimesAt_ev n f l s p u hn
  have im := imTimesAt_ev n f l s p u hn
  have hl := tms_len n f l s p u
  generalize tms n f l s p u = R at sp im hl
  obtain ⟨rl, rb⟩ := R
  simp only at hl
  refine Ev.bind sp (Ev.bind im (Ev.bind (eqIntS_ev rl (by omega)) (Ev.pos rfl (Ev.succ ?_))))
  simp only [laws_FnExactTimesAt.j0, laws_toSignal.f, Option.bind_some]
  refine Ev.neg (by simp) (Ev.bind (markIntS_ev rl (by omega)) (Ev.bind (heldIntS_ev rl.length (by omega)) (Ev.neg (by omega) (Ev.pos rfl (Ev.bind im (Ev.bind (eqIntS_ev rl (by omega)) (Ev.pos rfl (Ev.succ ?_))))))))
  simp only [laws_FnExactTimesAt.j1]
  exact Ev.neg (by simp) (Ev.bind (heldIntS_ev rl.length (by omega)) (Ev.neg (by omega) (Ev.pos rfl (Ev.now _))))

end Go.Proofs.Ytafcfhlgenljgaa.Pure
