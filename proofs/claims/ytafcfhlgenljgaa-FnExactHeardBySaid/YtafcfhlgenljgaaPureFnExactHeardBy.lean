/- The law FnExactHeardBy, pure: what the printed functions answer, and that it is what the law asks. No condition. -/
import Derived.Test.YtafcfhlgenljgaaStatFnExactHeardBy
import Derived.Test.YtafcfhlgenljgaaPlBase
import Derived.Test.YtafcfhlgenljgaaPlSig
import Derived.Test.YtafcfhlgenljgaaPlTms
import Derived.Test.YtafcfhlgenljgaaPlList
import Derived.Test.YtafcfhlgenljgaaPlSpread
import Derived.Test.YtafcfhlgenljgaaPlHeard
namespace Go.Proofs.Ytafcfhlgenljgaa.Pure
open Go.RowKit Go.Proofs.Ytafcfhlgenljgaa.PFnExactHeardBy Go.Proofs.YtafcfhlgenljgaaW.PrintWords Go.Proofs.YtafcfhlgenljgaaW.PrintMore Go.Proofs.Ytafcfhlgenljgaa.Opn Go.Proofs.Ytafcfhlgenljgaa.Pl
set_option linter.unusedVariables false
set_option linter.unusedSimpArgs false
theorem in_eq (a b c : Int) : impl_in.f a b c = some (decide (b ≤ a ∧ a ≤ c)) := by
  unfold impl_in.f; by_cases h : b ≤ a <;> simp [h]
theorem l1In_eq (a b c : Int) : spec_l1In.f a b c = some (decide (b ≤ a ∧ a ≤ c)) := by
  unfold spec_l1In.f; by_cases h : b ≤ a <;> simp [h]
theorem siSoldiers_eq (a : Int) : spec_siSoldiers.f a = some (decide (1 ≤ a ∧ a ≤ 100)) := by
  unfold spec_siSoldiers.f; rw [l1In_eq]; rfl
theorem siSignal_eq (n f : Int) (l : Bool) (s : Int) : spec_siSignal.f n f l s = some (decide (sigOK n f s)) := by
  unfold spec_siSignal.f
  simp only [siSoldiers_eq, l1In_eq, Option.bind_some]
  by_cases h : 1 ≤ n ∧ n ≤ 100
  · rw [wrap64_id (x := n - 1) (by omega) (by omega)]
    by_cases h2 : 0 ≤ f ∧ f ≤ n - 1
    · unfold sigOK; simp [h, h2]
    · have k : ¬ sigOK n f s := fun q => h2 ⟨q.2.2.1, q.2.2.2.1⟩
      simp only [h, h2, k, decide_true, decide_false, if_true, Bool.false_eq_true, if_false]; simp
  · simp only [h, decide_false]
    have : ¬ sigOK n f s := fun k => h ⟨k.1, k.2.1⟩
    simp [this]
theorem isSignalRow_eq (a : Int) : impl_isSignalRow.f a = some (decide (1 ≤ a ∧ a ≤ 100)) := by
  unfold impl_isSignalRow.f; rw [in_eq]; rfl
theorem isSignal_eq (n f : Int) (l : Bool) (s : Int) : impl_isSignal.f n f l s = some (decide (sigOK n f s)) := by
  unfold impl_isSignal.f
  simp only [isSignalRow_eq, in_eq, Option.bind_some]
  by_cases h : 1 ≤ n ∧ n ≤ 100
  · rw [wrap64_id (x := n - 1) (by omega) (by omega)]
    by_cases h2 : 0 ≤ f ∧ f ≤ n - 1
    · unfold sigOK; simp [h, h2]
    · have k : ¬ sigOK n f s := fun q => h2 ⟨q.2.2.1, q.2.2.2.1⟩
      simp only [h, h2, k, decide_true, decide_false, if_true, Bool.false_eq_true, if_false]; simp
  · simp only [h, decide_false]
    have : ¬ sigOK n f s := fun k => h ⟨k.1, k.2.1⟩
    simp [this]
theorem place_eq {n f : Int} {l : Bool} {s t : Int} (h : sigOK n f s) (ht : 0 ≤ t) (ht' : t ≤ 1000000000) : impl_Signal_place.f f l s n t = some (plc n f l s t) := by
  have h0 := h
  unfold sigOK at h
  unfold impl_Signal_place.f impl_around.f plc
  by_cases h1 : n = 1
  · rw [if_pos h1, if_pos h1]
  · rw [if_neg h1, if_neg h1]
    have hq0 : 0 ≤ t / s := Int.ediv_nonneg ht (by omega)
    have hq1 : t / s ≤ t := Int.ediv_le_self s ht
    rw [wrap64_id (x := n - 1) (by omega) (by omega), wrap64_id (x := 2 * (n - 1)) (by omega) (by omega), tdiv_nn ht, wrap64_id (x := t / s) (by omega) (by omega)]
    have hmx : mx (2 * (n - 1)) 1 = 2 * (n - 1) := by unfold mx; rw [if_neg (by omega)]
    simp only [Option.bind_some, hmx]
    generalize t / s = q at hq0 hq1
    cases l with
    | true =>
      simp only [if_true]
      rw [if_neg (show ¬ s = 0 by omega), if_neg (show ¬ 2 * (n - 1) = 0 by omega), wrap64_id (x := 2 * (n - 1) - f) (by omega) (by omega), wrap64_id (x := 2 * (n - 1) - f + q) (by omega) (by omega), tmod_nn (by omega)]
      have hm := Int.emod_nonneg (2 * (n - 1) - f + q) (show 2 * (n - 1) ≠ 0 by omega)
      have hM := Int.emod_lt_of_pos (2 * (n - 1) - f + q) (show 0 < 2 * (n - 1) by omega)
      generalize (2 * (n - 1) - f + q) % (2 * (n - 1)) = m at hm hM
      rw [wrap64_id (x := 2 * (n - 1) - m) (by omega) (by omega)]
      unfold mn
      congr 1
      split <;> split <;> omega
    | false =>
      simp only [Bool.false_eq_true, if_false]
      rw [if_neg (show ¬ s = 0 by omega), if_neg (show ¬ 2 * (n - 1) = 0 by omega), wrap64_id (x := f + q) (by omega) (by omega), tmod_nn (by omega)]
      have hm := Int.emod_nonneg (f + q) (show 2 * (n - 1) ≠ 0 by omega)
      have hM := Int.emod_lt_of_pos (f + q) (show 0 < 2 * (n - 1) by omega)
      generalize (f + q) % (2 * (n - 1)) = m at hm hM
      rw [wrap64_id (x := 2 * (n - 1) - m) (by omega) (by omega)]
      unfold mn
      congr 1
      split <;> split <;> omega
theorem eqIntS_loop (l : List Int) (hl : l.length ≤ 1000000000) : ∀ (d i : Nat), i + d = l.length → Ev (fun k => laws_eqIntS.l0 k l l (i : Int)) true := by
  intro d
  induction d with
  | zero =>
    intro i h
    refine Ev.succ ?_
    simp only [laws_eqIntS.l0]
    exact Ev.neg (by omega) (Ev.now _)
  | succ d ih =>
    intro i h
    refine Ev.succ ?_
    simp only [laws_eqIntS.l0]
    refine Ev.pos (by omega) (Ev.pos (by omega) (Ev.pos (by omega) (Ev.pos (by first | rfl | trivial) ?_)))
    rw [wrap64_id (x := (i : Int) + 1) (by omega) (by omega)]
    exact ih (i + 1) (by omega)
theorem eqIntS_ev (l : List Int) (hl : l.length ≤ 1000000000) : Ev (fun k => laws_eqIntS.f k l l) true := by
  unfold laws_eqIntS.f
  exact Ev.pos rfl (eqIntS_loop l hl l.length 0 (by omega))
theorem l1Least_eq (a b : Int) : spec_l1Least.f a b = some (mn a b) := by
  unfold spec_l1Least.f mn
  split <;> split <;> congr 1 <;> omega
def mki : Nat → List Int
  | 0 => []
  | n + 1 => mki n ++ [(n : Int) + 1]
theorem mki_len : ∀ n, (mki n).length = n
  | 0 => rfl
  | n + 1 => by simp [mki, mki_len n]
theorem markIntS_loop (l : List Int) (hl : l.length ≤ 1000000000) : ∀ (d i : Nat), i + d = l.length → Ev (fun k => laws_markIntS.l0 k (mki i ++ l.drop i) ((i : Int) + 1) (i : Int)) ((l.length : Int) + 1, mki l.length) := by
  intro d
  induction d with
  | zero =>
    intro i h
    refine Ev.succ ?_
    simp only [laws_markIntS.l0]
    refine Ev.neg (by simp [mki_len]; omega) (Ev.const ?_)
    rw [List.drop_of_length_le (by omega), List.append_nil, show i = l.length by omega]
  | succ d ih =>
    intro i h
    have hd : l.drop i = l[i]'(by omega) :: l.drop (i + 1) := List.drop_eq_getElem_cons (by omega)
    refine Ev.succ ?_
    simp only [laws_markIntS.l0]
    refine Ev.pos (by simp [mki_len]; omega) (Ev.pos (by omega) ?_)
    rw [hd, Int.toNat_natCast, List.set_append_right _ _ (by rw [mki_len]; omega), mki_len, Nat.sub_self, List.set_cons_zero]
    rw [wrap64_id (x := (i : Int) + 1 + 1) (by omega) (by omega), wrap64_id (x := (i : Int) + 1) (by omega) (by omega)]
    have := ih (i + 1) (by omega)
    have e : mki (i + 1) ++ l.drop (i + 1) = mki i ++ ((i : Int) + 1) :: l.drop (i + 1) := by simp [mki]
    rw [e] at this
    exact this
theorem markIntS_ev (l : List Int) (hl : l.length ≤ 1000000000) : Ev (fun k => laws_markIntS.f k l 1) ((l.length : Int) + 1, mki l.length) := by
  unfold laws_markIntS.f
  have := markIntS_loop l hl l.length 0 (by omega)
  simpa [mki] using this
theorem mki_get : ∀ (n i : Nat), i < n → rd (mki n) (i : Int) = (i : Int) + 1
  | 0, i, h => by omega
  | n + 1, i, h => by
    by_cases hi : i < n
    · have := mki_get n i hi
      simp only [mki, rd, Int.toNat_natCast, List.getD_eq_getElem?_getD] at this ⊢
      rw [List.getElem?_append_left (by rw [mki_len]; exact hi)]
      exact this
    · obtain rfl : i = n := by omega
      simp only [mki, rd, Int.toNat_natCast, List.getD_eq_getElem?_getD]
      rw [List.getElem?_append_right (by rw [mki_len]; omega)]
      simp [mki_len]
theorem heldIntS_loop (m : Nat) (hl : m ≤ 1000000000) : ∀ (d i : Nat), i + d = m → Ev (fun k => laws_heldIntS.l0 k (mki m) ((i : Int) + 1) (i : Int)) ((m : Int) + 1) := by
  intro d
  induction d with
  | zero =>
    intro i h
    refine Ev.succ ?_
    simp only [laws_heldIntS.l0]
    refine Ev.neg (by rw [mki_len]; omega) (Ev.const ?_)
    rw [show i = m by omega]
  | succ d ih =>
    intro i h
    refine Ev.succ ?_
    simp only [laws_heldIntS.l0, mki_get m i (by omega)]
    rw [wrap64_id (x := (i : Int) + 1 + 1) (by omega) (by omega), wrap64_id (x := (i : Int) + 1) (by omega) (by omega)]
    refine Ev.pos (by rw [mki_len]; omega) (Ev.pos (by omega) (Ev.pos (by first | rfl | trivial) ?_))
    have := ih (i + 1) (by omega)
    exact this
theorem heldIntS_ev (m : Nat) (hl : m ≤ 1000000000) : Ev (fun k => laws_heldIntS.f k (mki m) 1) ((m : Int) + 1) := by
  unfold laws_heldIntS.f
  have := heldIntS_loop m hl m 0 (by omega)
  simpa using this

def cvSig (x : S23) : S27 := ⟨x.f0, x.f1, x.f2⟩
theorem rdSigL {l : List S23} {i : Nat} (h : i < l.length) : rd_T23 l (i : Int) = l[i] := by simp [rd_T23, h]
theorem rdSigI {l : List S27} {i : Nat} (h : i < l.length) : rd_T27 l (i : Int) = l[i] := by simp [rd_T27, h]
theorem toSignalS_loop (l : List S23) (hl : l.length ≤ 1000000000) : ∀ (d i : Nat), i + d = l.length → Ev (fun k => laws_toSignalS.l0 k l (cpy z27 (l.map cvSig) i) (i : Int)) (l.map cvSig) := by
  intro d
  induction d with
  | zero =>
    intro i h
    refine Ev.succ ?_
    simp only [laws_toSignalS.l0]
    refine Ev.neg (by omega) (Ev.const ?_)
    rw [show i = (l.map cvSig).length by simp; omega, cpy_all]
  | succ d ih =>
    intro i h
    refine Ev.succ ?_
    simp only [laws_toSignalS.l0, laws_toSignal.f, Option.bind_some]
    refine Ev.pos (by omega) (Ev.pos (by omega) (Ev.pos (by rw [cpy_len _ _ _ (by simp; omega)]; simp; omega) ?_))
    have hi : i < (l.map cvSig).length := by simp; omega
    have e := cpy_succ z27 (l.map cvSig) i hi
    rw [List.getElem_map] at e
    rw [wrap64_id (x := (i : Int) + 1) (by omega) (by omega), Int.toNat_natCast, rdSigL (show i < l.length by omega)]
    have := ih (i + 1) (by omega)
    rw [← e] at this
    exact this
theorem toSignalS_ev (l : List S23) (hl : l.length ≤ 1000000000) : Ev (fun k => laws_toSignalS.f k l) (l.map cvSig) := by
  unfold laws_toSignalS.f
  refine Ev.pos (by omega) (Ev.pos (by omega) ?_)
  have := toSignalS_loop l hl l.length 0 (by omega)
  rw [cpy_zero, List.length_map] at this
  exact this
theorem eqSignalS_loop (l : List S27) (hl : l.length ≤ 1000000000) : ∀ (d i : Nat), i + d = l.length → Ev (fun k => laws_eqSignalS.l0 k l l (i : Int)) true := by
  intro d
  induction d with
  | zero =>
    intro i h
    refine Ev.succ ?_
    simp only [laws_eqSignalS.l0]
    exact Ev.neg (by omega) (Ev.now _)
  | succ d ih =>
    intro i h
    refine Ev.succ ?_
    have e : ∀ (x : Int) (b : Bool) (y : Int), laws_eqSignal.f x b y x b y = some true := by intro x b y; unfold laws_eqSignal.f; simp
    simp only [laws_eqSignalS.l0, e, Option.bind_some]
    refine Ev.pos (by omega) (Ev.pos (by omega) (Ev.pos (by omega) (Ev.pos (by first | rfl | trivial) ?_)))
    rw [wrap64_id (x := (i : Int) + 1) (by omega) (by omega)]
    exact ih (i + 1) (by omega)
theorem eqSignalS_ev (l : List S27) (hl : l.length ≤ 1000000000) : Ev (fun k => laws_eqSignalS.f k l l) true := by
  unfold laws_eqSignalS.f
  exact Ev.pos rfl (eqSignalS_loop l hl l.length 0 (by omega))
/-- Is a list one of signals? -/
def sgl (n : Int) (l : List S27) : Bool := l.all fun x => decide (sigOK n x.f0 x.f2)
def sgsOK (n : Int) (l : List S27) : Bool := decide (1 ≤ l.length ∧ l.length ≤ 10) && sgl n l
theorem sgl_drop (n : Int) (l : List S27) (i : Nat) (h : i < l.length) : sgl n (l.drop i) = (decide (sigOK n (rd_T27 l (i : Int)).f0 (rd_T27 l (i : Int)).f2) && sgl n (l.drop (i + 1))) := by
  rw [List.drop_eq_getElem_cons h, rdSigI h]; rfl
theorem siList_loop (n : Int) (l : List S27) (hl : l.length ≤ 1000000000) : ∀ (d i : Nat), i + d = l.length → Ev (fun k => spec_siList.l0 k n l (l.length : Int) (i : Int)) (sgl n (l.drop i)) := by
  intro d
  induction d with
  | zero =>
    intro i h
    refine Ev.succ ?_
    simp only [spec_siList.l0]
    refine Ev.neg (by omega) (Ev.const ?_)
    rw [List.drop_of_length_le (by omega)]; rfl
  | succ d ih =>
    intro i h
    refine Ev.succ ?_
    simp only [spec_siList.l0, siSignal_eq, Option.bind_some]
    refine Ev.pos (by omega) (Ev.pos (by omega) (Ev.pos (by omega) ?_))
    rw [wrap64_id (x := (i : Int) + 1) (by omega) (by omega), sgl_drop n l i (by omega)]
    refine Ev.iff (fun hc => ?_) (fun hc => ?_)
    · rw [hc, Bool.true_and]; exact ih (i + 1) (by omega)
    · rw [Bool.not_eq_true] at hc; rw [hc, Bool.false_and]; exact Ev.now _
theorem siList_ev (n : Int) (l : List S27) (hl : l.length ≤ 1000000000) : Ev (fun k => spec_siList.f k n l) (sgsOK n l) := by
  unfold spec_siList.f sgsOK
  simp only [l1In_eq, Option.bind_some]
  refine Ev.iff (fun hc => ?_) (fun hc => ?_)
  · have hc' := of_decide_eq_true hc
    rw [show decide (1 ≤ l.length ∧ l.length ≤ 10) = true from decide_eq_true (by omega), Bool.true_and]
    exact siList_loop n l hl l.length 0 (by omega)
  · have hc' : ¬ (1 ≤ l.length ∧ l.length ≤ 10) := fun h => hc (decide_eq_true (by omega))
    rw [show decide (1 ≤ l.length ∧ l.length ≤ 10) = false from decide_eq_false hc', Bool.false_and]
    exact Ev.now _
theorem areSig_loop (n : Int) (l : List S27) (hl : l.length ≤ 1000000000) : ∀ (d i : Nat), i + d = l.length → ∃ r : Int, Ev (fun k => impl_areSignals_idx.l0 k n l (i : Int)) r ∧ decide (0 ≤ r) = !sgl n (l.drop i) := by
  intro d
  induction d with
  | zero =>
    intro i h
    refine ⟨-1, Ev.succ ?_, ?_⟩
    · simp only [impl_areSignals_idx.l0]
      exact Ev.neg (by omega) (Ev.now _)
    · rw [List.drop_of_length_le (by omega)]; rfl
  | succ d ih =>
    intro i h
    obtain ⟨r, h1, h2⟩ := ih (i + 1) (by omega)
    have hs := sgl_drop n l i (by omega)
    cases hc : decide (sigOK n (rd_T27 l (i : Int)).f0 (rd_T27 l (i : Int)).f2) with
    | true =>
      rw [hc, Bool.true_and] at hs
      refine ⟨r, Ev.succ ?_, by rw [hs]; exact h2⟩
      simp only [impl_areSignals_idx.l0, impl_areSignals_clo.f, isSignal_eq, hc, Option.bind_some]
      refine Ev.pos (by omega) (Ev.pos (by omega) (Ev.neg (by simp) ?_))
      rw [wrap64_id (x := (i : Int) + 1) (by omega) (by omega)]
      exact h1
    | false =>
      rw [hc, Bool.false_and] at hs
      refine ⟨(i : Int), Ev.succ ?_, by rw [hs]; simp⟩
      simp only [impl_areSignals_idx.l0, impl_areSignals_clo.f, isSignal_eq, hc, Option.bind_some]
      exact Ev.pos (by omega) (Ev.pos (by omega) (Ev.pos (by simp) (Ev.now _)))
theorem areSignals_ev (n : Int) (l : List S27) (hl : l.length ≤ 1000000000) : Ev (fun k => impl_areSignals.f k n l) (decide (1 ≤ n ∧ n ≤ 100) && sgsOK n l) := by
  unfold impl_areSignals.f sgsOK
  simp only [isSignalRow_eq, in_eq, Option.bind_some]
  refine Ev.iff (fun h1 => ?_) (fun h1 => ?_)
  · rw [h1, Bool.true_and]
    refine Ev.iff (fun hc => ?_) (fun hc => ?_)
    · have hc' := of_decide_eq_true hc
      rw [show decide (1 ≤ l.length ∧ l.length ≤ 10) = true from decide_eq_true (by omega), Bool.true_and]
      obtain ⟨r, e1, e2⟩ := areSig_loop n l hl l.length 0 (by omega)
      unfold impl_areSignals_has.f
      refine Ev.bind (Ev.bind e1 (Ev.now _)) (Ev.const ?_)
      rw [e2, List.drop_zero, Bool.not_not]
    · have hc' : ¬ (1 ≤ l.length ∧ l.length ≤ 10) := fun h => hc (decide_eq_true (by omega))
      rw [show decide (1 ≤ l.length ∧ l.length ≤ 10) = false from decide_eq_false hc', Bool.false_and]
      exact Ev.now _
  · rw [Bool.not_eq_true] at h1
    rw [h1, Bool.false_and]
    exact Ev.now _
theorem sgs_row (n : Int) (l : List S27) : (decide (1 ≤ n ∧ n ≤ 100) && sgsOK n l) = sgsOK n l := by
  by_cases h : 1 ≤ n ∧ n ≤ 100
  · rw [decide_eq_true h, Bool.true_and]
  · rw [decide_eq_false h, Bool.false_and]
    symm
    unfold sgsOK
    cases l with
    | nil => rfl
    | cons x l =>
      have : decide (sigOK n x.f0 x.f2) = false := decide_eq_false (fun k => h ⟨k.1, k.2.1⟩)
      simp [sgl, this]
theorem siFirst_eq {n f : Int} {l : Bool} {s p : Int} (h : sigOK n f s) (h0 : 0 ≤ p) (h1 : p ≤ n - 1) : spec_siFirst.f n f l s p = some (frs n f l p * s) := by
  have hb := frs_bd (l := l) (p := p) h
  have h' := h
  unfold sigOK at h
  by_cases hn : n = 1
  · unfold spec_siFirst.f frs; simp [hn]
  · have hr : rnd n ≤ 198 := by unfold rnd; rw [if_neg hn]; omega
    have hw : wrap64 (frs n f l p * s) = frs n f l p * s := by
      have u1 : 0 ≤ frs n f l p * s := Int.mul_nonneg hb.1 (by omega)
      have u2 : frs n f l p * s ≤ 198 * 10 := Int.mul_le_mul (by omega) (by omega) (by omega) (by omega)
      exact wrap64_id (by omega) (by omega)
    unfold spec_siFirst.f
    rw [if_neg hn, wrap64_id (x := n - 1) (by omega) (by omega), wrap64_id (x := 2 * (n - 1)) (by omega) (by omega), wrap64_id (x := 2 * (2 * (n - 1))) (by omega) (by omega), wrap64_id (x := 2 * (n - 1) - p) (by omega) (by omega)]
    cases l with
    | true =>
      simp only [if_true]
      rw [if_neg (show ¬ 2 * (n - 1) = 0 by omega), wrap64_id (x := 2 * (n - 1) - f) (by omega) (by omega), wrap64_id (x := p - (2 * (n - 1) - f)) (by omega) (by omega), wrap64_id (x := p - (2 * (n - 1) - f) + 2 * (2 * (n - 1))) (by omega) (by omega), wrap64_id (x := 2 * (n - 1) - p - (2 * (n - 1) - f)) (by omega) (by omega), wrap64_id (x := 2 * (n - 1) - p - (2 * (n - 1) - f) + 2 * (2 * (n - 1))) (by omega) (by omega), tmod_nn (by omega), tmod_nn (by omega), l1Least_eq]
      unfold frs at hw ⊢
      rw [if_neg hn] at hw ⊢
      simp only [if_true] at hw ⊢
      simp only [Option.bind_some, hw]
    | false =>
      simp only [Bool.false_eq_true, if_false]
      rw [if_neg (show ¬ 2 * (n - 1) = 0 by omega), wrap64_id (x := p - f) (by omega) (by omega), wrap64_id (x := p - f + 2 * (2 * (n - 1))) (by omega) (by omega), wrap64_id (x := 2 * (n - 1) - p - f) (by omega) (by omega), wrap64_id (x := 2 * (n - 1) - p - f + 2 * (2 * (n - 1))) (by omega) (by omega), tmod_nn (by omega), tmod_nn (by omega), l1Least_eq]
      unfold frs at hw ⊢
      rw [if_neg hn] at hw ⊢
      simp only [Bool.false_eq_true, if_false] at hw ⊢
      simp only [Option.bind_some, hw]
theorem around_eq {n : Int} (h0 : 1 ≤ n) (h1 : n ≤ 100) : impl_around.f n = some (rnd n) := by
  unfold impl_around.f rnd mx
  rw [wrap64_id (x := n - 1) (by omega) (by omega), wrap64_id (x := 2 * (n - 1)) (by omega) (by omega)]
  congr 1
  split <;> split <;> omega
/-- The first time at which one of l comes to the place q, a being a former one. -/
def bst (n : Int) (l : List S27) (q : Int) (a : Int) : Int := l.foldl (fun a x => mrg a (frs n x.f0 x.f1 q * x.f2)) a
theorem heard_in (n : Int) (L : List S27) (o : Int → Int) (j : Int) (f : Int) (lf : Bool) (s : Int) (h : sigOK n f s) (hj0 : 0 ≤ j) (hj : j ≤ 1000) (R : List Int)
    (hR : Ev (fun k => impl_heard.l0 k n (tbl (fun q => mrg (o q) (frs n f lf q * s)) 0 n.toNat) L (L.length : Int) (j + 1)) R) :
    ∀ (d : Nat) (i : Int), i + d = rnd n → 0 ≤ i → Ev (fun k => impl_heard.l1 k n (tbl (hst n f lf s i o) 0 n.toNat) L (L.length : Int) j (rnd n) i f lf s) R := by
  have h' := h
  unfold sigOK at h'
  have hr : rnd n ≤ 198 := by unfold rnd; split <;> omega
  intro d
  induction d with
  | zero =>
    intro i hi h0
    refine Ev.succ ?_
    simp only [impl_heard.l1]
    refine Ev.neg (by omega) ?_
    rw [wrap64_id (x := j + 1) (by omega) (by omega), show i = rnd n by omega, tbl_congr n.toNat 0 (fun q _ _ => hst_all h o q)]
    exact hR
  | succ d ih =>
    intro i hi h0
    have hs0 : 0 ≤ i * s := Int.mul_nonneg h0 (by omega)
    have hs1 : i * s ≤ 198 * 10 := Int.mul_le_mul (by omega) (by omega) (by omega) (by omega)
    refine Ev.succ ?_
    simp only [impl_heard.l1]
    rw [wrap64_id (x := i * s) (by omega) (by omega), wrap64_id (x := i + 1) (by omega) (by omega)]
    simp only [place_eq (l := lf) h hs0 (show i * s ≤ 1000000000 by omega), Option.bind_some]
    have hp := plc_bd (l := lf) h hs0
    have hat := hst_at (l := lf) h o h0 (show i < rnd n by omega) _ rfl
    have hfar := fun q h0 h1 hq => hst_far (l := lf) (i := i) h o q h0 h1 hq
    generalize plc n f lf s (i * s) = p at hp hat hfar
    have ih' := ih (i + 1) (by omega) (by omega)
    have keep : hst n f lf s i o p = hst n f lf s (i + 1) o p → tbl (hst n f lf s i o) 0 n.toNat = tbl (hst n f lf s (i + 1) o) 0 n.toNat := fun e => tbl_congr _ _ (fun q h1 h2 => by
      by_cases hq : q = p
      · rw [hq]; exact e
      · exact hfar q h1 (by omega) hq)
    have setp : i * s = hst n f lf s (i + 1) o p → (tbl (hst n f lf s i o) 0 n.toNat).set p.toNat (i * s) = tbl (hst n f lf s (i + 1) o) 0 n.toNat := fun e => by
      rw [tbl_set _ _ _ _ (by omega)]
      refine tbl_congr _ _ (fun q h1 h2 => ?_)
      rw [show (0 : Int) + (p.toNat : Int) = p by omega]
      by_cases hq : q = p
      · rw [if_pos hq, hq]; exact e
      · rw [if_neg hq]; exact hfar q h1 (by omega) hq
    refine Ev.pos (by omega) (Ev.pos (by omega) (Ev.pos (by rw [tbl_len]; omega) ?_))
    rw [tbl_rd _ _ _ (by omega) (by omega)]
    refine Ev.iff (fun hc => ?_) (fun hc => ?_)
    · rw [setp (by rw [← hat, if_pos (.inl hc)])]; exact ih'
    · refine Ev.iff (fun hd => ?_) (fun hd => ?_)
      · rw [setp (by rw [← hat, if_pos (.inr hd)])]; exact ih'
      · rw [keep (by rw [← hat, if_neg (by omega)])]; exact ih'
theorem heard_loop (n : Int) (L : List S27) (hn : 1 ≤ n ∧ n ≤ 100) (hL : L.length ≤ 10) : ∀ (d i : Nat) (o : Int → Int), i + d = L.length → sgl n (L.drop i) = true →
    Ev (fun k => impl_heard.l0 k n (tbl o 0 n.toNat) L (L.length : Int) (i : Int)) (tbl (fun q => bst n (L.drop i) q (o q)) 0 n.toNat) := by
  intro d
  induction d with
  | zero =>
    intro i o hi hs
    refine Ev.succ ?_
    simp only [impl_heard.l0]
    refine Ev.neg (by omega) (Ev.const ?_)
    rw [List.drop_of_length_le (by omega)]
    rfl
  | succ d ih =>
    intro i o hi hs
    rw [sgl_drop n L i (by omega), Bool.and_eq_true] at hs
    have hok := of_decide_eq_true hs.1
    refine Ev.succ ?_
    simp only [impl_heard.l0, around_eq hn.1 hn.2, Option.bind_some]
    refine Ev.pos (by omega) (Ev.pos (by omega) (Ev.pos (by omega) ?_))
    have ih' := ih (i + 1) (fun q => mrg (o q) (frs n (rd_T27 L (i : Int)).f0 (rd_T27 L (i : Int)).f1 q * (rd_T27 L (i : Int)).f2)) (by omega) hs.2
    have hb := (frs_bd (l := false) (p := 0) hok)
    have := heard_in n L o (i : Int) _ (rd_T27 L (i : Int)).f1 _ hok (by omega) (by omega) _ ih' (rnd n).toNat 0 (by omega) (by omega)
    rw [tbl_congr n.toNat 0 (fun q _ _ => hst_zero hok o q)] at this
    rw [List.drop_eq_getElem_cons (show i < L.length by omega)]
    simp only [bst, List.foldl_cons] at this ⊢
    rw [← rdSigI (show i < L.length by omega)]
    exact this
theorem mul_all : ∀ c : Nat, c < 101 → 1 ≤ c → bits_Mul.f 1 (c : Int) = some (0, (c : Int)) := by decide
theorem heard_ev (n : Int) (L : List S27) (hn : 1 ≤ n ∧ n ≤ 100) (hs : sgsOK n L = true) : Ev (fun k => impl_heard.f k n L) (tbl (fun q => bst n L q (-1)) 0 n.toNat) := by
  unfold sgsOK at hs
  rw [Bool.and_eq_true] at hs
  have hl := of_decide_eq_true hs.1
  unfold impl_heard.f slices_Repeat_int_int.f
  have hm := mul_all n.toNat (by omega) (by omega)
  rw [show ((n.toNat : Nat) : Int) = n by omega] at hm
  rw [show ((([(-1)] : List Int).length : Nat) : Int) = 1 from rfl, hm]
  simp only [Option.bind_some]
  rw [if_pos (by refine ⟨?_, ?_, ?_, ?_⟩ <;> first | trivial | rfl | omega)]
  simp only [Option.bind_some]
  have := heard_loop n L hn hl.2 L.length 0 (fun _ => -1) (by omega) (by simpa using hs.2)
  rw [tbl_const] at this
  exact this
theorem bst_nn (n : Int) (q : Int) : ∀ (L : List S27) (a : Int), sgl n L = true → 0 ≤ a → 0 ≤ bst n L q a
  | [], a, _, h => h
  | x :: L, a, hs, h => by
    simp only [sgl, List.all_cons, Bool.and_eq_true] at hs
    have hok := of_decide_eq_true hs.1
    have hb := (frs_bd (l := x.f1) (p := q) hok).1
    have ht : 0 ≤ frs n x.f0 x.f1 q * x.f2 := Int.mul_nonneg hb (by have := hok.2.2.2.2.1; omega)
    simp only [bst, List.foldl_cons]
    refine bst_nn n q L _ hs.2 ?_
    unfold mrg
    split <;> (try split) <;> omega
theorem bst_nn' (n : Int) (q : Int) (L : List S27) (hs : sgsOK n L = true) : 0 ≤ bst n L q (-1) := by
  unfold sgsOK at hs
  rw [Bool.and_eq_true] at hs
  have hl := of_decide_eq_true hs.1
  cases L with
  | nil => simp at hl
  | cons x L =>
    have hs' := hs.2
    simp only [sgl, List.all_cons, Bool.and_eq_true] at hs'
    have hok := of_decide_eq_true hs'.1
    have hb := (frs_bd (l := x.f1) (p := q) hok).1
    have ht : 0 ≤ frs n x.f0 x.f1 q * x.f2 := Int.mul_nonneg hb (by have := hok.2.2.2.2.1; omega)
    have := bst_nn n q L _ hs'.2 ht
    simp only [bst, List.foldl_cons, mrg] at this ⊢
    exact this
theorem bst_cons (n : Int) (q : Int) (x : S27) (L : List S27) (a : Int) : bst n (x :: L) q a = bst n L q (mrg a (frs n x.f0 x.f1 q * x.f2)) := rfl
theorem mrg_mn {a t : Int} (h : 0 ≤ a) : mrg a t = mn a t := by unfold mrg mn; rw [if_neg (by omega)]
theorem mrg_nn {a t : Int} (h : 0 ≤ t) : 0 ≤ mrg a t := by unfold mrg; split <;> (try split) <;> omega
/-- Who has had a signal up to a time. -/
def hby (n : Int) (L : List S27) (u : Int) : List Int × Bool := if (sgsOK n L = true ∧ 1 ≤ n ∧ n ≤ 100) ∧ 0 ≤ u ∧ u ≤ 100000 then (fil (fun q => decide (bst n L q (-1) ≤ u)) 0 n.toNat, true) else ([], false)
theorem hby_len (n : Int) (L : List S27) (u : Int) : (hby n L u).1.length ≤ 100 := by
  unfold hby
  by_cases h : (sgsOK n L = true ∧ 1 ≤ n ∧ n ≤ 100) ∧ 0 ≤ u ∧ u ≤ 100000
  · rw [if_pos h]
    have := fil_len (fun q => decide (bst n L q (-1) ≤ u)) n.toNat 0
    simp only
    omega
  · rw [if_neg h]; simp
theorem mrg_le {a t u : Int} (hu : 0 ≤ u) (ht : 0 ≤ t) : (0 ≤ mrg a t ∧ mrg a t ≤ u) ↔ ((0 ≤ a ∧ a ≤ u) ∨ t ≤ u) := by
  unfold mrg
  split <;> (try split) <;> omega
theorem spHB_in (n : Int) (L : List S27) (hL : L.length ≤ 10) (u : Int) (hu : 0 ≤ u) (out : List Int) (ho : out.length ≤ 1000) (q : Int) (h0 : 0 ≤ q) (h1 : q ≤ n - 1) (hn : n ≤ 100) (R : List Int × Bool) :
    ∀ (d i : Nat) (a : Int), i + d = L.length → sgl n (L.drop i) = true → Ev (fun k => spec_HeardBy.l0 k n L u (out ++ (if 0 ≤ bst n (L.drop i) q a ∧ bst n (L.drop i) q a ≤ u then [q] else [])) (q + 1)) R → Ev (fun k => spec_HeardBy.l1 k n L u out q (decide (0 ≤ a ∧ a ≤ u)) L (L.length : Int) (i : Int)) R := by
  intro d
  induction d with
  | zero =>
    intro i a hi hs hR
    refine Ev.succ ?_
    simp only [spec_HeardBy.l1]
    rw [List.drop_of_length_le (by omega)] at hR
    change Ev (fun k => spec_HeardBy.l0 k n L u (out ++ (if 0 ≤ a ∧ a ≤ u then [q] else [])) (q + 1)) R at hR
    refine Ev.neg (by omega) ?_
    rw [wrap64_id (x := q + 1) (by omega) (by omega)]
    refine Ev.iff (fun hc => ?_) (fun hc => ?_)
    · rw [if_pos (of_decide_eq_true hc)] at hR
      exact Ev.pos (by omega) hR
    · rw [if_neg (fun h => hc (decide_eq_true h)), List.append_nil] at hR
      exact hR
  | succ d ih =>
    intro i a hi hs hR
    rw [sgl_drop n L i (by omega), Bool.and_eq_true] at hs
    have hok := of_decide_eq_true hs.1
    refine Ev.succ ?_
    simp only [spec_HeardBy.l1, siFirst_eq hok h0 h1, Option.bind_some]
    refine Ev.pos (by omega) (Ev.pos (by omega) (Ev.pos (by omega) ?_))
    rw [wrap64_id (x := (i : Int) + 1) (by omega) (by omega)]
    have hb := (frs_bd (l := (rd_T27 L (i : Int)).f1) (p := q) hok).1
    have ht := Int.mul_nonneg hb (show 0 ≤ (rd_T27 L (i : Int)).f2 by have := hok.2.2.2.2.1; omega)
    rw [List.drop_eq_getElem_cons (show i < L.length by omega), bst_cons, ← rdSigI (show i < L.length by omega)] at hR
    have ih' := ih (i + 1) _ (by omega) hs.2 hR
    have hle := mrg_le (a := a) (u := u) hu ht
    refine Ev.iff (fun hc => ?_) (fun hc => ?_)
    · rw [show decide (0 ≤ mrg a (frs n (rd_T27 L (i : Int)).f0 (rd_T27 L (i : Int)).f1 q * (rd_T27 L (i : Int)).f2) ∧ mrg a (frs n (rd_T27 L (i : Int)).f0 (rd_T27 L (i : Int)).f1 q * (rd_T27 L (i : Int)).f2) ≤ u) = true from decide_eq_true (hle.2 (.inl (of_decide_eq_true hc)))] at ih'
      exact ih'
    · have hna : ¬ (0 ≤ a ∧ a ≤ u) := fun h => hc (decide_eq_true h)
      rw [show decide (0 ≤ mrg a (frs n (rd_T27 L (i : Int)).f0 (rd_T27 L (i : Int)).f1 q * (rd_T27 L (i : Int)).f2) ∧ mrg a (frs n (rd_T27 L (i : Int)).f0 (rd_T27 L (i : Int)).f1 q * (rd_T27 L (i : Int)).f2) ≤ u) = decide (frs n (rd_T27 L (i : Int)).f0 (rd_T27 L (i : Int)).f1 q * (rd_T27 L (i : Int)).f2 ≤ u) from decide_eq_decide.2 (hle.trans ⟨fun h => h.resolve_left hna, .inr⟩)] at ih'
      exact ih'
theorem spHB_loop (n : Int) (L : List S27) (u : Int) (hu : 0 ≤ u) (hn : 1 ≤ n ∧ n ≤ 100) (hs : sgsOK n L = true) :
    ∀ (d : Nat) (out : List Int) (q : Int), 0 ≤ q → q + d = n → (out.length : Int) ≤ q → Ev (fun k => spec_HeardBy.l0 k n L u out q) (out ++ fil (fun q => decide (bst n L q (-1) ≤ u)) q d, true) := by
  have hs0 := hs
  unfold sgsOK at hs0
  rw [Bool.and_eq_true] at hs0
  have hl := of_decide_eq_true hs0.1
  intro d
  induction d with
  | zero =>
    intro out q h0 h1 h2
    refine Ev.succ ?_
    simp only [spec_HeardBy.l0]
    refine Ev.neg (by omega) (Ev.const ?_)
    simp [fil]
  | succ d ih =>
    intro out q h0 h1 h2
    refine Ev.succ ?_
    simp only [spec_HeardBy.l0]
    refine Ev.pos (by omega) ?_
    have hb := bst_nn' n q L hs
    have := spHB_in n L hl.2 u hu out (by omega) q h0 (by omega) hn.2 (out ++ fil (fun q => decide (bst n L q (-1) ≤ u)) q (d + 1), true) L.length 0 (-1) (by omega) (by simpa using hs0.2)
    rw [show decide ((0 : Int) ≤ -1 ∧ (-1 : Int) ≤ u) = false from decide_eq_false (by omega), List.drop_zero] at this
    refine this ?_
    simp only [fil]
    by_cases hc : bst n L q (-1) ≤ u
    · rw [if_pos ⟨hb, hc⟩, if_pos (decide_eq_true hc), ← List.append_assoc]
      exact ih _ _ (by omega) (by omega) (by simp; omega)
    · rw [if_neg (fun h => hc h.2), if_neg (by simpa using hc), List.append_nil, List.nil_append]
      exact ih _ _ (by omega) (by omega) (by omega)
theorem spHeardBy_ev (n : Int) (L : List S27) (u : Int) (hL : L.length ≤ 1000000000) : Ev (fun k => spec_HeardBy.f k n L u) (hby n L u) := by
  unfold spec_HeardBy.f hby
  have et : spec_siTime.f u = some (decide (0 ≤ u ∧ u ≤ 100000)) := by unfold spec_siTime.f; rw [l1In_eq]; rfl
  simp only [siSoldiers_eq, et, Option.bind_some]
  have no : (∀ h : (sgsOK n L = true ∧ 1 ≤ n ∧ n ≤ 100) ∧ 0 ≤ u ∧ u ≤ 100000, False) → Ev (fun k => spec_HeardBy.j0 k n L u true) (if (sgsOK n L = true ∧ 1 ≤ n ∧ n ≤ 100) ∧ 0 ≤ u ∧ u ≤ 100000 then (fil (fun q => decide (bst n L q (-1) ≤ u)) 0 n.toNat, true) else ([], false)) := fun hno => by
    refine Ev.succ ?_
    simp only [spec_HeardBy.j0]
    rw [if_neg (fun h => hno h)]
    exact Ev.pos (by first | rfl | trivial) (Ev.now _)
  refine Ev.iff (fun hc => ?_) (fun hc => no (fun h => hc (decide_eq_true h.1.2)))
  have hn := of_decide_eq_true hc
  refine Ev.bind (siList_ev n L hL) (Ev.iff (fun hb => ?_) (fun hb => no (fun h => hb h.1.1)))
  by_cases hu : 0 ≤ u ∧ u ≤ 100000
  · rw [if_pos ⟨⟨hb, hn⟩, hu⟩, decide_eq_true hu]
    refine Ev.succ ?_
    simp only [spec_HeardBy.j0]
    refine Ev.neg (by simp) ?_
    have := spHB_loop n L u hu.1 hn hb n.toNat [] 0 (by omega) (by omega) (by simp)
    simpa using this
  · rw [decide_eq_false hu]
    exact no (fun h => hu h.2)
theorem imHB_loop (u : Int) (o : Int → Int) (n : Nat) (hn : n ≤ 1000) : ∀ (d i : Nat) (out : List Int), i + d = n → out.length ≤ i →
    Ev (fun k => impl_HeardBy.l0 k u out (tbl o 0 n) (n : Int) (i : Int)) (out ++ fil (fun q => decide (o q ≤ u)) (i : Int) d, true) := by
  intro d
  induction d with
  | zero =>
    intro i out hi ho
    refine Ev.succ ?_
    simp only [impl_HeardBy.l0]
    refine Ev.neg (by omega) (Ev.const ?_)
    simp [fil]
  | succ d ih =>
    intro i out hi ho
    refine Ev.succ ?_
    simp only [impl_HeardBy.l0]
    have e := tbl_get o n 0 i (by omega)
    rw [show (0 : Int) + (i : Int) = (i : Int) by omega] at e
    rw [e, wrap64_id (x := (i : Int) + 1) (by omega) (by omega)]
    simp only [fil]
    refine Ev.pos (by omega) (Ev.pos (by omega) (Ev.pos (by rw [tbl_len]; omega) (Ev.iff (fun hc => ?_) (fun hc => ?_))))
    · refine Ev.pos (by omega) ?_
      rw [if_pos (decide_eq_true hc), ← List.append_assoc]
      exact ih (i + 1) (out ++ [(i : Int)]) (by omega) (by simp; omega)
    · rw [if_neg (by simpa using hc), List.nil_append]
      exact ih (i + 1) out (by omega) (by omega)
theorem imHeardBy_ev (n : Int) (L : List S27) (u : Int) (hL : L.length ≤ 1000000000) : Ev (fun k => impl_HeardBy.f k n L u) (hby n L u) := by
  unfold impl_HeardBy.f hby
  have et : impl_isSignalTime.f u = some (decide (0 ≤ u ∧ u ≤ 100000)) := by unfold impl_isSignalTime.f; rw [in_eq]; rfl
  simp only [et, Option.bind_some]
  have no : (∀ h : (sgsOK n L = true ∧ 1 ≤ n ∧ n ≤ 100) ∧ 0 ≤ u ∧ u ≤ 100000, False) → Ev (fun k => impl_HeardBy.j0 k n L u true) (if (sgsOK n L = true ∧ 1 ≤ n ∧ n ≤ 100) ∧ 0 ≤ u ∧ u ≤ 100000 then (fil (fun q => decide (bst n L q (-1) ≤ u)) 0 n.toNat, true) else ([], false)) := fun hno => by
    refine Ev.succ ?_
    simp only [impl_HeardBy.j0]
    rw [if_neg (fun h => hno h)]
    exact Ev.pos (by first | rfl | trivial) (Ev.now _)
  refine Ev.bind (areSignals_ev n L hL) (Ev.iff (fun hc => ?_) (fun hc => no (fun h => hc (by rw [h.1.1, decide_eq_true h.1.2]; rfl))))
  rw [Bool.and_eq_true] at hc
  have hn := of_decide_eq_true hc.1
  by_cases hu : 0 ≤ u ∧ u ≤ 100000
  · rw [if_pos ⟨⟨hc.2, hn⟩, hu⟩, decide_eq_true hu]
    refine Ev.succ ?_
    simp only [impl_HeardBy.j0]
    refine Ev.neg (by simp) (Ev.bind (heard_ev n L hn hc.2) ?_)
    rw [tbl_len]
    have := imHB_loop u (fun q => bst n L q (-1)) n.toNat (by omega) n.toNat 0 [] (by omega) (by simp)
    simpa using this
  · rw [decide_eq_false hu]
    exact no (fun h => hu h.2)
theorem markSignalS_loop : ∀ (d : Nat) (l : List S27) (i : Nat) (m : Int), i + d = l.length → l.length ≤ 100000000 → 0 ≤ m → m ≤ 3 * (i : Int) + 1 → ∃ r : Int × List S27, Ev (fun k => laws_markSignalS.l0 k l m (i : Int)) r ∧ 0 ≤ r.1 := by
  intro d
  induction d with
  | zero =>
    intro l i m h hl h0 h1
    refine ⟨(m, l), Ev.succ ?_, h0⟩
    simp only [laws_markSignalS.l0]
    exact Ev.neg (by omega) (Ev.now _)
  | succ d ih =>
    intro l i m h hl h0 h1
    obtain ⟨l', hl', hst⟩ : ∃ l' : List S27, l'.length = l.length ∧ ∀ r, Ev (fun k => laws_markSignalS.l0 k l' (m + 1 + 1 + 1) ((i : Int) + 1)) r → Ev (fun k => laws_markSignalS.l0 (k + 1) l m (i : Int)) r := by
      apply Exists.intro
      apply And.intro
      rotate_left
      · intro r hr
        simp only [laws_markSignalS.l0, Option.bind_some]
        rw [wrap64_id (x := m + 1) (by omega) (by omega), wrap64_id (x := m + 1 + 1) (by omega) (by omega), wrap64_id (x := m + 1 + 1 + 1) (by omega) (by omega), wrap64_id (x := (i : Int) + 1) (by omega) (by omega)]
        exact Ev.pos (by omega) (Ev.pos (by omega) hr)
      · simp only [List.length_set]
    obtain ⟨r, hr, hr0⟩ := ih l' (i + 1) (m + 1 + 1 + 1) (by omega) (by omega) (by omega) (by omega)
    exact ⟨r, Ev.succ (hst r hr), hr0⟩
theorem markSignalS_ev (l : List S27) (hl : l.length ≤ 100000000) : ∃ r : Int × List S27, Ev (fun k => laws_markSignalS.f k l 1) r ∧ 0 ≤ r.1 := by
  unfold laws_markSignalS.f
  exact markSignalS_loop l.length l 0 1 (by omega) hl (by omega) (by omega)
theorem FnExactHeardBy : StatFnExactHeardBy := by
  intro n l u _ hl8 _ _
  refine Ev.get ?_
  unfold laws_FnExactHeardBy.f laws_szSignalS.f
  rw [wrap64_id (x := 1048576 - (l.length : Int)) (by omega) (by omega)]
  by_cases h : 1048576 - (l.length : Int) < 0
  · simp only [if_pos h, Option.bind_some]
    exact Ev.pos (by omega) (Ev.now _)
  · simp only [if_neg h, Option.bind_some]
    have hm : (l.map cvSig).length ≤ 1000000000 := by simp; omega
    have ts := toSignalS_ev l (by omega)
    have sp := spHeardBy_ev n (l.map cvSig) u hm
    have im := imHeardBy_ev n (l.map cvSig) u hm
    have hl := hby_len n (l.map cvSig) u
    obtain ⟨ms, hms, hms0⟩ := markSignalS_ev (l.map cvSig) (by simp; omega)
    have es := eqSignalS_ev (l.map cvSig) hm
    generalize hby n (l.map cvSig) u = R at sp im hl
    obtain ⟨rl, rb⟩ := R
    simp only at hl
    have ei := eqIntS_ev rl (by omega)
    refine Ev.bind ts (Ev.bind sp (Ev.bind ts (Ev.bind im (Ev.bind ei (Ev.pos rfl (Ev.succ ?_))))))
    simp only [laws_FnExactHeardBy.j0]
    refine Ev.neg (by simp) (Ev.bind ts (Ev.bind es (Ev.pos rfl (Ev.bind hms (Ev.neg (by omega) (Ev.bind ei (Ev.pos rfl (Ev.succ ?_))))))))
    simp only [laws_FnExactHeardBy.j1]
    refine Ev.neg (by simp) (Ev.bind (markIntS_ev rl (by omega)) (Ev.bind (heldIntS_ev rl.length (by omega)) (Ev.neg (by omega) (Ev.pos rfl (Ev.bind ts (Ev.bind im (Ev.bind ei (Ev.pos rfl (Ev.succ ?_)))))))))
    simp only [laws_FnExactHeardBy.j2]
    exact Ev.neg (by simp) (Ev.bind (heldIntS_ev rl.length (by omega)) (Ev.neg (by omega) (Ev.pos rfl (Ev.now _))))

end Go.Proofs.Ytafcfhlgenljgaa.Pure
