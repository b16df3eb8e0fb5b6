/- The law FnExactAreSignals, pure: what the printed functions answer, and that it is what the law asks. No condition. -/
import Derived.Test.YtocnicmnckilkaaStatFnExactAreSignals
import Derived.Test.YtocnicmnckilkaaPlBase
import Derived.Test.YtocnicmnckilkaaPlSig
import Derived.Test.YtocnicmnckilkaaPlList
namespace Go.Proofs.Ytocnicmnckilkaa.Pure
open Go.RowKit Go.Proofs.Ytocnicmnckilkaa.PFnExactAreSignals Go.Proofs.YtocnicmnckilkaaW.PrintWords Go.Proofs.YtocnicmnckilkaaW.PrintMore Go.Proofs.Ytocnicmnckilkaa.Opn Go.Proofs.Ytocnicmnckilkaa.Pl
set_option linter.unusedVariables false
set_option linter.unusedSimpArgs false
theorem in_eq (a b c : Int) : impl_in.f a b c = some (decide (b ≤ a ∧ a ≤ c)) := by
  unfold impl_in.f; by_cases h : b ≤ a <;> simp [h]
theorem l1In_eq (a b c : Int) : spec_l1In.f a b c = some (decide (b ≤ a ∧ a ≤ c)) := by
  unfold spec_l1In.f; by_cases h : b ≤ a <;> simp [h]
theorem siSoldiers_eq (a : Int) : spec_siSoldiers.f a = some (decide (1 ≤ a ∧ a ≤ 100)) := by
  unfold spec_siSoldiers.f; rw [l1In_eq]; rfl
theorem siSignal_eq (n f : Int) (l : Bool) (s : Int) : spec_siSignal.f n f l s = some (decide (sigOK n f s)) := by
  unfold spec_siSignal.f
  simp only [siSoldiers_eq, l1In_eq, Option.bind_some]
  by_cases h : 1 ≤ n ∧ n ≤ 100
  · rw [wrap64_id (x := n - 1) (by omega) (by omega)]
    by_cases h2 : 0 ≤ f ∧ f ≤ n - 1
    · unfold sigOK; simp [h, h2]
    · have k : ¬ sigOK n f s := fun q => h2 ⟨q.2.2.1, q.2.2.2.1⟩
      simp only [h, h2, k, decide_true, decide_false, if_true, Bool.false_eq_true, if_false]; simp
  · simp only [h, decide_false]
    have : ¬ sigOK n f s := fun k => h ⟨k.1, k.2.1⟩
    simp [this]
theorem isSignalRow_eq (a : Int) : impl_isSignalRow.f a = some (decide (1 ≤ a ∧ a ≤ 100)) := by
  unfold impl_isSignalRow.f; rw [in_eq]; rfl
theorem isSignal_eq (n f : Int) (l : Bool) (s : Int) : impl_isSignal.f n f l s = some (decide (sigOK n f s)) := by
  unfold impl_isSignal.f
  simp only [isSignalRow_eq, in_eq, Option.bind_some]
  by_cases h : 1 ≤ n ∧ n ≤ 100
  · rw [wrap64_id (x := n - 1) (by omega) (by omega)]
    by_cases h2 : 0 ≤ f ∧ f ≤ n - 1
    · unfold sigOK; simp [h, h2]
    · have k : ¬ sigOK n f s := fun q => h2 ⟨q.2.2.1, q.2.2.2.1⟩
      simp only [h, h2, k, decide_true, decide_false, if_true, Bool.false_eq_true, if_false]; simp
  · simp only [h, decide_false]
    have : ¬ sigOK n f s := fun k => h ⟨k.1, k.2.1⟩
    simp [this]
def cvSig (x : S41) : S44 := ⟨x.f0, x.f1, x.f2⟩
theorem rdSigL {l : List S41} {i : Nat} (h : i < l.length) : rd_T41 l (i : Int) = l[i] := by simp [rd_T41, h]
theorem rdSigI {l : List S44} {i : Nat} (h : i < l.length) : rd_T44 l (i : Int) = l[i] := by simp [rd_T44, h]
theorem toSignalS_loop (l : List S41) (hl : l.length ≤ 1000000000) : ∀ (d i : Nat), i + d = l.length → Ev (fun k => laws_toSignalS.l0 k l (cpy z44 (l.map cvSig) i) (i : Int)) (l.map cvSig) := by
  intro d
  induction d with
  | zero =>
    intro i h
    refine Ev.succ ?_
    simp only [laws_toSignalS.l0]
    refine Ev.neg (by omega) (Ev.const ?_)
    rw [show i = (l.map cvSig).length by simp; omega, cpy_all]
  | succ d ih =>
    intro i h
    refine Ev.succ ?_
    simp only [laws_toSignalS.l0, laws_toSignal.f, Option.bind_some]
    refine Ev.pos (by omega) (Ev.pos (by omega) (Ev.pos (by rw [cpy_len _ _ _ (by simp; omega)]; simp; omega) ?_))
    have hi : i < (l.map cvSig).length := by simp; omega
    have e := cpy_succ z44 (l.map cvSig) i hi
    rw [List.getElem_map] at e
    rw [wrap64_id (x := (i : Int) + 1) (by omega) (by omega), Int.toNat_natCast, rdSigL (show i < l.length by omega)]
    have := ih (i + 1) (by omega)
    rw [← e] at this
    exact this
theorem toSignalS_ev (l : List S41) (hl : l.length ≤ 1000000000) : Ev (fun k => laws_toSignalS.f k l) (l.map cvSig) := by
  unfold laws_toSignalS.f
  refine Ev.pos (by omega) (Ev.pos (by omega) ?_)
  have := toSignalS_loop l hl l.length 0 (by omega)
  rw [cpy_zero, List.length_map] at this
  exact this
theorem eqSignalS_loop (l : List S44) (hl : l.length ≤ 1000000000) : ∀ (d i : Nat), i + d = l.length → Ev (fun k => laws_eqSignalS.l0 k l l (i : Int)) true := by
  intro d
  induction d with
  | zero =>
    intro i h
    refine Ev.succ ?_
    simp only [laws_eqSignalS.l0]
    exact Ev.neg (by omega) (Ev.now _)
  | succ d ih =>
    intro i h
    refine Ev.succ ?_
    have e : ∀ (x : Int) (b : Bool) (y : Int), laws_eqSignal.f x b y x b y = some true := by intro x b y; unfold laws_eqSignal.f; simp
    simp only [laws_eqSignalS.l0, e, Option.bind_some]
    refine Ev.pos (by omega) (Ev.pos (by omega) (Ev.pos (by omega) (Ev.pos (by first | rfl | trivial) ?_)))
    rw [wrap64_id (x := (i : Int) + 1) (by omega) (by omega)]
    exact ih (i + 1) (by omega)
theorem eqSignalS_ev (l : List S44) (hl : l.length ≤ 1000000000) : Ev (fun k => laws_eqSignalS.f k l l) true := by
  unfold laws_eqSignalS.f
  exact Ev.pos rfl (eqSignalS_loop l hl l.length 0 (by omega))
/-- Is a list one of signals? -/
def sgl (n : Int) (l : List S44) : Bool := l.all fun x => decide (sigOK n x.f0 x.f2)
def sgsOK (n : Int) (l : List S44) : Bool := decide (1 ≤ l.length ∧ l.length ≤ 10) && sgl n l
theorem sgl_drop (n : Int) (l : List S44) (i : Nat) (h : i < l.length) : sgl n (l.drop i) = (decide (sigOK n (rd_T44 l (i : Int)).f0 (rd_T44 l (i : Int)).f2) && sgl n (l.drop (i + 1))) := by
  rw [List.drop_eq_getElem_cons h, rdSigI h]; rfl
theorem siList_loop (n : Int) (l : List S44) (hl : l.length ≤ 1000000000) : ∀ (d i : Nat), i + d = l.length → Ev (fun k => spec_siList.l0 k n l (l.length : Int) (i : Int)) (sgl n (l.drop i)) := by
  intro d
  induction d with
  | zero =>
    intro i h
    refine Ev.succ ?_
    simp only [spec_siList.l0]
    refine Ev.neg (by omega) (Ev.const ?_)
    rw [List.drop_of_length_le (by omega)]; rfl
  | succ d ih =>
    intro i h
    refine Ev.succ ?_
    simp only [spec_siList.l0, siSignal_eq, Option.bind_some]
    refine Ev.pos (by omega) (Ev.pos (by omega) (Ev.pos (by omega) ?_))
    rw [wrap64_id (x := (i : Int) + 1) (by omega) (by omega), sgl_drop n l i (by omega)]
    refine Ev.iff (fun hc => ?_) (fun hc => ?_)
    · rw [hc, Bool.true_and]; exact ih (i + 1) (by omega)
    · rw [Bool.not_eq_true] at hc; rw [hc, Bool.false_and]; exact Ev.now _
theorem siList_ev (n : Int) (l : List S44) (hl : l.length ≤ 1000000000) : Ev (fun k => spec_siList.f k n l) (sgsOK n l) := by
  unfold spec_siList.f sgsOK
  simp only [l1In_eq, Option.bind_some]
  refine Ev.iff (fun hc => ?_) (fun hc => ?_)
  · have hc' := of_decide_eq_true hc
    rw [show decide (1 ≤ l.length ∧ l.length ≤ 10) = true from decide_eq_true (by omega), Bool.true_and]
    exact siList_loop n l hl l.length 0 (by omega)
  · have hc' : ¬ (1 ≤ l.length ∧ l.length ≤ 10) := fun h => hc (decide_eq_true (by omega))
    rw [show decide (1 ≤ l.length ∧ l.length ≤ 10) = false from decide_eq_false hc', Bool.false_and]
    exact Ev.now _
theorem areSig_loop (n : Int) (l : List S44) (hl : l.length ≤ 1000000000) : ∀ (d i : Nat), i + d = l.length → ∃ r : Int, Ev (fun k => impl_areSignals_idx.l0 k n l (i : Int)) r ∧ decide (0 ≤ r) = !sgl n (l.drop i) := by
  intro d
  induction d with
  | zero =>
    intro i h
    refine ⟨-1, Ev.succ ?_, ?_⟩
    · simp only [impl_areSignals_idx.l0]
      exact Ev.neg (by omega) (Ev.now _)
    · rw [List.drop_of_length_le (by omega)]; rfl
  | succ d ih =>
    intro i h
    obtain ⟨r, h1, h2⟩ := ih (i + 1) (by omega)
    have hs := sgl_drop n l i (by omega)
    cases hc : decide (sigOK n (rd_T44 l (i : Int)).f0 (rd_T44 l (i : Int)).f2) with
    | true =>
      rw [hc, Bool.true_and] at hs
      refine ⟨r, Ev.succ ?_, by rw [hs]; exact h2⟩
      simp only [impl_areSignals_idx.l0, impl_areSignals_clo.f, isSignal_eq, hc, Option.bind_some]
      refine Ev.pos (by omega) (Ev.pos (by omega) (Ev.neg (by simp) ?_))
      rw [wrap64_id (x := (i : Int) + 1) (by omega) (by omega)]
      exact h1
    | false =>
      rw [hc, Bool.false_and] at hs
      refine ⟨(i : Int), Ev.succ ?_, by rw [hs]; simp⟩
      simp only [impl_areSignals_idx.l0, impl_areSignals_clo.f, isSignal_eq, hc, Option.bind_some]
      exact Ev.pos (by omega) (Ev.pos (by omega) (Ev.pos (by simp) (Ev.now _)))
theorem areSignals_ev (n : Int) (l : List S44) (hl : l.length ≤ 1000000000) : Ev (fun k => impl_areSignals.f k n l) (decide (1 ≤ n ∧ n ≤ 100) && sgsOK n l) := by
  unfold impl_areSignals.f sgsOK
  simp only [isSignalRow_eq, in_eq, Option.bind_some]
  refine Ev.iff (fun h1 => ?_) (fun h1 => ?_)
  · rw [h1, Bool.true_and]
    refine Ev.iff (fun hc => ?_) (fun hc => ?_)
    · have hc' := of_decide_eq_true hc
      rw [show decide (1 ≤ l.length ∧ l.length ≤ 10) = true from decide_eq_true (by omega), Bool.true_and]
      obtain ⟨r, e1, e2⟩ := areSig_loop n l hl l.length 0 (by omega)
      unfold impl_areSignals_has.f
      refine Ev.bind (Ev.bind e1 (Ev.now _)) (Ev.const ?_)
      rw [e2, List.drop_zero, Bool.not_not]
    · have hc' : ¬ (1 ≤ l.length ∧ l.length ≤ 10) := fun h => hc (decide_eq_true (by omega))
      rw [show decide (1 ≤ l.length ∧ l.length ≤ 10) = false from decide_eq_false hc', Bool.false_and]
      exact Ev.now _
  · rw [Bool.not_eq_true] at h1
    rw [h1, Bool.false_and]
    exact Ev.now _
theorem sgs_row (n : Int) (l : List S44) : (decide (1 ≤ n ∧ n ≤ 100) && sgsOK n l) = sgsOK n l := by
  by_cases h : 1 ≤ n ∧ n ≤ 100
  · rw [decide_eq_true h, Bool.true_and]
  · rw [decide_eq_false h, Bool.false_and]
    symm
    unfold sgsOK
    cases l with
    | nil => rfl
    | cons x l =>
      have : decide (sigOK n x.f0 x.f2) = false := decide_eq_false (fun k => h ⟨k.1, k.2.1⟩)
      simp [sgl, this]
theorem FnExactAreSignals : StatFnExactAreSignals := by
  intro n l _ hl8 _
  refine Ev.get ?_
  unfold laws_FnExactAreSignals.f laws_szSignalS.f
  rw [wrap64_id (x := 1048576 - (l.length : Int)) (by omega) (by omega)]
  by_cases h : 1048576 - (l.length : Int) < 0
  · simp only [if_pos h, Option.bind_some]
    exact Ev.pos (by omega) (Ev.now _)
  · simp only [if_neg h, Option.bind_some]
    have hm : (l.map cvSig).length ≤ 1000000000 := by simp; omega
    unfold spec_AreSignals.f impl_AreSignals.f
    refine Ev.bind (toSignalS_ev l (by omega)) (Ev.bind (Ev.bind (siList_ev n _ hm) (Ev.now _)) (Ev.bind (toSignalS_ev l (by omega)) (Ev.bind (Ev.bind (areSignals_ev n _ hm) (Ev.now _)) ?_)))
    rw [sgs_row]
    refine Ev.neg (by simp) (Ev.bind (toSignalS_ev l (by omega)) (Ev.bind (eqSignalS_ev _ hm) (Ev.now _)))

end Go.Proofs.Ytocnicmnckilkaa.Pure
