/- Plain facts: Go. No condition. -/
import Derived.Test.YtlhhbkdeginhoaaPlSig
import Derived.RowKit
import Derived.Test.YtlhhbkdeginhoaaWWords
import Derived.Test.YtlhhbkdeginhoaaWMore
import Derived.Test.YtlhhbkdeginhoaaOpn
namespace Go.Proofs.Ytlhhbkdeginhoaa.Pl
open Go.RowKit Go.Proofs.YtlhhbkdeginhoaaW.PrintWords Go.Proofs.YtlhhbkdeginhoaaW.PrintMore Go.Proofs.Ytlhhbkdeginhoaa.Opn
set_option linter.unusedVariables false
set_option linter.unusedSimpArgs false
def per (n s : Int) : Int := if n = 1 then 1 else 2 * (n - 1) * s
theorem per_pos {n f s : Int} (h : sigOK n f s) : 1 ≤ per n s ∧ per n s ≤ 1980 := by
  unfold sigOK at h
  unfold per
  by_cases hn : n = 1
  · rw [if_pos hn]; omega
  · rw [if_neg hn]
    have h1 : (1 : Int) * 1 ≤ 2 * (n - 1) * s := Int.mul_le_mul (by omega) (by omega) (by omega) (by omega)
    have h2 : 2 * (n - 1) * s ≤ 198 * 10 := Int.mul_le_mul (by omega) (by omega) (by omega) (by omega)
    omega
theorem plc_per {n f : Int} {l : Bool} {s t : Int} (h : sigOK n f s) (ht : 0 ≤ t) : plc n f l s (t + per n s) = plc n f l s t := by
  unfold sigOK at h
  unfold plc per
  by_cases hn : n = 1
  · simp [hn]
  · simp only [if_neg hn]
    rw [Int.add_mul_ediv_right _ _ (show s ≠ 0 by omega), ← Int.add_assoc, Int.add_emod_right]
theorem div_step (t s : Int) (hs : 1 ≤ s) (ht : 0 ≤ t) : ((t + 1) % s = 0 → (t + 1) / s = t / s + 1) ∧ ((t + 1) % s ≠ 0 → (t + 1) / s = t / s) := by
  have a := Int.mul_ediv_add_emod (t + 1) s
  have b := Int.mul_ediv_add_emod t s
  have a0 := Int.emod_nonneg (t + 1) (show s ≠ 0 by omega)
  have a1 := Int.emod_lt_of_pos (t + 1) (show 0 < s by omega)
  have b0 := Int.emod_nonneg t (show s ≠ 0 by omega)
  have b1 := Int.emod_lt_of_pos t (show 0 < s by omega)
  generalize (t + 1) % s = ra at *
  generalize t % s = rb at *
  generalize (t + 1) / s = qa at *
  generalize t / s = qb at *
  have e : s * (qa - qb) = 1 + rb - ra := by rw [Int.mul_sub]; omega
  constructor
  · intro h
    subst h
    have h1 : qa - qb = 1 := by
      rcases Int.lt_trichotomy (qa - qb) 1 with h | h | h
      · exfalso
        have := Int.mul_le_mul_of_nonneg_left (show qa - qb ≤ 0 by omega) (show 0 ≤ s by omega)
        omega
      · exact h
      · exfalso
        have := Int.mul_le_mul_of_nonneg_left (show 2 ≤ qa - qb by omega) (show 0 ≤ s by omega)
        omega
    omega
  · intro h
    have h1 : qa - qb = 0 := by
      rcases Int.lt_trichotomy (qa - qb) 0 with h2 | h2 | h2
      · exfalso
        have := Int.mul_le_mul_of_nonneg_left (show qa - qb ≤ -1 by omega) (show 0 ≤ s by omega)
        omega
      · exact h2
      · exfalso
        have := Int.mul_le_mul_of_nonneg_left (show 1 ≤ qa - qb by omega) (show 0 ≤ s by omega)
        omega
    omega
theorem mod_step (x r : Int) (hr : 2 ≤ r) : (x + 1) % r = if x % r + 1 = r then 0 else x % r + 1 := by
  have b := Int.mul_ediv_add_emod x r
  have b0 := Int.emod_nonneg x (show r ≠ 0 by omega)
  have b1 := Int.emod_lt_of_pos x (show 0 < r by omega)
  generalize x % r = m at *
  generalize x / r = q at *
  by_cases h : m + 1 = r
  · rw [if_pos h, show x + 1 = 0 + r * (q + 1) by rw [Int.mul_add, Int.mul_one]; omega, Int.add_mul_emod_self_left, Int.emod_eq_of_lt (by omega) (by omega)]
  · rw [if_neg h, show x + 1 = (m + 1) + r * q by omega, Int.add_mul_emod_self_left, Int.emod_eq_of_lt (by omega) (by omega)]
/-- From one time to the next a signal goes by one, or stays, as its slowness tells. -/
theorem plc_step {n f : Int} {l : Bool} {s t : Int} (h : sigOK n f s) (ht : 0 ≤ t) : -1 ≤ plc n f l s (t + 1) - plc n f l s t ∧ plc n f l s (t + 1) - plc n f l s t ≤ 1 ∧ (plc n f l s (t + 1) - plc n f l s t ≠ 0 ↔ (n > 1 ∧ (t + 1) % s = 0)) := by
  unfold sigOK at h
  unfold plc
  by_cases hn : n = 1
  · simp [hn]
  · simp only [if_neg hn]
    have hd := div_step t s (by omega) ht
    generalize (if l = true then 2 * (n - 1) - f else f) = a
    by_cases hc : (t + 1) % s = 0
    · rw [hd.1 hc, ← Int.add_assoc, mod_step (a + t / s) (2 * (n - 1)) (by omega)]
      have b0 := Int.emod_nonneg (a + t / s) (show 2 * (n - 1) ≠ 0 by omega)
      have b1 := Int.emod_lt_of_pos (a + t / s) (show 0 < 2 * (n - 1) by omega)
      generalize (a + t / s) % (2 * (n - 1)) = m at b0 b1
      refine ⟨?_, ?_, ?_⟩
      · repeat' split
        all_goals omega
      · repeat' split
        all_goals omega
      · constructor
        · intro _; exact ⟨by omega, hc⟩
        · intro _
          repeat' split
          all_goals omega
    · rw [hd.2 hc]
      refine ⟨by omega, by omega, ?_⟩
      constructor
      · intro k; exact absurd (by omega) k
      · intro k; exact absurd k.2 hc
theorem plc_start {n f : Int} {l : Bool} {s : Int} (h : sigOK n f s) : plc n f l s 0 = f := by
  unfold sigOK at h
  unfold plc
  by_cases hn : n = 1
  · simp [hn]; omega
  · simp only [if_neg hn, Int.zero_ediv, Int.add_zero]
    cases l with
    | true =>
      simp only [if_true]
      by_cases hf : f = 0
      · subst hf
        rw [Int.sub_zero, Int.emod_self]
        rw [if_pos (by omega)]
      · rw [Int.emod_eq_of_lt (by omega) (by omega)]
        split <;> omega
    | false =>
      simp only [Bool.false_eq_true, if_false]
      rw [Int.emod_eq_of_lt (by omega) (by omega)]
      split <;> omega
theorem mtg_comm (n f : Int) (l : Bool) (s f' : Int) (l' : Bool) (s' : Int) : mtg n f l s f' l' s' = mtg n f' l' s' f l s := by
  funext t
  unfold mtg
  rw [Bool.or_comm]
  congr 1
  exact decide_eq_decide.2 ⟨Eq.symm, Eq.symm⟩
end Go.Proofs.Ytlhhbkdeginhoaa.Pl
