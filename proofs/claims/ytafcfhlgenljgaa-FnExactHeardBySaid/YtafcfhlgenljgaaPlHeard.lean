/- Plain facts: Heard. No condition. -/
import Derived.Test.YtafcfhlgenljgaaPlSig
import Derived.Test.YtafcfhlgenljgaaPlSpread
import Derived.RowKit
import Derived.Test.YtafcfhlgenljgaaWWords
import Derived.Test.YtafcfhlgenljgaaWMore
import Derived.Test.YtafcfhlgenljgaaOpn
namespace Go.Proofs.Ytafcfhlgenljgaa.Pl
open Go.RowKit Go.Proofs.YtafcfhlgenljgaaW.PrintWords Go.Proofs.YtafcfhlgenljgaaW.PrintMore Go.Proofs.Ytafcfhlgenljgaa.Opn
set_option linter.unusedVariables false
set_option linter.unusedSimpArgs false
def rnd (n : Int) : Int := if n = 1 then 1 else 2 * (n - 1)
/-- At which step a signal first comes to a place. -/
def frs (n f : Int) (l : Bool) (p : Int) : Int :=
  if n = 1 then 0 else mn ((p - (if l = true then 2 * (n - 1) - f else f) + 2 * (2 * (n - 1))) % (2 * (n - 1))) ((2 * (n - 1) - p - (if l = true then 2 * (n - 1) - f else f) + 2 * (2 * (n - 1))) % (2 * (n - 1)))
theorem em_eq {x y r : Int} (q : Int) (h : 0 ≤ y) (h2 : y < r) (e : x = y + r * q) : x % r = y := by
  subst e
  rw [Int.add_mul_emod_self_left, Int.emod_eq_of_lt h h2]
theorem frs_bd {n f : Int} {l : Bool} {s p : Int} (h : sigOK n f s) : 0 ≤ frs n f l p ∧ frs n f l p < rnd n := by
  unfold sigOK at h
  unfold frs rnd
  by_cases h1 : n = 1
  · simp [h1]
  · simp only [if_neg h1]
    generalize (if l = true then 2 * (n - 1) - f else f) = a
    have r0 : 2 * (n - 1) ≠ 0 := by omega
    have r1 : 0 < 2 * (n - 1) := by omega
    generalize 2 * (n - 1) = r at r0 r1
    have hm := Int.emod_nonneg (p - a + 2 * r) r0
    have hM := Int.emod_lt_of_pos (p - a + 2 * r) r1
    have hm' := Int.emod_nonneg (r - p - a + 2 * r) r0
    have hM' := Int.emod_lt_of_pos (r - p - a + 2 * r) r1
    unfold mn
    split <;> omega
theorem frs_plc {n f : Int} {l : Bool} {s p : Int} (h : sigOK n f s) (h0 : 0 ≤ p) (h1 : p ≤ n - 1) : plc n f l s (frs n f l p * s) = p := by
  unfold sigOK at h
  unfold frs plc
  by_cases hn : n = 1
  · simp only [if_pos hn]; omega
  · simp only [if_neg hn]
    rw [Int.mul_ediv_cancel _ (show s ≠ 0 by omega)]
    generalize (if l = true then 2 * (n - 1) - f else f) = a
    have r1 : 0 < 2 * (n - 1) := by omega
    have r2 : 2 * p ≤ 2 * (n - 1) := by omega
    generalize 2 * (n - 1) = r at r1 r2
    have ht := Int.emod_def (p - a + 2 * r) r
    have hb := Int.emod_def (r - p - a + 2 * r) r
    generalize (p - a + 2 * r) / r = q1 at ht
    generalize (r - p - a + 2 * r) / r = q2 at hb
    have et : (a + (p - a + 2 * r) % r) % r = p := em_eq (2 - q1) h0 (by omega) (by rw [ht, Int.mul_sub]; omega)
    unfold mn
    split
    · by_cases hp : p = 0
      · have eb : (a + (r - p - a + 2 * r) % r) % r = 0 := em_eq (3 - q2) (by omega) r1 (by rw [hb, Int.mul_sub]; omega)
        rw [eb, if_pos (by omega), hp]
      · have eb : (a + (r - p - a + 2 * r) % r) % r = r - p := em_eq (2 - q2) (by omega) (by omega) (by rw [hb, Int.mul_sub]; omega)
        rw [eb]
        split <;> omega
    · rw [et]
      split <;> omega
theorem frs_le {n f : Int} {l : Bool} {s k : Int} (h : sigOK n f s) (h0 : 0 ≤ k) (h1 : k < rnd n) : frs n f l (plc n f l s (k * s)) ≤ k := by
  unfold sigOK at h
  unfold frs plc
  unfold rnd at h1
  by_cases hn : n = 1
  · simp only [if_pos hn]; omega
  · simp only [if_neg hn] at h1 ⊢
    rw [Int.mul_ediv_cancel _ (show s ≠ 0 by omega)]
    generalize (if l = true then 2 * (n - 1) - f else f) = a
    have r1 : 0 < 2 * (n - 1) := by omega
    generalize 2 * (n - 1) = r at r1 h1
    have ht := Int.emod_def (a + k) r
    generalize (a + k) / r = q at ht
    generalize (a + k) % r = m at ht
    unfold mn
    by_cases hm : m < r - m
    · rw [if_pos hm, em_eq (x := m - a + 2 * r) (y := k) (r := r) (2 - q) h0 h1 (by rw [ht, Int.mul_sub]; omega)]
      split <;> omega
    · rw [if_neg hm, em_eq (x := r - (r - m) - a + 2 * r) (y := k) (r := r) (2 - q) h0 h1 (by rw [ht, Int.mul_sub]; omega)]
      split <;> omega
def mrg (o t : Int) : Int := if o < 0 then t else if t < o then t else o
/-- What holds at a place behind i steps of a signal. -/
def hst (n f : Int) (l : Bool) (s i : Int) (o : Int → Int) (q : Int) : Int := if frs n f l q < i then mrg (o q) (frs n f l q * s) else o q
theorem hst_zero {n f : Int} {l : Bool} {s : Int} (h : sigOK n f s) (o : Int → Int) (q : Int) : hst n f l s 0 o q = o q := by
  have := (frs_bd (l := l) (p := q) h).1
  unfold hst; rw [if_neg (by omega)]
theorem hst_all {n f : Int} {l : Bool} {s : Int} (h : sigOK n f s) (o : Int → Int) (q : Int) : hst n f l s (rnd n) o q = mrg (o q) (frs n f l q * s) := by
  have := (frs_bd (l := l) (p := q) h).2
  unfold hst; rw [if_pos this]
theorem hst_far {n f : Int} {l : Bool} {s i : Int} (h : sigOK n f s) (o : Int → Int) (q : Int) (h0 : 0 ≤ q) (h1 : q ≤ n - 1) (hq : q ≠ plc n f l s (i * s)) : hst n f l s i o q = hst n f l s (i + 1) o q := by
  have hne : frs n f l q ≠ i := fun e => hq (by rw [← e, frs_plc h h0 h1])
  unfold hst
  by_cases hc : frs n f l q < i
  · rw [if_pos hc, if_pos (by omega)]
  · rw [if_neg hc, if_neg (by omega)]
theorem hst_at {n f : Int} {l : Bool} {s i : Int} (h : sigOK n f s) (o : Int → Int) (h0 : 0 ≤ i) (h1 : i < rnd n) (q : Int) (hq : q = plc n f l s (i * s)) :
    (if hst n f l s i o q < 0 ∨ i * s < hst n f l s i o q then i * s else hst n f l s i o q) = hst n f l s (i + 1) o q := by
  have hle := frs_le (l := l) h h0 h1
  rw [← hq] at hle
  have hs := h.2.2.2.2.1
  have hb := (frs_bd (l := l) (p := q) h).1
  unfold hst
  by_cases hc : frs n f l q < i
  · rw [if_pos hc, if_pos (show frs n f l q < i + 1 by omega)]
    have hlt : frs n f l q * s < i * s := Int.mul_lt_mul_of_pos_right hc (by omega)
    have hnn : 0 ≤ frs n f l q * s := Int.mul_nonneg hb (by omega)
    generalize frs n f l q * s = t at hlt hnn
    unfold mrg
    split <;> split <;> (try split) <;> omega
  · rw [if_neg hc, if_pos (show frs n f l q < i + 1 by omega), show frs n f l q = i by omega]
    unfold mrg
    split <;> split <;> (try split) <;> omega
/-- A list told by a function of the place. -/
def tbl (o : Int → Int) : Int → Nat → List Int
  | _, 0 => []
  | i, d + 1 => o i :: tbl o (i + 1) d
theorem tbl_len (o : Int → Int) : ∀ (d : Nat) (i : Int), (tbl o i d).length = d
  | 0, _ => rfl
  | d + 1, i => by simp [tbl, tbl_len o d]
theorem tbl_get (o : Int → Int) : ∀ (d : Nat) (i : Int) (j : Nat), j < d → rd (tbl o i d) (j : Int) = o (i + j)
  | 0, _, j, h => by omega
  | d + 1, i, 0, h => by simp [tbl, rd]
  | d + 1, i, j + 1, h => by
    have := tbl_get o d (i + 1) j (by omega)
    simp only [rd, Int.toNat_natCast, List.getD_eq_getElem?_getD] at this
    simp only [tbl, rd, List.getD_eq_getElem?_getD]
    rw [show ((j + 1 : Nat) : Int).toNat = j + 1 by omega, List.getElem?_cons_succ, this]
    congr 1
    omega
theorem tbl_rd (o : Int → Int) (n p : Int) (h0 : 0 ≤ p) (h1 : p < n) : rd (tbl o 0 n.toNat) p = o p := by
  have := tbl_get o n.toNat 0 p.toNat (by omega)
  rwa [show ((p.toNat : Nat) : Int) = p by omega, show (0 : Int) + p = p by omega] at this
theorem tbl_congr {o o' : Int → Int} : ∀ (d : Nat) (i : Int), (∀ q, i ≤ q → q < i + d → o q = o' q) → tbl o i d = tbl o' i d
  | 0, _, _ => rfl
  | d + 1, i, h => by
    simp only [tbl]
    rw [h i (by omega) (by omega), tbl_congr d (i + 1) (fun q h1 h2 => h q (by omega) (by omega))]
theorem tbl_set {o : Int → Int} (v : Int) : ∀ (d : Nat) (i : Int) (j : Nat), j < d → (tbl o i d).set j v = tbl (fun q => if q = i + j then v else o q) i d
  | 0, _, j, h => by omega
  | d + 1, i, 0, h => by
    simp only [tbl, List.set_cons_zero]
    rw [if_pos (by simp)]
    congr 1
    exact tbl_congr d (i + 1) (fun q h1 h2 => by rw [if_neg (by omega)])
  | d + 1, i, j + 1, h => by
    simp only [tbl, List.set_cons_succ]
    rw [if_neg (by omega), tbl_set v d (i + 1) j (by omega)]
    congr 1
    exact tbl_congr d (i + 1) (fun q h1 h2 => by rw [show i + 1 + (j : Int) = i + ((j + 1 : Nat) : Int) by omega])
theorem tbl_const (v : Int) : ∀ (d : Nat) (i : Int), tbl (fun _ => v) i d = List.replicate d v
  | 0, _ => rfl
  | d + 1, i => by simp only [tbl]; rw [tbl_const v d, List.replicate_succ]
end Go.Proofs.Ytafcfhlgenljgaa.Pl
