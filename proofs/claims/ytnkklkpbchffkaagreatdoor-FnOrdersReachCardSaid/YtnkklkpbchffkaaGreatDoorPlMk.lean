/- Plain facts: Mk. No condition. -/
import Derived.Test.YtnkklkpbchffkaaGreatDoorPlVal
import Derived.Lib.RabinKarpLaws
import Derived.RowKit
import Derived.Test.YtnkklkpbchffkaaGreatDoorWWords
import Derived.Test.YtnkklkpbchffkaaGreatDoorWMore
import Derived.Test.YtnkklkpbchffkaaGreatDoorOpn
namespace Go.Proofs.YtnkklkpbchffkaaGreatDoor.Pl
open Go.RowKit Go.Proofs.YtnkklkpbchffkaaGreatDoorW.PrintWords Go.Proofs.YtnkklkpbchffkaaGreatDoorW.PrintMore Go.Proofs.YtnkklkpbchffkaaGreatDoor.Opn
set_option linter.unusedVariables false
set_option linter.unusedSimpArgs false
def sgnOf (b : Nat) : UInt8 := if b = 1 then 62 else 60
theorem sgn_of (b : Nat) : sgn (sgnOf b) = true := by unfold sgnOf; split <;> rfl
/-- The row of n soldiers with a number. -/
def mk : Nat → Nat → List UInt8
  | 0, _ => []
  | n + 1, m => mk n (m / 2) ++ [sgnOf (m % 2)]
theorem mk_len : ∀ (n m : Nat), (mk n m).length = n
  | 0, _ => rfl
  | n + 1, m => by rw [mk, List.length_append, mk_len n]; rfl
theorem mk_all : ∀ (n m : Nat), (mk n m).all sgn = true
  | 0, _ => rfl
  | n + 1, m => by rw [mk, List.all_append, mk_all n, List.all_cons, sgn_of]; rfl
theorem mk_get : ∀ (n m i : Nat), i < n → (mk n m)[i]? = some (sgnOf (m / 2 ^ (n - 1 - i) % 2))
  | 0, _, _, h => by omega
  | n + 1, m, i, h => by
    rw [mk]
    by_cases e : i = n
    · subst e
      rw [List.getElem?_append_right (by rw [mk_len]; omega), mk_len, Nat.sub_self, show i + 1 - 1 - i = 0 by omega]
      simp
    · rw [List.getElem?_append_left (by rw [mk_len]; omega), mk_get n (m / 2) i (by omega), Nat.div_div_eq_div_mul, show n + 1 - 1 - i = (n - 1 - i) + 1 by omega, Nat.pow_succ, Nat.mul_comm 2]
theorem mk_good (n m : Nat) (h : 1 ≤ n ∧ n ≤ 60) : rgood (mk n m) = true := by
  unfold rgood
  rw [mk_len, mk_all, decide_eq_true h]; rfl
theorem shr_div (m s : Nat) (hs : s ≤ 64) : shr .i64 (m : Int) (s : Int) = ((m / 2 ^ s : Nat) : Int) := by
  unfold shr
  rw [Int.toNat_natCast, show min s IntKind.i64.bits = s from Nat.min_eq_left hs]
  push_cast
  rfl
theorem and1 (x : Nat) (h : x < 9223372036854775808) : Go.bits .and .i64 (x : Int) 1 = ((x % 2 : Nat) : Int) := Go.Proofs.and_one x h
theorem shl_one (n : Nat) (h : n ≤ 60) : shl .i64 1 (n : Int) = ((2 ^ n : Nat) : Int) := by
  unfold shl
  have h64 : IntKind.i64.bits = 64 := rfl
  rw [Int.toNat_natCast, Nat.min_eq_left (by omega), Int.one_mul, show ∀ z, IntKind.i64.wrap z = wrap64 z from fun z => by unfold wrap64; exact IntKind.wrap_i64 z]
  have : 2 ^ n ≤ 2 ^ 60 := Nat.pow_le_pow_right (by omega) h
  have e : ((2 : Int) ^ n) = ((2 ^ n : Nat) : Int) := by push_cast; rfl
  rw [e]
  have h60 : 2 ^ 60 = 1152921504606846976 := by decide
  generalize 2 ^ n = q at this
  rw [wrap64_id (by omega) (by omega)]
def inums (l : List UInt8) : List Int := l.map fun b => (b.toNat : Int)
theorem inums_str (l : List UInt8) : strOfNums (inums l) = up l := by
  apply L_inj
  simp [strOfNums, inums, L, Function.comp_def]
end Go.Proofs.YtnkklkpbchffkaaGreatDoor.Pl
