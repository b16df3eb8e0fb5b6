/- Plain facts: Num. No condition. -/
import Derived.Test.YtilaakmggfjcbaaDoorPlRow
import Derived.Lib.ItoaNum
import Derived.RowKit
import Derived.Test.YtilaakmggfjcbaaDoorWWords
import Derived.Test.YtilaakmggfjcbaaDoorWMore
import Derived.Test.YtilaakmggfjcbaaDoorOpn
namespace Go.Proofs.YtilaakmggfjcbaaDoor.Pl
open Go.RowKit Go.Proofs.YtilaakmggfjcbaaDoorW.PrintWords Go.Proofs.YtilaakmggfjcbaaDoorW.PrintMore Go.Proofs.YtilaakmggfjcbaaDoor.Opn
set_option linter.unusedVariables false
set_option linter.unusedSimpArgs false
theorem dec_lo (n : Nat) (h : n < 10) : Go.Lib.decDigits n = [UInt8.ofNat (48 + n)] := by rw [Go.Lib.decDigits, dif_pos h]
theorem dec_hi (n : Nat) (h : ¬ n < 10) : Go.Lib.decDigits n = Go.Lib.decDigits (n / 10) ++ [UInt8.ofNat (48 + n % 10)] := by rw [Go.Lib.decDigits, dif_neg h]
theorem dec_len (n : Nat) (h : n < 100) : (Go.Lib.decDigits n).length ≤ 2 := by
  by_cases h1 : n < 10
  · rw [dec_lo n h1]; simp
  · rw [dec_hi n h1, dec_lo (n / 10) (by omega)]; simp
theorem dig (d : Nat) (h : d < 10) : strOfNums [(wrap64 (48 + (d : Int))) % 256] = up [UInt8.ofNat (48 + d)] := by
  rw [wrap64_id (x := 48 + (d : Int)) (by omega) (by omega), show (48 + (d : Int)) % 256 = ((48 + d : Nat) : Int) by omega]
  rfl
end Go.Proofs.YtilaakmggfjcbaaDoor.Pl
