/- Plain facts: Bytes. No condition. -/
import Derived.Test.YtnkklkpbchffkaaGreatDoorPlBase
import Derived.Laws.Strings
import Derived.RowKit
import Derived.Test.YtnkklkpbchffkaaGreatDoorWWords
import Derived.Test.YtnkklkpbchffkaaGreatDoorWMore
import Derived.Test.YtnkklkpbchffkaaGreatDoorOpn
namespace Go.Proofs.YtnkklkpbchffkaaGreatDoor.Pl
open Go.RowKit Go.Proofs.YtnkklkpbchffkaaGreatDoorW.PrintWords Go.Proofs.YtnkklkpbchffkaaGreatDoorW.PrintMore Go.Proofs.YtnkklkpbchffkaaGreatDoor.Opn
set_option linter.unusedVariables false
set_option linter.unusedSimpArgs false
/-- A text's bytes. -/
abbrev L (s : ByteArray) : List UInt8 := s.data.toList
theorem size_L (s : ByteArray) : s.size = (L s).length := by rw [Array.length_toList]; rfl
theorem isize_L (s : ByteArray) : (s.size : Int) = ((L s).length : Int) := by rw [size_L]
theorem toList_L (s : ByteArray) : s.toList = L s := ByteArray.toList_eq s
theorem L_mk (l : List UInt8) : L ⟨l.toArray⟩ = l := by simp [L]
theorem mk_L (s : ByteArray) : (⟨(L s).toArray⟩ : ByteArray) = s := by cases s; simp [L]
theorem L_inj {s t : ByteArray} (h : L s = L t) : s = t := by rw [← mk_L s, ← mk_L t, h]
theorem bt_nat (s : ByteArray) (i : Nat) (h : i < (L s).length) : bt s (i : Int) = (((L s)[i]).toNat : Int) := by
  have h' : i < s.size := by rw [size_L]; exact h
  simp only [bt, Int.toNat_natCast, dif_pos h']
  rfl
theorem u8_eq (b c : UInt8) : ((b.toNat : Int) = (c.toNat : Int)) ↔ b = c := by
  constructor
  · intro h; exact UInt8.toNat_inj.1 (by omega)
  · rintro rfl; rfl
theorem bt_is (s : ByteArray) (i : Nat) (h : i < (L s).length) (c : UInt8) : (bt s (i : Int) = (c.toNat : Int)) ↔ (L s)[i] = c := by rw [bt_nat s i h, u8_eq]
end Go.Proofs.YtnkklkpbchffkaaGreatDoor.Pl
