/- Plain facts: Sure. No condition. -/
import Derived.Test.YtmindeeacfdonaaDoorPlMk
import Derived.RowKit
import Derived.Test.YtmindeeacfdonaaDoorWWords
import Derived.Test.YtmindeeacfdonaaDoorWMore
import Derived.Test.YtmindeeacfdonaaDoorOpn
namespace Go.Proofs.YtmindeeacfdonaaDoor.Pl
open Go.RowKit Go.Proofs.YtmindeeacfdonaaDoorW.PrintWords Go.Proofs.YtmindeeacfdonaaDoorW.PrintMore Go.Proofs.YtmindeeacfdonaaDoor.Opn
set_option linter.unusedVariables false
set_option linter.unusedSimpArgs false
def g8 (b a : UInt8) : UInt8 := if b = a then a else 63
/-- The signs that rows have in common with o. -/
def sureF (o : List UInt8) (rs : List ByteArray) : List UInt8 := rs.foldl (fun o r => List.zipWith g8 (L r) o) o
theorem sureF_cons (o : List UInt8) (r : ByteArray) (rs : List ByteArray) : sureF o (r :: rs) = sureF (List.zipWith g8 (L r) o) rs := rfl
theorem sureF_len (n : Nat) : ∀ (rs : List ByteArray) (o : List UInt8), o.length = n → (∀ r ∈ rs, (L r).length = n) → (sureF o rs).length = n
  | [], o, h, _ => h
  | r :: rs, o, h, hr => by
    rw [sureF_cons]
    exact sureF_len n rs _ (by rw [List.length_zipWith, hr r (by simp), h, Nat.min_self]) (fun x hx => hr x (by simp [hx]))
def same8 (i : Nat) (a : UInt8) (r : ByteArray) : Bool := (L r)[i]? == some a
theorem sureF_get (n i : Nat) (hi : i < n) : ∀ (rs : List ByteArray) (o : List UInt8) (a : UInt8), o.length = n → (∀ r ∈ rs, (L r).length = n) → o[i]? = some a → (sureF o rs)[i]? = some (if rs.all (same8 i a) = true then a else 63)
  | [], o, a, _, _, ha => by simp [sureF, ha]
  | r :: rs, o, a, h, hr, ha => by
    have hl : (L r).length = n := hr r (by simp)
    have hb : (L r)[i]? = some (L r)[i] := List.getElem?_eq_getElem (by omega)
    have hz : (List.zipWith g8 (L r) o)[i]? = some (g8 (L r)[i] a) := by rw [List.getElem?_zipWith, hb, ha]
    rw [sureF_cons, sureF_get n i hi rs _ _ (by rw [List.length_zipWith, hl, h, Nat.min_self]) (fun x hx => hr x (by simp [hx])) hz, List.all_cons]
    by_cases e : (L r)[i] = a
    · have e1 : same8 i a r = true := by unfold same8; rw [hb, e]; simp
      have e2 : g8 (L r)[i] a = a := by unfold g8; rw [if_pos e]
      rw [e1, e2]; rfl
    · have e1 : same8 i a r = false := by unfold same8; rw [hb]; simpa using e
      have e2 : g8 (L r)[i] a = 63 := by unfold g8; rw [if_neg e]
      rw [e1, e2]; simp
theorem cut1 (s : ByteArray) (i : Nat) (b : UInt8) (h : (L s)[i]? = some b) : s.extract i (i + 1) = up [b] := by
  apply L_inj
  have h1 := List.getElem?_eq_some_iff.1 h
  obtain ⟨h2, h3⟩ := h1
  have h4 : L (s.extract i (i + 1)) = ((L s).drop i).take 1 := by simp [L, List.extract]
  rw [h4, List.drop_eq_getElem_cons h2, h3, L_mk]
  rfl
theorem one_eq (a b : UInt8) : ((up [b]).toList = (up [a]).toList) ↔ b = a := by
  rw [toList_L, toList_L, L_mk, L_mk]; simp
theorem rd_inums (p s : List UInt8) (a : UInt8) : rd (inums (p ++ a :: s)) (p.length : Int) = (a.toNat : Int) := by simp [rd, inums]
theorem set_inums (p s : List UInt8) (a : UInt8) : (inums (p ++ a :: s)).set p.length 63 = inums (p ++ [63] ++ s) := by
  simp [inums, List.set_append]
theorem bytes_inums (s : ByteArray) : bytesOf s = inums (L s) := rfl
end Go.Proofs.YtmindeeacfdonaaDoor.Pl
