/- Plain facts: Cut. No condition. -/
import Derived.Test.YtilaakmggfjcbaaDoorPlTail
import Derived.Lib.SplitLaws
import Derived.Lib.CountLaws
import Derived.Lib.IndexMore
import Derived.Lib.AtoiAllCases
import Derived.RowKit
import Derived.Test.YtilaakmggfjcbaaDoorWWords
import Derived.Test.YtilaakmggfjcbaaDoorWMore
import Derived.Test.YtilaakmggfjcbaaDoorOpn
namespace Go.Proofs.YtilaakmggfjcbaaDoor.Pl
open Go.RowKit Go.Proofs.YtilaakmggfjcbaaDoorW.PrintWords Go.Proofs.YtilaakmggfjcbaaDoorW.PrintMore Go.Proofs.YtilaakmggfjcbaaDoor.Opn
set_option linter.unusedVariables false
set_option linter.unusedSimpArgs false
theorem Ev.uniq {α : Type} {g : Nat → Option α} {r r' : α} (h : Ev g r) (h' : Ev g r') : r = r' := by
  obtain ⟨K, hK⟩ := h
  obtain ⟨K', hK'⟩ := h'
  have h1 := hK (max K K') (Nat.le_max_left _ _)
  have h2 := hK' (max K K') (Nat.le_max_right _ _)
  rw [h1] at h2
  exact Option.some.inj h2
/-- A text cut at each place of a byte; cur: what of the piece at hand has been seen. -/
def spA (c : UInt8) (cur : List UInt8) : List UInt8 → List (List UInt8)
  | [] => [cur]
  | x :: r => if x = c then cur :: spA c [] r else spA c (cur ++ [x]) r
theorem spA_no (c : UInt8) : ∀ (p cur : List UInt8), c ∉ p → spA c cur p = [cur ++ p]
  | [], cur, _ => by simp [spA]
  | x :: r, cur, h => by
    have h1 : ¬ x = c := fun e => h (by simp [e])
    rw [spA, if_neg h1, spA_no c r _ (fun hm => h (by simp [hm]))]
    simp
theorem spA_hit (c : UInt8) (rest : List UInt8) : ∀ (p cur : List UInt8), c ∉ p → spA c cur (p ++ c :: rest) = (cur ++ p) :: spA c [] rest
  | [], cur, _ => by simp [spA]
  | x :: r, cur, h => by
    have h1 : ¬ x = c := fun e => h (by simp [e])
    rw [List.cons_append, spA, if_neg h1, spA_hit c rest r _ (fun hm => h (by simp [hm]))]
    simp
theorem spA_len (c : UInt8) : ∀ (l cur : List UInt8), 1 ≤ (spA c cur l).length ∧ (spA c cur l).length ≤ l.length + 1
  | [], cur => by simp [spA]
  | x :: r, cur => by
    rw [spA]
    split
    · have := spA_len c r []
      simp only [List.length_cons]; omega
    · have := spA_len c r (cur ++ [x])
      simp only [List.length_cons]; omega
theorem spA_mem (c : UInt8) : ∀ (l cur : List UInt8) (w : List UInt8), w ∈ spA c cur l → w.length ≤ cur.length + l.length
  | [], cur, w, h => by simp [spA] at h; subst h; simp
  | x :: r, cur, w, h => by
    rw [spA] at h
    split at h
    · rcases List.mem_cons.1 h with rfl | h
      · simp
      · have := spA_mem c r [] w h
        simp only [List.length_cons, List.length_nil] at *; omega
    · have := spA_mem c r (cur ++ [x]) w h
      simp only [List.length_cons, List.length_append, List.length_nil] at *; omega
/-- Pieces put together with a byte between them. -/
def jn (c : UInt8) : List UInt8 → List (List UInt8) → List UInt8
  | p, [] => p
  | p, q :: r => p ++ c :: jn c q r
theorem spA_jn (c : UInt8) : ∀ (ps : List (List UInt8)) (p : List UInt8), (∀ q ∈ p :: ps, c ∉ q) → spA c [] (jn c p ps) = p :: ps
  | [], p, h => by rw [jn, spA_no c p [] (h p (by simp))]; rfl
  | q :: r, p, h => by
    rw [jn, spA_hit c _ p [] (h p (by simp)), spA_jn c r q (fun z hz => h z (by simp at hz ⊢; exact .inr hz))]; rfl
theorem jn_join (c : UInt8) : ∀ (ps : List (List UInt8)) (p : List UInt8), Go.Lib.join (p :: ps) [c] = jn c p ps
  | [], p => by rw [Go.Lib.join_cons]; simp [Go.Lib.joinTail, jn]
  | q :: r, p => by
    have h := jn_join c r q
    rw [Go.Lib.join_cons] at h ⊢
    rw [jn, ← h]
    simp [Go.Lib.joinTail]
theorem index_at (c : UInt8) (b : List UInt8) : ∀ (a : List UInt8), c ∉ a → Go.Lib.index (a ++ c :: b) [c] = (a.length : Int)
  | [], _ => by simp [Go.Lib.index, List.isPrefixOf]
  | x :: r, h => by
    have h1 : ¬ x = c := fun e => h (by simp [e])
    have h2 : (c == x) = false := by simp; exact fun e => h1 e.symm
    rw [List.cons_append, Go.Lib.index, index_at c b r (fun hm => h (by simp [hm]))]
    have h3 : ¬ (((r.length : Nat) : Int) == -1) = true := by simp
    simp [List.isPrefixOf, h2, h3]
theorem index_no (c : UInt8) : ∀ (a : List UInt8), c ∉ a → Go.Lib.index a [c] = -1
  | [], _ => by simp [Go.Lib.index]
  | x :: r, h => by
    have h1 : ¬ x = c := fun e => h (by simp [e])
    have h2 : (c == x) = false := by simp; exact fun e => h1 e.symm
    rw [Go.Lib.index, index_no c r (fun hm => h (by simp [hm]))]
    simp [List.isPrefixOf, h2]
theorem cut_at (c : UInt8) (a b : List UInt8) (h : c ∉ a) : Go.Lib.cut (a ++ c :: b) [c] = (a, b, true) := by
  unfold Go.Lib.cut
  rw [index_at c b a h, if_pos (by omega)]
  simp
theorem first_of (c : UInt8) : ∀ (l : List UInt8), c ∈ l → ∃ a b, l = a ++ c :: b ∧ c ∉ a
  | [], h => by simp at h
  | x :: r, h => by
    by_cases h1 : x = c
    · subst h1; exact ⟨[], r, rfl, by simp⟩
    · obtain ⟨a, b, e, hn⟩ := first_of c r (by rcases List.mem_cons.1 h with h | h; exact absurd h.symm h1; exact h)
      exact ⟨x :: a, b, by rw [e]; rfl, by simp; exact ⟨fun e => h1 e.symm, hn⟩⟩
theorem splitK_spA (c : UInt8) : ∀ (n : Nat) (l : List UInt8), l.length ≤ n → Go.Lib.splitK [c] 0 (Go.Lib.count l [c]) l = spA c [] l := by
  intro n
  induction n with
  | zero =>
    intro l hl
    have : l = [] := List.length_eq_zero_iff.1 (by omega)
    subst this
    rw [Go.Lib.count_miss (index_no c [] (by simp))]; rfl
  | succ n ih =>
    intro l hl
    by_cases hm : c ∈ l
    · obtain ⟨a, b, rfl, hn⟩ := first_of c l hm
      have hi := index_at c b a hn
      rw [Go.Lib.count_hit (by simp) hi, spA_hit c b a [] hn, Nat.add_comm 1, Go.Lib.splitK, hi, if_neg (by simp)]
      simp only [List.length_append, List.length_cons] at hl
      have e1 : (a ++ c :: b).drop (a.length + [c].length) = b := by simp [List.drop_append]
      rw [Int.toNat_natCast, e1, ih b (by omega)]
      simp
    · rw [Go.Lib.count_miss (index_no c l hm), spA_no c l [] hm]; rfl
theorem splitB_spA (c : UInt8) (l : List UInt8) : Go.Lib.splitB (⟨#[c]⟩ : ByteArray) 0 (Go.Lib.countB (up l) (⟨#[c]⟩ : ByteArray)) (up l) = (spA c [] l).map up := by
  have h := Go.Lib.splitB_data (⟨#[c]⟩ : ByteArray) 0 (Go.Lib.countB (up l) (⟨#[c]⟩ : ByteArray)) (up l)
  have e1 : (up l).data.toList = l := L_mk l
  have e2 : ((⟨#[c]⟩ : ByteArray)).data.toList = [c] := rfl
  unfold Go.Lib.countB at h ⊢
  rw [e1, e2, splitK_spA c l.length l (Nat.le_refl _)] at h
  rw [e1, e2]
  rw [← h, List.map_map]
  generalize Go.Lib.splitB _ _ _ _ = ws
  induction ws with
  | nil => rfl
  | cons w r ih => rw [List.map_cons, ← ih]; exact congrArg (· :: r) (up_L w)
/-- The digits of a number below a hundred. -/
theorem dg_nat (d : Nat) (h : d < 10) : (UInt8.ofNat (48 + d)).toNat = 48 + d := by simp; omega
theorem dd_cases (a : Int) (h : 0 ≤ a ∧ a < 100) : (∃ d : Nat, d < 10 ∧ a = (d : Int) ∧ dd a = [UInt8.ofNat (48 + d)]) ∨ (∃ e d : Nat, 1 ≤ e ∧ e < 10 ∧ d < 10 ∧ a = 10 * (e : Int) + (d : Int) ∧ dd a = [UInt8.ofNat (48 + e), UInt8.ofNat (48 + d)]) := by
  unfold dd
  by_cases h1 : a.toNat < 10
  · exact .inl ⟨a.toNat, h1, by omega, dec_lo _ h1⟩
  · exact .inr ⟨a.toNat / 10, a.toNat % 10, by omega, by omega, by omega, by omega, by rw [dec_hi _ h1, dec_lo _ (by omega)]; rfl⟩
theorem dd_mem (a : Int) (h : 0 ≤ a ∧ a < 100) (c : UInt8) (hc : c.toNat < 48 ∨ 57 < c.toNat) : c ∉ dd a := by
  intro hm
  rcases dd_cases a h with ⟨d, hd, _, e⟩ | ⟨x, d, _, hx, hd, _, e⟩
  · rw [e] at hm
    have := dg_nat d hd
    simp only [List.mem_cons, List.not_mem_nil, or_false] at hm
    subst hm; omega
  · rw [e] at hm
    have h1 := dg_nat d hd
    have h2 := dg_nat x hx
    simp only [List.mem_cons, List.not_mem_nil, or_false] at hm
    rcases hm with rfl | rfl <;> omega
theorem dd_ne (a : Int) (h : 0 ≤ a ∧ a < 100) : dd a ≠ [] := by
  rcases dd_cases a h with ⟨d, hd, _, e⟩ | ⟨x, d, _, hx, hd, _, e⟩ <;> rw [e] <;> simp
theorem pu_step (acc d : Nat) (ha : acc < 1000) (hd : d < 10) (r : List UInt8) : Go.Lib.parseUint10 acc (UInt8.ofNat (48 + d) :: r) = Go.Lib.parseUint10 (acc * 10 + d) r := by
  have h := dg_nat d hd
  rw [Go.Lib.parseUint10, h, if_pos (by omega), if_neg (by omega), if_neg (by omega), show 48 + d - 48 = d by omega]
theorem atoi_dd (a : Int) (h : 0 ≤ a ∧ a < 100) : Go.Lib.atoiAll (dd a) = .ok a := by
  rcases dd_cases a h with ⟨d, hd, e0, e⟩ | ⟨x, d, hx0, hx, hd, e0, e⟩
  · have h1 := dg_nat d hd
    rw [e, Go.Lib.atoiAll_plain _ _ (by omega) (by omega), Go.Lib.parseMag, if_neg (by simp), pu_step 0 d (by omega) hd, Go.Lib.parseUint10]
    simp only [Go.Lib.signless]
    rw [if_neg (by omega), e0]; simp
  · have h1 := dg_nat d hd
    have h2 := dg_nat x hx
    rw [e, Go.Lib.atoiAll_plain _ _ (by omega) (by omega), Go.Lib.parseMag, if_neg (by simp), pu_step 0 x (by omega) hx, pu_step _ d (by omega) hd, Go.Lib.parseUint10]
    simp only [Go.Lib.signless]
    rw [if_neg (by omega), e0]
    congr 1
    omega
end Go.Proofs.YtilaakmggfjcbaaDoor.Pl
