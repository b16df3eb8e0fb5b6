/- The law FnExactBestStarts, pure: what the printed functions answer, and that it is what the law asks. No condition. -/
import Derived.Test.YtjnkjnpopejgaaaStatFnExactBestStarts
import Derived.Test.YtjnkjnpopejgaaaPlBase
import Derived.Test.YtjnkjnpopejgaaaPlList
import Derived.Test.YtjnkjnpopejgaaaPlSpread
import Derived.Test.YtjnkjnpopejgaaaPlBest
namespace Go.Proofs.Ytjnkjnpopejgaaa.Pure
open Go.RowKit Go.Proofs.Ytjnkjnpopejgaaa.PFnExactBestStarts Go.Proofs.YtjnkjnpopejgaaaW.PrintWords Go.Proofs.YtjnkjnpopejgaaaW.PrintMore Go.Proofs.Ytjnkjnpopejgaaa.Opn Go.Proofs.Ytjnkjnpopejgaaa.Pl
set_option linter.unusedVariables false
set_option linter.unusedSimpArgs false
theorem in_eq (a b c : Int) : impl_in.f a b c = some (decide (b ≤ a ∧ a ≤ c)) := by
  unfold impl_in.f; by_cases h : b ≤ a <;> simp [h]
theorem l1In_eq (a b c : Int) : spec_l1In.f a b c = some (decide (b ≤ a ∧ a ≤ c)) := by
  unfold spec_l1In.f; by_cases h : b ≤ a <;> simp [h]
theorem eqIntS_loop (l : List Int) (hl : l.length ≤ 1000000000) : ∀ (d i : Nat), i + d = l.length → Ev (fun k => laws_eqIntS.l0 k l l (i : Int)) true := by
  intro d
  induction d with
  | zero =>
    intro i h
    refine Ev.succ ?_
    simp only [laws_eqIntS.l0]
    exact Ev.neg (by omega) (Ev.now _)
  | succ d ih =>
    intro i h
    refine Ev.succ ?_
    simp only [laws_eqIntS.l0]
    refine Ev.pos (by omega) (Ev.pos (by omega) (Ev.pos (by omega) (Ev.pos (by first | rfl | trivial) ?_)))
    rw [wrap64_id (x := (i : Int) + 1) (by omega) (by omega)]
    exact ih (i + 1) (by omega)
theorem eqIntS_ev (l : List Int) (hl : l.length ≤ 1000000000) : Ev (fun k => laws_eqIntS.f k l l) true := by
  unfold laws_eqIntS.f
  exact Ev.pos rfl (eqIntS_loop l hl l.length 0 (by omega))
theorem l1Least_eq (a b : Int) : spec_l1Least.f a b = some (mn a b) := by
  unfold spec_l1Least.f mn
  split <;> split <;> congr 1 <;> omega
theorem l1Most_eq (a b : Int) : spec_l1Most.f a b = some (mx a b) := by
  unfold spec_l1Most.f mx
  split <;> split <;> congr 1 <;> omega
theorem sMax_loop (l : List Int) (hl : l.length ≤ 1000000000) : ∀ (d i : Nat) (m : Int), i + d = l.length → Ev (fun k => slices_Max_int_int.l0 k l m (i : Int)) ((l.drop i).foldl mx m) := by
  intro d
  induction d with
  | zero =>
    intro i m h
    refine Ev.succ ?_
    simp only [slices_Max_int_int.l0]
    refine Ev.neg (by omega) (Ev.const ?_)
    rw [List.drop_of_length_le (by omega)]; rfl
  | succ d ih =>
    intro i m h
    refine Ev.succ ?_
    simp only [slices_Max_int_int.l0]
    refine Ev.pos (by omega) (Ev.pos (by omega) ?_)
    rw [wrap64_id (x := (i : Int) + 1) (by omega) (by omega), rd_cons_drop (by omega)]
    exact ih (i + 1) _ (by omega)
theorem sMax_ev (x : Int) (l : List Int) (hl : l.length ≤ 100000000) : Ev (fun k => slices_Max_int_int.f k (x :: l)) (l.foldl mx x) := by
  unfold slices_Max_int_int.f
  refine Ev.neg (by simp; omega) (Ev.pos (by simp) ?_)
  have := sMax_loop (x :: l) (by simp; omega) l.length 1 x (by simp; omega)
  simpa [rd] using this
def mki : Nat → List Int
  | 0 => []
  | n + 1 => mki n ++ [(n : Int) + 1]
theorem mki_len : ∀ n, (mki n).length = n
  | 0 => rfl
  | n + 1 => by simp [mki, mki_len n]
theorem markIntS_loop (l : List Int) (hl : l.length ≤ 1000000000) : ∀ (d i : Nat), i + d = l.length → Ev (fun k => laws_markIntS.l0 k (mki i ++ l.drop i) ((i : Int) + 1) (i : Int)) ((l.length : Int) + 1, mki l.length) := by
  intro d
  induction d with
  | zero =>
    intro i h
    refine Ev.succ ?_
    simp only [laws_markIntS.l0]
    refine Ev.neg (by simp [mki_len]; omega) (Ev.const ?_)
    rw [List.drop_of_length_le (by omega), List.append_nil, show i = l.length by omega]
  | succ d ih =>
    intro i h
    have hd : l.drop i = l[i]'(by omega) :: l.drop (i + 1) := List.drop_eq_getElem_cons (by omega)
    refine Ev.succ ?_
    simp only [laws_markIntS.l0]
    refine Ev.pos (by simp [mki_len]; omega) (Ev.pos (by omega) ?_)
    rw [hd, Int.toNat_natCast, List.set_append_right _ _ (by rw [mki_len]; omega), mki_len, Nat.sub_self, List.set_cons_zero]
    rw [wrap64_id (x := (i : Int) + 1 + 1) (by omega) (by omega), wrap64_id (x := (i : Int) + 1) (by omega) (by omega)]
    have := ih (i + 1) (by omega)
    have e : mki (i + 1) ++ l.drop (i + 1) = mki i ++ ((i : Int) + 1) :: l.drop (i + 1) := by simp [mki]
    rw [e] at this
    exact this
theorem markIntS_ev (l : List Int) (hl : l.length ≤ 1000000000) : Ev (fun k => laws_markIntS.f k l 1) ((l.length : Int) + 1, mki l.length) := by
  unfold laws_markIntS.f
  have := markIntS_loop l hl l.length 0 (by omega)
  simpa [mki] using this
theorem mki_get : ∀ (n i : Nat), i < n → rd (mki n) (i : Int) = (i : Int) + 1
  | 0, i, h => by omega
  | n + 1, i, h => by
    by_cases hi : i < n
    · have := mki_get n i hi
      simp only [mki, rd, Int.toNat_natCast, List.getD_eq_getElem?_getD] at this ⊢
      rw [List.getElem?_append_left (by rw [mki_len]; exact hi)]
      exact this
    · obtain rfl : i = n := by omega
      simp only [mki, rd, Int.toNat_natCast, List.getD_eq_getElem?_getD]
      rw [List.getElem?_append_right (by rw [mki_len]; omega)]
      simp [mki_len]
theorem heldIntS_loop (m : Nat) (hl : m ≤ 1000000000) : ∀ (d i : Nat), i + d = m → Ev (fun k => laws_heldIntS.l0 k (mki m) ((i : Int) + 1) (i : Int)) ((m : Int) + 1) := by
  intro d
  induction d with
  | zero =>
    intro i h
    refine Ev.succ ?_
    simp only [laws_heldIntS.l0]
    refine Ev.neg (by rw [mki_len]; omega) (Ev.const ?_)
    rw [show i = m by omega]
  | succ d ih =>
    intro i h
    refine Ev.succ ?_
    simp only [laws_heldIntS.l0, mki_get m i (by omega)]
    rw [wrap64_id (x := (i : Int) + 1 + 1) (by omega) (by omega), wrap64_id (x := (i : Int) + 1) (by omega) (by omega)]
    refine Ev.pos (by rw [mki_len]; omega) (Ev.pos (by omega) (Ev.pos (by first | rfl | trivial) ?_))
    have := ih (i + 1) (by omega)
    exact this
theorem heldIntS_ev (m : Nat) (hl : m ≤ 1000000000) : Ev (fun k => laws_heldIntS.f k (mki m) 1) ((m : Int) + 1) := by
  unfold laws_heldIntS.f
  have := heldIntS_loop m hl m 0 (by omega)
  simpa using this

theorem siSpread_in (n : Int) (l : List Int) (hn : 1 ≤ n ∧ n ≤ 1000) (hl : l.length ≤ 1000000000) (hm : ∀ x ∈ l, 0 ≤ x ∧ x ≤ n) (out : List Int) (most x : Int) (h0 : 0 ≤ x) (h1 : x ≤ 1000) (R : List Int × Int) (ho : out.length ≤ 1000) :
    ∀ (d i : Nat) (a : Int), i + d = l.length → 0 ≤ a → a ≤ n → (Ev (fun k => spec_siSpread.l0 k n l (out ++ [near x a (l.drop i)]) (mx most (near x a (l.drop i))) (x + 1)) R) →
      Ev (fun k => spec_siSpread.l1 k n l out most x a l (l.length : Int) (i : Int)) R := by
  have ha : ∀ y : Int, -2000 ≤ y → y ≤ 2000 → spec_l1Abs.f y = some (mx y (-y)) := by
    intro y h h'
    unfold spec_l1Abs.f
    rw [wrap64_id (x := -y) (by omega) (by omega), l1Most_eq]; rfl
  intro d
  induction d with
  | zero =>
    intro i a h ha0 ha1 hR
    refine Ev.succ ?_
    simp only [spec_siSpread.l1, l1Most_eq, Option.bind_some]
    rw [List.drop_of_length_le (by omega)] at hR
    refine Ev.neg (by omega) (Ev.pos (by omega) ?_)
    rw [wrap64_id (x := x + 1) (by omega) (by omega)]
    exact hR
  | succ d ih =>
    intro i a h ha0 ha1 hR
    refine Ev.succ ?_
    have hk := hm _ (rd_mem (l := l) (j := i) (by omega))
    simp only [spec_siSpread.l1, l1Least_eq, Option.bind_some]
    rw [wrap64_id (x := x - rd l (i : Int)) (by omega) (by omega), wrap64_id (x := (i : Int) + 1) (by omega) (by omega), ha _ (by omega) (by omega)]
    simp only [Option.bind_some]
    refine Ev.pos (by omega) (Ev.pos (by omega) (Ev.pos (by omega) ?_))
    rw [show -(x - rd l (i : Int)) = rd l (i : Int) - x by omega]
    have hb : 0 ≤ mn a (mx (x - rd l (i : Int)) (rd l (i : Int) - x)) ∧ mn a (mx (x - rd l (i : Int)) (rd l (i : Int) - x)) ≤ n := by unfold mn mx; split <;> split <;> omega
    refine ih (i + 1) _ (by omega) hb.1 hb.2 ?_
    rw [rd_cons_drop (show i < l.length by omega)] at hR
    exact hR
theorem siSpread_loop (n : Int) (l : List Int) (hn : 1 ≤ n ∧ n ≤ 1000) (hl : l.length ≤ 1000000000) (hm : ∀ x ∈ l, 0 ≤ x ∧ x ≤ n) :
    ∀ (d : Nat) (out : List Int) (most x : Int), 0 ≤ x → x + d = n → out.length = x → Ev (fun k => spec_siSpread.l0 k n l out most x) (out ++ spr n l x d, (spr n l x d).foldl mx most) := by
  intro d
  induction d with
  | zero =>
    intro out most x h0 h1 h2
    refine Ev.succ ?_
    simp only [spec_siSpread.l0]
    refine Ev.neg (by omega) (Ev.const ?_)
    simp [spr]
  | succ d ih =>
    intro out most x h0 h1 h2
    refine Ev.succ ?_
    simp only [spec_siSpread.l0]
    refine Ev.pos (by omega) ?_
    refine siSpread_in n l hn hl hm out most x h0 (by omega) _ (by omega) l.length 0 n (by omega) (by omega) (by omega) ?_
    rw [List.drop_zero]
    have := ih (out ++ [near x n l]) (mx most (near x n l)) (x + 1) (by omega) (by omega) (by simp; omega)
    simp only [spr, List.foldl_cons]
    simpa using this
theorem siSpread_ev (n : Int) (l : List Int) (hn : 1 ≤ n ∧ n ≤ 1000) (hl : l.length ≤ 1000000000) (hm : ∀ x ∈ l, 0 ≤ x ∧ x ≤ n) : Ev (fun k => spec_siSpread.f k n l) (spr n l 0 n.toNat, (spr n l 0 n.toNat).foldl mx 0) := by
  unfold spec_siSpread.f
  have := siSpread_loop n l hn hl hm n.toNat [] 0 0 (by omega) (by omega) (by simp)
  simpa using this
theorem spread_in (n : Int) (l : List Int) (hn : 1 ≤ n ∧ n ≤ 1000) (hl : l.length ≤ 1000000000) (hm : ∀ x ∈ l, 0 ≤ x ∧ x ≤ n) (out : List Int) (x : Int) (h0 : 0 ≤ x) (h1 : x ≤ 1000) (R : List Int) (ho : out.length ≤ 1000) :
    ∀ (d i : Nat) (a : Int), i + d = l.length → 0 ≤ a → a ≤ n → (Ev (fun k => impl_spread.l0 k n l (out ++ [near x a (l.drop i)]) n (x + 1)) R) →
      Ev (fun k => impl_spread.l1 k n l out x a n x l (l.length : Int) (i : Int)) R := by
  intro d
  induction d with
  | zero =>
    intro i a h ha0 ha1 hR
    refine Ev.succ ?_
    simp only [impl_spread.l1]
    rw [List.drop_of_length_le (by omega)] at hR
    refine Ev.neg (by omega) (Ev.pos (by omega) ?_)
    rw [wrap64_id (x := x + 1) (by omega) (by omega)]
    exact hR
  | succ d ih =>
    intro i a h ha0 ha1 hR
    refine Ev.succ ?_
    have hk := hm _ (rd_mem (l := l) (j := i) (by omega))
    simp only [impl_spread.l1, impl_away.f, Option.bind_some]
    rw [wrap64_id (x := x - rd l (i : Int)) (by omega) (by omega), wrap64_id (x := rd l (i : Int) - x) (by omega) (by omega), wrap64_id (x := (i : Int) + 1) (by omega) (by omega)]
    refine Ev.pos (by omega) (Ev.pos (by omega) (Ev.pos (by omega) ?_))
    have hb : 0 ≤ mn a (mx (x - rd l (i : Int)) (rd l (i : Int) - x)) ∧ mn a (mx (x - rd l (i : Int)) (rd l (i : Int) - x)) ≤ n := by unfold mn mx; split <;> split <;> omega
    refine ih (i + 1) _ (by omega) hb.1 hb.2 ?_
    rw [rd_cons_drop (show i < l.length by omega)] at hR
    exact hR
theorem spread_loop (n : Int) (l : List Int) (hn : 1 ≤ n ∧ n ≤ 1000) (hl : l.length ≤ 1000000000) (hm : ∀ x ∈ l, 0 ≤ x ∧ x ≤ n) :
    ∀ (d : Nat) (out : List Int) (x : Int), 0 ≤ x → x + d = n → out.length = x → Ev (fun k => impl_spread.l0 k n l out n x) (out ++ spr n l x d) := by
  intro d
  induction d with
  | zero =>
    intro out x h0 h1 h2
    refine Ev.succ ?_
    simp only [impl_spread.l0]
    refine Ev.neg (by omega) (Ev.const ?_)
    simp [spr]
  | succ d ih =>
    intro out x h0 h1 h2
    refine Ev.succ ?_
    simp only [impl_spread.l0]
    refine Ev.pos (by omega) ?_
    refine spread_in n l hn hl hm out x h0 (by omega) _ (by omega) l.length 0 n (by omega) (by omega) (by omega) ?_
    rw [List.drop_zero]
    have := ih (out ++ [near x n l]) (x + 1) (by omega) (by omega) (by simp; omega)
    simp only [spr]
    simpa using this
theorem spread_ev (n : Int) (l : List Int) (hn : 1 ≤ n ∧ n ≤ 1000) (hl : l.length ≤ 1000000000) (hm : ∀ x ∈ l, 0 ≤ x ∧ x ≤ n) : Ev (fun k => impl_spread.f k n l) (spr n l 0 n.toNat) := by
  unfold impl_spread.f
  have := spread_loop n l hn hl hm n.toNat [] 0 (by omega) (by omega) (by simp)
  simpa using this
theorem least_loop (n m : Int) (hn : 1 ≤ n ∧ n ≤ 16) (hm : 1 ≤ m ∧ m ≤ n) : ∀ (d : Nat) (t : Int), t + d = 17 → 0 ≤ t → (t = 0 ∨ m * (2 * (t - 1) + 1) < n) →
    ∃ r : Int, Ev (fun k => spec_siLeast.l0 k n m t) r ∧ Ev (fun k => impl_leastTimeWith.l0 k n m t) r ∧ 0 ≤ r ∧ n ≤ m * (2 * r + 1) ∧ (r = 0 ∨ m * (2 * (r - 1) + 1) < n) := by
  intro d
  induction d with
  | zero =>
    intro t h0 h1 h2
    exfalso
    obtain rfl : t = 17 := by omega
    rcases h2 with h2 | h2
    · omega
    · have : (33 : Int) * 1 ≤ m * 33 := by omega
      omega
  | succ d ih =>
    intro t h0 h1 h2
    have b0 : 0 ≤ m * (2 * t + 1) := Int.mul_nonneg (by omega) (by omega)
    have b1 : m * (2 * t + 1) ≤ 16 * 100 := Int.mul_le_mul (by omega) (by omega) (by omega) (by omega)
    by_cases hc : m * (2 * t + 1) < n
    · obtain ⟨r, e1, e2, h⟩ := ih (t + 1) (by omega) (by omega) (.inr (by rw [show t + 1 - 1 = t by omega]; exact hc))
      refine ⟨r, Ev.succ ?_, Ev.succ ?_, h⟩
      · simp only [spec_siLeast.l0]
        rw [wrap64_id (x := 2 * t) (by omega) (by omega), wrap64_id (x := 2 * t + 1) (by omega) (by omega), wrap64_id (x := m * (2 * t + 1)) (by omega) (by omega), wrap64_id (x := t + 1) (by omega) (by omega)]
        exact Ev.pos hc e1
      · simp only [impl_leastTimeWith.l0]
        rw [wrap64_id (x := 2 * t) (by omega) (by omega), wrap64_id (x := 2 * t + 1) (by omega) (by omega), Int.mul_comm (2 * t + 1) m, wrap64_id (x := m * (2 * t + 1)) (by omega) (by omega), wrap64_id (x := t + 1) (by omega) (by omega)]
        exact Ev.pos hc e2
    · refine ⟨t, Ev.succ ?_, Ev.succ ?_, h1, by omega, h2⟩
      · simp only [spec_siLeast.l0]
        rw [wrap64_id (x := 2 * t) (by omega) (by omega), wrap64_id (x := 2 * t + 1) (by omega) (by omega), wrap64_id (x := m * (2 * t + 1)) (by omega) (by omega)]
        exact Ev.neg hc (Ev.now _)
      · simp only [impl_leastTimeWith.l0]
        rw [wrap64_id (x := 2 * t) (by omega) (by omega), wrap64_id (x := 2 * t + 1) (by omega) (by omega), Int.mul_comm (2 * t + 1) m, wrap64_id (x := m * (2 * t + 1)) (by omega) (by omega)]
        exact Ev.neg hc (Ev.now _)
theorem max_ev (n : Int) (l : List Int) (hn : 1 ≤ n ∧ n ≤ 16) : Ev (fun k => slices_Max_int_int.f k (spr n l 0 n.toNat)) (mxs n l) := by
  unfold mxs
  obtain ⟨d, hd⟩ : ∃ d : Nat, n.toNat = d + 1 := ⟨n.toNat - 1, by omega⟩
  rw [hd]
  simp only [spr, List.foldl_cons]
  have hb := near_bd 0 l n (by omega)
  have e : mx 0 (near 0 n l) = near 0 n l := by unfold mx; split <;> omega
  rw [e]
  exact sMax_ev _ _ (by rw [spr_len]; omega)
theorem find_loop (n m due : Int) (r : Nat) (l : List Int) (hn : 1 ≤ n ∧ n ≤ 16) (hm : 1 ≤ m ∧ m ≤ n) (hr : (l.length : Int) + (r + 1) = m)
    (ih : ∀ x, 0 ≤ x → x < n → Ev (fun k => impl_BestStarts_find.f k n m due (l ++ [x]) (x + 1)) (srch n due r (l ++ [x]) (x + 1))) :
    ∀ (d : Nat) (x : Int), 0 ≤ x → (n - (r : Int) - x).toNat = d → x ≤ n → Ev (fun k => impl_BestStarts_find.l k n m due l x) (lpf (fun y => srch n due r (l ++ [y]) (y + 1)) x d) := by
  intro d
  induction d with
  | zero =>
    intro x h0 h1 h2
    refine Ev.succ ?_
    simp only [impl_BestStarts_find.l]
    rw [wrap64_id (x := m - (l.length : Int)) (by omega) (by omega), wrap64_id (x := n - (m - (l.length : Int))) (by omega) (by omega)]
    exact Ev.neg (by omega) (Ev.now _)
  | succ d ihd =>
    intro x h0 h1 h2
    refine Ev.succ ?_
    simp only [impl_BestStarts_find.l]
    rw [wrap64_id (x := m - (l.length : Int)) (by omega) (by omega), wrap64_id (x := n - (m - (l.length : Int))) (by omega) (by omega), wrap64_id (x := x + 1) (by omega) (by omega)]
    refine Ev.pos (by omega) (Ev.pos (by omega) (Ev.bind (ih x h0 (by omega)) ?_))
    simp only [lpf]
    refine Ev.iff (fun hc => ?_) (fun hc => ?_)
    · rw [if_pos hc]; exact Ev.now _
    · rw [if_neg hc]; exact ihd (x + 1) (by omega) (by omega) (by omega)
theorem look_loop (n m due : Int) (r : Nat) (l : List Int) (hn : 1 ≤ n ∧ n ≤ 16) (hm : 1 ≤ m ∧ m ≤ n) (hr : (l.length : Int) + (r + 1) = m)
    (ih : ∀ x, 0 ≤ x → x < n → ∃ out, Ev (fun k => spec_siLook.f k n m due (l ++ [x])) (out, (srch n due r (l ++ [x]) (x + 1)).isSome) ∧ ∀ o, srch n due r (l ++ [x]) (x + 1) = some o → out = o) :
    ∀ (d : Nat) (x : Int), 0 ≤ x → x + d = n → Ev (fun k => spec_siLook.l0 k n m due l x) ((lpf (fun y => srch n due r (l ++ [y]) (y + 1)) x (n - (r : Int) - x).toNat).getD [], (lpf (fun y => srch n due r (l ++ [y]) (y + 1)) x (n - (r : Int) - x).toNat).isSome) := by
  intro d
  induction d with
  | zero =>
    intro x h0 h1
    refine Ev.succ ?_
    simp only [spec_siLook.l0]
    rw [show (n - (r : Int) - x).toNat = 0 by omega]
    exact Ev.neg (by omega) (Ev.now _)
  | succ d ihd =>
    intro x h0 h1
    have own : spec_l1Own.f l = some l := by
      unfold spec_l1Own.f
      simp only [Option.bind_some, List.nil_append, List.length_nil]
      rw [if_pos (by omega)]
    obtain ⟨out, e1, e2⟩ := ih x h0 (by omega)
    have ih' := ihd (x + 1) (by omega) (by omega)
    refine Ev.succ ?_
    simp only [spec_siLook.l0, own, Option.bind_some]
    rw [wrap64_id (x := x + 1) (by omega) (by omega)]
    refine Ev.pos (by omega) (Ev.pos (by omega) (Ev.bind e1 ?_))
    by_cases hr0 : n - (r : Int) ≤ x
    · cases r with
      | zero => omega
      | succ r =>
        rw [srch_over n due r _ _ (by omega)]
        rw [show (n - ((r + 1 : Nat) : Int) - x).toNat = 0 by omega]
        rw [show (n - ((r + 1 : Nat) : Int) - (x + 1)).toNat = 0 by omega] at ih'
        exact Ev.neg (by simp) ih'
    · rw [show (n - (r : Int) - x).toNat = (n - (r : Int) - (x + 1)).toNat + 1 by omega]
      simp only [lpf]
      refine Ev.iff (fun hc => ?_) (fun hc => ?_)
      · rw [if_pos hc]
        obtain ⟨o, ho⟩ := Option.isSome_iff_exists.1 hc
        rw [e2 o ho, ho]
        exact Ev.now _
      · rw [if_neg hc]
        exact ih'
theorem look_ev (n m due : Int) (hn : 1 ≤ n ∧ n ≤ 16) (hm : 1 ≤ m ∧ m ≤ n) (hd0 : 0 ≤ due) (hd : due = 0 ∨ m * (2 * (due - 1) + 1) < n) :
    ∀ (r : Nat) (l : List Int) (x : Int), (l.length : Int) + r = m → (∀ y ∈ l, 0 ≤ y ∧ y < n) → 0 ≤ x → x ≤ n → (l.length = 0 → x = 0) → (0 < l.length → x = rd l ((l.length : Int) - 1) + 1) →
      Ev (fun k => impl_BestStarts_find.f k n m due l x) (srch n due r l x) ∧ ∃ out, Ev (fun k => spec_siLook.f k n m due l) (out, (srch n due r l x).isSome) ∧ (∀ o, srch n due r l x = some o → out = o) ∧ (0 < r → srch n due r l x = none → out = []) := by
  intro r
  induction r with
  | zero =>
    intro l x hl hmem h0 h1 hx0 hx1
    have hle := mxs_ge n due l hn.1 (by omega) (by rcases hd with hd | hd; exact .inl hd; exact .inr (by rw [show (l.length : Int) = m by omega]; exact hd)) hd0
    constructor
    · refine Ev.succ ?_
      simp only [impl_BestStarts_find.f, srch]
      refine Ev.pos (by omega) (Ev.bind (spread_ev n l ⟨hn.1, by omega⟩ (by omega) (fun y hy => by have := hmem y hy; omega)) (Ev.bind (max_ev n l hn) ?_))
      refine Ev.iff (fun hc => ?_) (fun hc => ?_)
      · rw [if_pos (by omega)]; exact Ev.now _
      · rw [if_neg (by omega)]; exact Ev.now _
    · refine ⟨l, Ev.succ ?_, fun o ho => ?_, fun h => absurd h (by omega)⟩
      · simp only [spec_siLook.f, srch]
        refine Ev.pos (by omega) (Ev.bind (siSpread_ev n l ⟨hn.1, by omega⟩ (by omega) (fun y hy => by have := hmem y hy; omega)) (Ev.const ?_))
        have e : (spr n l 0 n.toNat).foldl mx 0 = mxs n l := rfl
        simp only [e]
        by_cases hc : mxs n l ≤ due
        · simp [hc]
        · simp [hc]
      · simp only [srch] at ho
        by_cases hc : mxs n l ≤ due
        · rw [if_pos hc] at ho; exact Option.some.inj ho
        · rw [if_neg hc] at ho; simp at ho
  | succ r ih =>
    intro l x hl hmem h0 h1 hx0 hx1
    have step : ∀ y, 0 ≤ y → y < n → _ := fun y hy0 hy1 => ih (l ++ [y]) (y + 1) (by simp; omega) (fun z hz => by
      rcases List.mem_append.1 hz with hz | hz
      · exact hmem z hz
      · have : z = y := by simpa using hz
        omega) (by omega) (by omega) (fun h => by simp at h) (fun _ => by
      rw [show (((l ++ [y]).length : Nat) : Int) - 1 = (l.length : Int) by simp, rd_append])
    constructor
    · refine Ev.succ ?_
      simp only [impl_BestStarts_find.f, srch]
      exact Ev.neg (by omega) (find_loop n m due r l hn hm (by omega) (fun y hy0 hy1 => (step y hy0 hy1).1) _ x h0 rfl h1)
    · have lp := look_loop n m due r l hn hm (by omega) (fun y hy0 hy1 => by
        obtain ⟨_, out, e1, e2, _⟩ := step y hy0 hy1
        exact ⟨out, e1, e2⟩) (n - x).toNat x h0 (by omega)
      refine ⟨(srch n due (r + 1) l x).getD [], Ev.succ ?_, fun o ho => by rw [ho]; rfl, fun _ ho => by rw [ho]; rfl⟩
      simp only [spec_siLook.f, srch]
      refine Ev.neg (by omega) ?_
      have lp' : Ev (fun k => spec_siLook.j0 k n m due l x) _ := Ev.succ (by simp only [spec_siLook.j0]; exact lp)
      by_cases hz : (l.length : Int) > 0
      · refine Ev.pos hz ?_
        rw [wrap64_id (x := (l.length : Int) - 1) (by omega) (by omega)]
        refine Ev.pos (by omega) (Ev.pos (by omega) ?_)
        rw [← hx1 (by omega), wrap64_id (x := x) (by omega) (by omega)]
        exact lp'
      · refine Ev.neg hz ?_
        rw [hx0 (by omega)] at lp' ⊢
        exact lp'
/-- What both answer. -/
theorem best_both (n m : Int) : ∃ R : List Int × Bool, Ev (fun k => spec_BestStarts.f k n m) R ∧ Ev (fun k => impl_BestStarts.f k n m) R ∧ R.1.length ≤ 100 := by
  unfold spec_BestStarts.f impl_BestStarts.f
  simp only [l1In_eq, in_eq, Option.bind_some]
  by_cases hn : 1 ≤ n ∧ n ≤ 16
  · by_cases hm : 1 ≤ m ∧ m ≤ n
    · obtain ⟨due, e1, e2, h0, h1, h2⟩ := least_loop n m hn hm 17 0 (by omega) (by omega) (.inl rfl)
      have hdn : due < n := by
        rcases h2 with h2 | h2
        · omega
        · rcases Int.lt_or_le due 1 with h | h
          · omega
          · have := Int.mul_le_mul_of_nonneg_right (show (1 : Int) ≤ m by omega) (show 0 ≤ 2 * (due - 1) + 1 by omega)
            rw [Int.one_mul] at this
            omega
      obtain ⟨f1, out, f2, f3, f4⟩ := look_ev n m due hn hm h0 h2 m.toNat [] 0 (by simp; omega) (by simp) (by omega) (by omega) (fun _ => rfl) (fun h => by simp at h)
      have hs := gud_srch n due m.toNat (by omega) (by omega) h0 hdn (by rw [show ((m.toNat : Nat) : Int) = m by omega]; exact h1)
      obtain ⟨o, ho⟩ := Option.isSome_iff_exists.1 hs
      have hlen := srch_len _ _ _ _ _ _ ho
      rw [ho] at f1 f2
      rw [f3 o ho] at f2
      refine ⟨(o, true), ?_, ?_, by simp at hlen; simp only; omega⟩
      · simp only [hn, hm, decide_true, if_true, Bool.not_true, and_self]
        refine Ev.succ ?_
        simp only [spec_BestStarts.j0, Bool.false_eq_true, if_false]
        unfold spec_siLeast.f
        exact Ev.bind e1 (Ev.bind f2 (Ev.now _))
      · simp only [hn, hm, decide_true, if_true, and_self]
        unfold impl_leastTimeWith.f
        exact Ev.bind e2 (Ev.bind f1 (Ev.now _))
    · refine ⟨([], false), ?_, ?_, by simp⟩
      · simp only [hn, hm, decide_true, if_true, decide_false, Bool.not_false, and_self]
        refine Ev.succ ?_
        simp only [spec_BestStarts.j0, if_true]
        exact Ev.now _
      · simp only [hn, hm, decide_true, if_true, decide_false, Bool.false_eq_true, if_false, and_self]
        exact Ev.now _
  · refine ⟨([], false), ?_, ?_, by simp⟩
    · simp only [hn, decide_false, Bool.false_eq_true, if_false]
      refine Ev.succ ?_
      simp only [spec_BestStarts.j0, if_true]
      exact Ev.now _
    · simp only [hn, decide_false, Bool.false_eq_true, if_false]
      exact Ev.now _
theorem FnExactBestStarts : StatFnExactBestStarts := by
  intro n m _ _
  refine Ev.get ?_
  unfold laws_FnExactBestStarts.f
  obtain ⟨⟨rl, rb⟩, sp, im, hl⟩ := best_both n m
  simp only at hl
  have ei := eqIntS_ev rl (by omega)
  refine Ev.bind sp (Ev.bind im (Ev.bind ei (Ev.pos rfl (Ev.succ ?_))))
  simp only [laws_FnExactBestStarts.j0]
  refine Ev.neg (by simp) (Ev.bind (markIntS_ev rl (by omega)) (Ev.bind (heldIntS_ev rl.length (by omega)) (Ev.neg (by omega) (Ev.pos rfl (Ev.bind im (Ev.bind ei (Ev.pos rfl (Ev.succ ?_))))))))
  simp only [laws_FnExactBestStarts.j1]
  exact Ev.neg (by simp) (Ev.bind (heldIntS_ev rl.length (by omega)) (Ev.neg (by omega) (Ev.pos rfl (Ev.now _))))

end Go.Proofs.Ytjnkjnpopejgaaa.Pure
