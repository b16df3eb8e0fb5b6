/- The law FnExactSpreadTimes, pure: what the printed functions answer, and that it is what the law asks. No condition. -/
import Derived.Test.YtafcfhlgenljgaaStatFnExactSpreadTimes
import Derived.Test.YtafcfhlgenljgaaPlBase
import Derived.Test.YtafcfhlgenljgaaPlList
import Derived.Test.YtafcfhlgenljgaaPlSpread
namespace Go.Proofs.Ytafcfhlgenljgaa.Pure
open Go.RowKit Go.Proofs.Ytafcfhlgenljgaa.PFnExactSpreadTimes Go.Proofs.YtafcfhlgenljgaaW.PrintWords Go.Proofs.YtafcfhlgenljgaaW.PrintMore Go.Proofs.Ytafcfhlgenljgaa.Opn Go.Proofs.Ytafcfhlgenljgaa.Pl
set_option linter.unusedVariables false
set_option linter.unusedSimpArgs false
theorem in_eq (a b c : Int) : impl_in.f a b c = some (decide (b ≤ a ∧ a ≤ c)) := by
  unfold impl_in.f; by_cases h : b ≤ a <;> simp [h]
theorem l1In_eq (a b c : Int) : spec_l1In.f a b c = some (decide (b ≤ a ∧ a ≤ c)) := by
  unfold spec_l1In.f; by_cases h : b ≤ a <;> simp [h]
theorem toIntS_loop (l : List Int) (hl : l.length ≤ 1000000000) : ∀ (d i : Nat), i + d = l.length → Ev (fun k => laws_toIntS.l0 k l (cpy 0 l i) (i : Int)) l := by
  intro d
  induction d with
  | zero =>
    intro i h
    refine Ev.succ ?_
    simp only [laws_toIntS.l0]
    refine Ev.neg (by omega) (Ev.const ?_)
    rw [show i = l.length by omega, cpy_all]
  | succ d ih =>
    intro i h
    refine Ev.succ ?_
    simp only [laws_toIntS.l0]
    refine Ev.pos (by omega) (Ev.pos (by omega) (Ev.pos (by rw [cpy_len _ _ _ (by omega)]; omega) ?_))
    rw [wrap64_id (x := (i : Int) + 1) (by omega) (by omega), Int.toNat_natCast, cpy_succ_rd l i (by omega)]
    exact ih (i + 1) (by omega)
theorem toIntS_ev (l : List Int) (hl : l.length ≤ 1000000000) : Ev (fun k => laws_toIntS.f k l) l := by
  unfold laws_toIntS.f
  refine Ev.pos (by omega) (Ev.pos (by omega) ?_)
  have := toIntS_loop l hl l.length 0 (by omega)
  rw [cpy_zero] at this
  exact this
theorem eqIntS_loop (l : List Int) (hl : l.length ≤ 1000000000) : ∀ (d i : Nat), i + d = l.length → Ev (fun k => laws_eqIntS.l0 k l l (i : Int)) true := by
  intro d
  induction d with
  | zero =>
    intro i h
    refine Ev.succ ?_
    simp only [laws_eqIntS.l0]
    exact Ev.neg (by omega) (Ev.now _)
  | succ d ih =>
    intro i h
    refine Ev.succ ?_
    simp only [laws_eqIntS.l0]
    refine Ev.pos (by omega) (Ev.pos (by omega) (Ev.pos (by omega) (Ev.pos (by first | rfl | trivial) ?_)))
    rw [wrap64_id (x := (i : Int) + 1) (by omega) (by omega)]
    exact ih (i + 1) (by omega)
theorem eqIntS_ev (l : List Int) (hl : l.length ≤ 1000000000) : Ev (fun k => laws_eqIntS.f k l l) true := by
  unfold laws_eqIntS.f
  exact Ev.pos rfl (eqIntS_loop l hl l.length 0 (by omega))
theorem l1Least_eq (a b : Int) : spec_l1Least.f a b = some (mn a b) := by
  unfold spec_l1Least.f mn
  split <;> split <;> congr 1 <;> omega
theorem l1Most_eq (a b : Int) : spec_l1Most.f a b = some (mx a b) := by
  unfold spec_l1Most.f mx
  split <;> split <;> congr 1 <;> omega
theorem l1Rising_loop (l : List Int) (hi : Int) (hl : l.length ≤ 1000000000) : ∀ (d i : Nat), i + d = l.length → Ev (fun k => spec_l1Rising.l0 k l 0 hi l (l.length : Int) (i : Int)) (ris l hi (i : Int) d) := by
  intro d
  induction d with
  | zero =>
    intro i h
    refine Ev.succ ?_
    simp only [spec_l1Rising.l0]
    exact Ev.neg (by omega) (Ev.now _)
  | succ d ih =>
    intro i h
    refine Ev.succ ?_
    simp only [spec_l1Rising.l0, l1In_eq, Option.bind_some]
    refine Ev.pos (by omega) (Ev.pos (by omega) (Ev.pos (by omega) ?_))
    simp only [ris]
    have ih' := ih (i + 1) (by omega)
    rw [wrap64_id (x := (i : Int) + 1) (by omega) (by omega)]
    refine Ev.iff (fun hc => ?_) (fun hc => ?_)
    · simp only [hc, Bool.true_and]
      refine Ev.iff (fun h1 => ?_) (fun h1 => ?_)
      · rw [wrap64_id (x := (i : Int) - 1) (by omega) (by omega)]
        refine Ev.pos (by omega) (Ev.pos (by omega) ?_)
        refine Ev.iff (fun h2 => ?_) (fun h2 => ?_)
        · refine Ev.const ?_
          have e : decide (rd l ((i : Int) - 1) < rd l (i : Int)) = false := by simp; omega
          rw [show decide ((i : Int) > 0) = true from decide_eq_true h1, e]; rfl
        · have e : decide (rd l ((i : Int) - 1) < rd l (i : Int)) = true := by simp; omega
          simp only [h1, e, Bool.or_true, Bool.true_and]
          exact ih'
      · simp only [h1, decide_false, Bool.not_false, Bool.true_or, Bool.true_and]
        exact ih'
    · refine Ev.const ?_
      simp only [hc, Bool.false_and]
theorem l1Rising_ev (l : List Int) (hi : Int) (hl : l.length ≤ 1000000000) : Ev (fun k => spec_l1Rising.f k l 0 hi) (ris l hi 0 l.length) := by
  unfold spec_l1Rising.f
  exact l1Rising_loop l hi hl l.length 0 (by omega)
def mki : Nat → List Int
  | 0 => []
  | n + 1 => mki n ++ [(n : Int) + 1]
theorem mki_len : ∀ n, (mki n).length = n
  | 0 => rfl
  | n + 1 => by simp [mki, mki_len n]
theorem markIntS_loop (l : List Int) (hl : l.length ≤ 1000000000) : ∀ (d i : Nat), i + d = l.length → Ev (fun k => laws_markIntS.l0 k (mki i ++ l.drop i) ((i : Int) + 1) (i : Int)) ((l.length : Int) + 1, mki l.length) := by
  intro d
  induction d with
  | zero =>
    intro i h
    refine Ev.succ ?_
    simp only [laws_markIntS.l0]
    refine Ev.neg (by simp [mki_len]; omega) (Ev.const ?_)
    rw [List.drop_of_length_le (by omega), List.append_nil, show i = l.length by omega]
  | succ d ih =>
    intro i h
    have hd : l.drop i = l[i]'(by omega) :: l.drop (i + 1) := List.drop_eq_getElem_cons (by omega)
    refine Ev.succ ?_
    simp only [laws_markIntS.l0]
    refine Ev.pos (by simp [mki_len]; omega) (Ev.pos (by omega) ?_)
    rw [hd, Int.toNat_natCast, List.set_append_right _ _ (by rw [mki_len]; omega), mki_len, Nat.sub_self, List.set_cons_zero]
    rw [wrap64_id (x := (i : Int) + 1 + 1) (by omega) (by omega), wrap64_id (x := (i : Int) + 1) (by omega) (by omega)]
    have := ih (i + 1) (by omega)
    have e : mki (i + 1) ++ l.drop (i + 1) = mki i ++ ((i : Int) + 1) :: l.drop (i + 1) := by simp [mki]
    rw [e] at this
    exact this
theorem markIntS_ev (l : List Int) (hl : l.length ≤ 1000000000) : Ev (fun k => laws_markIntS.f k l 1) ((l.length : Int) + 1, mki l.length) := by
  unfold laws_markIntS.f
  have := markIntS_loop l hl l.length 0 (by omega)
  simpa [mki] using this
theorem mki_get : ∀ (n i : Nat), i < n → rd (mki n) (i : Int) = (i : Int) + 1
  | 0, i, h => by omega
  | n + 1, i, h => by
    by_cases hi : i < n
    · have := mki_get n i hi
      simp only [mki, rd, Int.toNat_natCast, List.getD_eq_getElem?_getD] at this ⊢
      rw [List.getElem?_append_left (by rw [mki_len]; exact hi)]
      exact this
    · obtain rfl : i = n := by omega
      simp only [mki, rd, Int.toNat_natCast, List.getD_eq_getElem?_getD]
      rw [List.getElem?_append_right (by rw [mki_len]; omega)]
      simp [mki_len]
theorem heldIntS_loop (m : Nat) (hl : m ≤ 1000000000) : ∀ (d i : Nat), i + d = m → Ev (fun k => laws_heldIntS.l0 k (mki m) ((i : Int) + 1) (i : Int)) ((m : Int) + 1) := by
  intro d
  induction d with
  | zero =>
    intro i h
    refine Ev.succ ?_
    simp only [laws_heldIntS.l0]
    refine Ev.neg (by rw [mki_len]; omega) (Ev.const ?_)
    rw [show i = m by omega]
  | succ d ih =>
    intro i h
    refine Ev.succ ?_
    simp only [laws_heldIntS.l0, mki_get m i (by omega)]
    rw [wrap64_id (x := (i : Int) + 1 + 1) (by omega) (by omega), wrap64_id (x := (i : Int) + 1) (by omega) (by omega)]
    refine Ev.pos (by rw [mki_len]; omega) (Ev.pos (by omega) (Ev.pos (by first | rfl | trivial) ?_))
    have := ih (i + 1) (by omega)
    exact this
theorem heldIntS_ev (m : Nat) (hl : m ≤ 1000000000) : Ev (fun k => laws_heldIntS.f k (mki m) 1) ((m : Int) + 1) := by
  unfold laws_heldIntS.f
  have := heldIntS_loop m hl m 0 (by omega)
  simpa using this

theorem siStarts_ev (n : Int) (l : List Int) (hl : l.length ≤ 1000000000) : Ev (fun k => spec_siStarts.f k n l) (decide (stOK n l)) := by
  unfold spec_siStarts.f
  have e : spec_siSoldiers.f n = some (decide (1 ≤ n ∧ n ≤ 100)) := by unfold spec_siSoldiers.f; rw [l1In_eq]; rfl
  simp only [e, Option.bind_some]
  refine Ev.iff (fun hc => ?_) (fun hc => ?_)
  · have hc' := of_decide_eq_true hc
    rw [wrap64_id (x := n - 1) (by omega) (by omega)]
    refine Ev.iff (fun h1 => ?_) (fun h1 => ?_)
    · refine Ev.bind (l1Rising_ev l (n - 1) hl) (Ev.const ?_)
      have h0 : 0 < l.length := by omega
      simp [stOK, hc'.1, hc'.2, h0]
    · refine Ev.const ?_
      have : ¬ stOK n l := fun h => h1 (by have := h.2.2.1; omega)
      simp [this]
  · refine Ev.const ?_
    have : ¬ stOK n l := fun h => hc (decide_eq_true ⟨h.1, h.2.1⟩)
    simp [this]
theorem areFrom_loop (n : Int) (l : List Int) (hl : l.length ≤ 1000000000) : ∀ (d i : Nat), i + d = l.length →
    Ev (fun k => impl_areFrom.l0 k n l l (l.length : Int) (i : Int)) (ris l (wrap64 (n - 1)) (i : Int) d && decide (1 ≤ n ∧ n ≤ 100 ∧ 0 < l.length)) := by
  have e : impl_isSignalRow.f n = some (decide (1 ≤ n ∧ n ≤ 100)) := by unfold impl_isSignalRow.f; rw [in_eq]; rfl
  intro d
  induction d with
  | zero =>
    intro i h
    refine Ev.succ ?_
    simp only [impl_areFrom.l0, e, Option.bind_some]
    refine Ev.neg (by omega) (Ev.const ?_)
    by_cases h1 : 1 ≤ n ∧ n ≤ 100
    · simp [ris, h1]
    · simp only [h1, decide_false, Bool.false_eq_true, if_false, ris, Bool.true_and]
      congr 1
      symm
      simp only [decide_eq_false_iff_not]
      exact fun k => h1 ⟨k.1, k.2.1⟩
  | succ d ih =>
    intro i h
    refine Ev.succ ?_
    simp only [impl_areFrom.l0, in_eq, Option.bind_some]
    refine Ev.pos (by omega) (Ev.pos (by omega) (Ev.pos (by omega) ?_))
    simp only [ris]
    have ih' := ih (i + 1) (by omega)
    rw [wrap64_id (x := (i : Int) + 1) (by omega) (by omega)]
    refine Ev.iff (fun hc => ?_) (fun hc => ?_)
    · simp only [hc, Bool.true_and]
      refine Ev.iff (fun h1 => ?_) (fun h1 => ?_)
      · rw [wrap64_id (x := (i : Int) - 1) (by omega) (by omega)]
        refine Ev.pos (by omega) (Ev.pos (by omega) ?_)
        refine Ev.iff (fun h2 => ?_) (fun h2 => ?_)
        · refine Ev.const ?_
          have e : decide (rd l ((i : Int) - 1) < rd l (i : Int)) = false := by simp; omega
          rw [show decide ((i : Int) > 0) = true from decide_eq_true h1, e]; rfl
        · have e : decide (rd l ((i : Int) - 1) < rd l (i : Int)) = true := by simp; omega
          simp only [h1, e, Bool.or_true, Bool.true_and]
          exact ih'
      · simp only [h1, decide_false, Bool.not_false, Bool.true_or, Bool.true_and]
        exact ih'
    · refine Ev.const ?_
      simp only [hc, Bool.false_and]
theorem areFrom_ev (n : Int) (l : List Int) (hl : l.length ≤ 1000000000) : Ev (fun k => impl_areFrom.f k n l) (decide (stOK n l)) := by
  unfold impl_areFrom.f
  have := areFrom_loop n l hl l.length 0 (by omega)
  have e : (ris l (wrap64 (n - 1)) ((0 : Nat) : Int) l.length && decide (1 ≤ n ∧ n ≤ 100 ∧ 0 < l.length)) = decide (stOK n l) := by
    unfold stOK
    by_cases h : 1 ≤ n ∧ n ≤ 100 ∧ 0 < l.length
    · rw [wrap64_id (x := n - 1) (by omega) (by omega)]
      simp [h]
    · have h' : ¬ (1 ≤ n ∧ n ≤ 100 ∧ 0 < l.length ∧ ris l (n - 1) 0 l.length = true) := fun k => h ⟨k.1, k.2.1, k.2.2.1⟩
      simp only [h, h', decide_false, Bool.and_false]
  rw [e] at this
  exact this
theorem siSpread_in (n : Int) (l : List Int) (hn : 1 ≤ n ∧ n ≤ 1000) (hl : l.length ≤ 1000000000) (hm : ∀ x ∈ l, 0 ≤ x ∧ x ≤ n) (out : List Int) (most x : Int) (h0 : 0 ≤ x) (h1 : x ≤ 1000) (R : List Int × Int) (ho : out.length ≤ 1000) :
    ∀ (d i : Nat) (a : Int), i + d = l.length → 0 ≤ a → a ≤ n → (Ev (fun k => spec_siSpread.l0 k n l (out ++ [near x a (l.drop i)]) (mx most (near x a (l.drop i))) (x + 1)) R) →
      Ev (fun k => spec_siSpread.l1 k n l out most x a l (l.length : Int) (i : Int)) R := by
  have ha : ∀ y : Int, -2000 ≤ y → y ≤ 2000 → spec_l1Abs.f y = some (mx y (-y)) := by
    intro y h h'
    unfold spec_l1Abs.f
    rw [wrap64_id (x := -y) (by omega) (by omega), l1Most_eq]; rfl
  intro d
  induction d with
  | zero =>
    intro i a h ha0 ha1 hR
    refine Ev.succ ?_
    simp only [spec_siSpread.l1, l1Most_eq, Option.bind_some]
    rw [List.drop_of_length_le (by omega)] at hR
    refine Ev.neg (by omega) (Ev.pos (by omega) ?_)
    rw [wrap64_id (x := x + 1) (by omega) (by omega)]
    exact hR
  | succ d ih =>
    intro i a h ha0 ha1 hR
    refine Ev.succ ?_
    have hk := hm _ (rd_mem (l := l) (j := i) (by omega))
    simp only [spec_siSpread.l1, l1Least_eq, Option.bind_some]
    rw [wrap64_id (x := x - rd l (i : Int)) (by omega) (by omega), wrap64_id (x := (i : Int) + 1) (by omega) (by omega), ha _ (by omega) (by omega)]
    simp only [Option.bind_some]
    refine Ev.pos (by omega) (Ev.pos (by omega) (Ev.pos (by omega) ?_))
    rw [show -(x - rd l (i : Int)) = rd l (i : Int) - x by omega]
    have hb : 0 ≤ mn a (mx (x - rd l (i : Int)) (rd l (i : Int) - x)) ∧ mn a (mx (x - rd l (i : Int)) (rd l (i : Int) - x)) ≤ n := by unfold mn mx; split <;> split <;> omega
    refine ih (i + 1) _ (by omega) hb.1 hb.2 ?_
    rw [rd_cons_drop (show i < l.length by omega)] at hR
    exact hR
theorem siSpread_loop (n : Int) (l : List Int) (hn : 1 ≤ n ∧ n ≤ 1000) (hl : l.length ≤ 1000000000) (hm : ∀ x ∈ l, 0 ≤ x ∧ x ≤ n) :
    ∀ (d : Nat) (out : List Int) (most x : Int), 0 ≤ x → x + d = n → out.length = x → Ev (fun k => spec_siSpread.l0 k n l out most x) (out ++ spr n l x d, (spr n l x d).foldl mx most) := by
  intro d
  induction d with
  | zero =>
    intro out most x h0 h1 h2
    refine Ev.succ ?_
    simp only [spec_siSpread.l0]
    refine Ev.neg (by omega) (Ev.const ?_)
    simp [spr]
  | succ d ih =>
    intro out most x h0 h1 h2
    refine Ev.succ ?_
    simp only [spec_siSpread.l0]
    refine Ev.pos (by omega) ?_
    refine siSpread_in n l hn hl hm out most x h0 (by omega) _ (by omega) l.length 0 n (by omega) (by omega) (by omega) ?_
    rw [List.drop_zero]
    have := ih (out ++ [near x n l]) (mx most (near x n l)) (x + 1) (by omega) (by omega) (by simp; omega)
    simp only [spr, List.foldl_cons]
    simpa using this
theorem siSpread_ev (n : Int) (l : List Int) (hn : 1 ≤ n ∧ n ≤ 1000) (hl : l.length ≤ 1000000000) (hm : ∀ x ∈ l, 0 ≤ x ∧ x ≤ n) : Ev (fun k => spec_siSpread.f k n l) (spr n l 0 n.toNat, (spr n l 0 n.toNat).foldl mx 0) := by
  unfold spec_siSpread.f
  have := siSpread_loop n l hn hl hm n.toNat [] 0 0 (by omega) (by omega) (by simp)
  simpa using this
theorem spread_in (n : Int) (l : List Int) (hn : 1 ≤ n ∧ n ≤ 1000) (hl : l.length ≤ 1000000000) (hm : ∀ x ∈ l, 0 ≤ x ∧ x ≤ n) (out : List Int) (x : Int) (h0 : 0 ≤ x) (h1 : x ≤ 1000) (R : List Int) (ho : out.length ≤ 1000) :
    ∀ (d i : Nat) (a : Int), i + d = l.length → 0 ≤ a → a ≤ n → (Ev (fun k => impl_spread.l0 k n l (out ++ [near x a (l.drop i)]) n (x + 1)) R) →
      Ev (fun k => impl_spread.l1 k n l out x a n x l (l.length : Int) (i : Int)) R := by
  intro d
  induction d with
  | zero =>
    intro i a h ha0 ha1 hR
    refine Ev.succ ?_
    simp only [impl_spread.l1]
    rw [List.drop_of_length_le (by omega)] at hR
    refine Ev.neg (by omega) (Ev.pos (by omega) ?_)
    rw [wrap64_id (x := x + 1) (by omega) (by omega)]
    exact hR
  | succ d ih =>
    intro i a h ha0 ha1 hR
    refine Ev.succ ?_
    have hk := hm _ (rd_mem (l := l) (j := i) (by omega))
    simp only [impl_spread.l1, impl_away.f, Option.bind_some]
    rw [wrap64_id (x := x - rd l (i : Int)) (by omega) (by omega), wrap64_id (x := rd l (i : Int) - x) (by omega) (by omega), wrap64_id (x := (i : Int) + 1) (by omega) (by omega)]
    refine Ev.pos (by omega) (Ev.pos (by omega) (Ev.pos (by omega) ?_))
    have hb : 0 ≤ mn a (mx (x - rd l (i : Int)) (rd l (i : Int) - x)) ∧ mn a (mx (x - rd l (i : Int)) (rd l (i : Int) - x)) ≤ n := by unfold mn mx; split <;> split <;> omega
    refine ih (i + 1) _ (by omega) hb.1 hb.2 ?_
    rw [rd_cons_drop (show i < l.length by omega)] at hR
    exact hR
theorem spread_loop (n : Int) (l : List Int) (hn : 1 ≤ n ∧ n ≤ 1000) (hl : l.length ≤ 1000000000) (hm : ∀ x ∈ l, 0 ≤ x ∧ x ≤ n) :
    ∀ (d : Nat) (out : List Int) (x : Int), 0 ≤ x → x + d = n → out.length = x → Ev (fun k => impl_spread.l0 k n l out n x) (out ++ spr n l x d) := by
  intro d
  induction d with
  | zero =>
    intro out x h0 h1 h2
    refine Ev.succ ?_
    simp only [impl_spread.l0]
    refine Ev.neg (by omega) (Ev.const ?_)
    simp [spr]
  | succ d ih =>
    intro out x h0 h1 h2
    refine Ev.succ ?_
    simp only [impl_spread.l0]
    refine Ev.pos (by omega) ?_
    refine spread_in n l hn hl hm out x h0 (by omega) _ (by omega) l.length 0 n (by omega) (by omega) (by omega) ?_
    rw [List.drop_zero]
    have := ih (out ++ [near x n l]) (x + 1) (by omega) (by omega) (by simp; omega)
    simp only [spr]
    simpa using this
theorem spread_ev (n : Int) (l : List Int) (hn : 1 ≤ n ∧ n ≤ 1000) (hl : l.length ≤ 1000000000) (hm : ∀ x ∈ l, 0 ≤ x ∧ x ≤ n) : Ev (fun k => impl_spread.f k n l) (spr n l 0 n.toNat) := by
  unfold impl_spread.f
  have := spread_loop n l hn hl hm n.toNat [] 0 (by omega) (by omega) (by simp)
  simpa using this
def spt (n : Int) (l : List Int) : List Int × Bool := if stOK n l then (spr n l 0 n.toNat, true) else ([], false)
theorem spt_len (n : Int) (l : List Int) : (spt n l).1.length ≤ 100 := by
  unfold spt
  by_cases h : stOK n l
  · have := h.2.1
    rw [if_pos h]; simp only [spr_len]; omega
  · rw [if_neg h]; simp
theorem spSpreadTimes_ev (n : Int) (l : List Int) (hl : l.length ≤ 100000000) : Ev (fun k => spec_SpreadTimes.f k n l) (spt n l) := by
  unfold spec_SpreadTimes.f spt
  refine Ev.bind (siStarts_ev n l (by omega)) ?_
  by_cases h : stOK n l
  · simp only [h, decide_true, if_true]
    have hm := ris_mem h.2.2.2
    exact Ev.bind (siSpread_ev n l ⟨h.1, by have := h.2.1; omega⟩ (by omega) (fun x hx => by have := hm x hx; omega)) (Ev.now _)
  · simp only [h, decide_false, Bool.false_eq_true, if_false]
    exact Ev.now _
theorem imSpreadTimes_ev (n : Int) (l : List Int) (hl : l.length ≤ 100000000) : Ev (fun k => impl_SpreadTimes.f k n l) (spt n l) := by
  unfold impl_SpreadTimes.f spt
  refine Ev.bind (areFrom_ev n l (by omega)) ?_
  by_cases h : stOK n l
  · simp only [h, decide_true, if_true]
    have hm := ris_mem h.2.2.2
    exact Ev.bind (spread_ev n l ⟨h.1, by have := h.2.1; omega⟩ (by omega) (fun x hx => by have := hm x hx; omega)) (Ev.now _)
  · simp only [h, decide_false, Bool.false_eq_true, if_false]
    exact Ev.now _
theorem FnExactSpreadTimes : StatFnExactSpreadTimes := by
  intro n l _ hl8 _
  refine Ev.get ?_
  unfold laws_FnExactSpreadTimes.f
  refine Ev.iff (fun h => Ev.now _) (fun h => ?_)
  have hl : l.length ≤ 100000000 := by omega
  have ti := toIntS_ev l (by omega)
  have sp := spSpreadTimes_ev n l hl
  have im := imSpreadTimes_ev n l hl
  have hr := spt_len n l
  generalize spt n l = R at sp im hr
  obtain ⟨rl, rb⟩ := R
  simp only at hr
  refine Ev.bind ti (Ev.bind sp (Ev.bind ti (Ev.bind im (Ev.bind (eqIntS_ev rl (by omega)) (Ev.pos rfl (Ev.succ ?_))))))
  simp only [laws_FnExactSpreadTimes.j0]
  refine Ev.neg (by simp) (Ev.bind ti (Ev.bind (eqIntS_ev l (by omega)) (Ev.pos rfl (Ev.bind (markIntS_ev l (by omega)) (Ev.neg (by simp; omega) (Ev.bind (eqIntS_ev rl (by omega)) (Ev.pos rfl (Ev.succ ?_))))))))
  simp only [laws_FnExactSpreadTimes.j1]
  refine Ev.neg (by simp) (Ev.bind (markIntS_ev rl (by omega)) (Ev.bind (heldIntS_ev rl.length (by omega)) (Ev.neg (by omega) (Ev.pos rfl (Ev.bind ti (Ev.bind im (Ev.bind (eqIntS_ev rl (by omega)) (Ev.pos rfl (Ev.succ ?_)))))))))
  simp only [laws_FnExactSpreadTimes.j2]
  exact Ev.neg (by simp) (Ev.bind (heldIntS_ev rl.length (by omega)) (Ev.neg (by omega) (Ev.pos rfl (Ev.now _))))

end Go.Proofs.Ytafcfhlgenljgaa.Pure
