/- Plain facts: Nums. No condition. -/
import Derived.Test.YtgfoookdmcffpaaDoorPlMk
import Derived.Test.YtgfoookdmcffpaaDoorPlRest
import Derived.Sort.Walk0
import Derived.RowKit
import Derived.Test.YtgfoookdmcffpaaDoorWWords
import Derived.Test.YtgfoookdmcffpaaDoorWMore
import Derived.Test.YtgfoookdmcffpaaDoorOpn
namespace Go.Proofs.YtgfoookdmcffpaaDoor.Pl
open Go.RowKit Go.Proofs.YtgfoookdmcffpaaDoorW.PrintWords Go.Proofs.YtgfoookdmcffpaaDoorW.PrintMore Go.Proofs.YtgfoookdmcffpaaDoor.Opn
set_option linter.unusedVariables false
set_option linter.unusedSimpArgs false
theorem mk_surj : ∀ (n : Nat) (l : List UInt8), l.length = n → l.all sgn = true → ∃ m, m < 2 ^ n ∧ mk n m = l
  | 0, l, h, _ => ⟨0, by simp, by rw [List.length_eq_zero_iff.1 h]; rfl⟩
  | n + 1, l, h, hs => by
    rcases List.eq_nil_or_concat l with rfl | ⟨r, a, rfl⟩
    · simp at h
    · simp only [List.concat_eq_append, List.length_append, List.length_cons, List.length_nil, List.all_append, List.all_cons, List.all_nil, Bool.and_true, Bool.and_eq_true] at h hs
      obtain ⟨m, h1, h2⟩ := mk_surj n r (by omega) hs.1
      rw [Nat.pow_succ]
      rcases sgn_or hs.2 with rfl | rfl
      · exact ⟨2 * m, by omega, by rw [mk, show 2 * m / 2 = m by omega, h2, show 2 * m % 2 = 0 by omega]; simp [sgnOf]⟩
      · exact ⟨2 * m + 1, by omega, by rw [mk, show (2 * m + 1) / 2 = m by omega, h2, show (2 * m + 1) % 2 = 1 by omega]; simp [sgnOf]⟩
theorem bl_app : ∀ (a b : List UInt8), a.length = b.length → Op.bytesLess a b = true → ∀ x y, Op.bytesLess (a ++ x) (b ++ y) = true
  | [], [], _, h, _, _ => by simp [Op.bytesLess] at h
  | [], b :: t, h, _, _, _ => by simp at h
  | a :: s, [], h, _, _, _ => by simp at h
  | a :: s, b :: t, hl, h, x, y => by
    simp only [Op.bytesLess, Bool.or_eq_true, Bool.and_eq_true] at h
    simp only [List.cons_append, Op.bytesLess, Bool.or_eq_true, Bool.and_eq_true]
    rcases h with h | ⟨h1, h2⟩
    · exact .inl h
    · exact .inr ⟨h1, bl_app s t (by simpa using hl) h2 x y⟩
theorem bl_snoc : ∀ (a : List UInt8), Op.bytesLess (a ++ [60]) (a ++ [62]) = true
  | [] => by decide
  | a :: s => by simp only [List.cons_append, Op.bytesLess, bl_snoc s]; simp
theorem mk_less : ∀ (n q q' : Nat), q < q' → q' < 2 ^ n → Op.bytesLess (mk n q) (mk n q') = true
  | 0, q, q', h, h' => by simp at h'; omega
  | n + 1, q, q', h, h' => by
    rw [Nat.pow_succ] at h'
    rw [mk, mk]
    by_cases e : q / 2 = q' / 2
    · rw [e, show q % 2 = 0 by omega, show q' % 2 = 1 by omega]
      exact bl_snoc _
    · exact bl_app _ _ (by rw [mk_len, mk_len]) (mk_less n _ _ (by omega) (by omega)) _ _
theorem fac_62 : ∀ (l : List UInt8), fac (l ++ [62]) = fac l
  | [] => rfl
  | [a] => by simp [fac]
  | a :: b :: r => by
    have := fac_62 (b :: r)
    simp only [List.cons_append] at this ⊢
    rw [fac, fac, this]
theorem fac_60 : ∀ (l : List UInt8), l.all sgn = true → (fac (l ++ [60]) = true ↔ 62 ∈ l)
  | [], _ => by simp [fac]
  | [a], _ => by
    simp only [List.cons_append, List.nil_append, fac, Bool.or_false, decide_eq_true_eq, and_true, List.mem_singleton]
    exact ⟨fun h => h.symm, fun h => h.symm⟩
  | a :: b :: r, h => by
    simp only [List.all_cons, Bool.and_eq_true] at h
    have ih := fac_60 (b :: r) (by simp [h.2.1, h.2.2])
    simp only [List.cons_append] at ih ⊢
    rw [fac, Bool.or_eq_true, ih, decide_eq_true_eq]
    constructor
    · rintro (⟨rfl, rfl⟩ | h1)
      · simp
      · exact List.mem_cons_of_mem _ h1
    · intro h1
      rcases List.mem_cons.1 h1 with h2 | h2
      · rcases sgn_or h.2.1 with rfl | rfl
        · exact .inl ⟨h2.symm, rfl⟩
        · exact .inr (by simp)
      · exact .inr h2
theorem mk_62 : ∀ (n m : Nat), m < 2 ^ n → (62 ∈ mk n m ↔ m ≠ 0)
  | 0, m, h => by simp [mk]; simpa using h
  | n + 1, m, h => by
    rw [Nat.pow_succ] at h
    rw [mk, List.mem_append, mk_62 n (m / 2) (by omega), List.mem_singleton]
    unfold sgnOf
    split
    · constructor
      · intro _; omega
      · intro _; exact .inr rfl
    · constructor
      · rintro (h1 | h1)
        · omega
        · exact absurd h1 (by decide)
      · intro h1; exact .inl (by omega)
/-- How many of d rows of n soldiers are at rest, the first one bearing the number m. -/
def rc (n : Nat) : Nat → Nat → Nat
  | _, 0 => 0
  | m, d + 1 => (if fac (mk n m) = false then 1 else 0) + rc n (m + 1) d
theorem rc_two (n : Nat) : ∀ (d m : Nat), m + d ≤ 2 ^ n → rc (n + 1) (2 * m) (2 * d) = rc n m d + (if m = 0 ∧ 0 < d then 1 else 0)
  | 0, m, _ => by simp [rc]
  | d + 1, m, h => by
    have ih := rc_two n d (m + 1) (by omega)
    have e0 : mk (n + 1) (2 * m) = mk n m ++ [60] := by rw [mk, show 2 * m / 2 = m by omega, show 2 * m % 2 = 0 by omega]; rfl
    have e1 : mk (n + 1) (2 * m + 1) = mk n m ++ [62] := by rw [mk, show (2 * m + 1) / 2 = m by omega, show (2 * m + 1) % 2 = 1 by omega]; rfl
    have l1 : rc (n + 1) (2 * m) (2 * (d + 1)) = (if fac (mk (n + 1) (2 * m)) = false then 1 else 0) + ((if fac (mk (n + 1) (2 * m + 1)) = false then 1 else 0) + rc (n + 1) (2 * (m + 1)) (2 * d)) := by
      rw [show 2 * (d + 1) = 2 * d + 1 + 1 by omega, rc, rc, show 2 * m + 1 + 1 = 2 * (m + 1) by omega]
    have l2 : rc n m (d + 1) = (if fac (mk n m) = false then 1 else 0) + rc n (m + 1) d := by rw [rc]
    have f0 : (fac (mk n m ++ [60]) = false) ↔ m = 0 := by
      have h1 := fac_60 (mk n m) (mk_all n m)
      have h2 := mk_62 n m (by omega)
      cases hf : fac (mk n m ++ [60]) with
      | false =>
        rw [hf] at h1
        simp only [true_iff]
        apply Classical.byContradiction
        intro h3
        exact absurd (h1.2 (h2.2 h3)) (by decide)
      | true =>
        have := h2.1 (h1.1 hf)
        simp [this]
    rw [l1, l2, ih, e0, e1, fac_62, if_neg (show ¬ (m + 1 = 0 ∧ 0 < d) by omega)]
    have z : (if fac (mk n m ++ [60]) = false then 1 else 0) = (if m = 0 ∧ 0 < d + 1 then 1 else 0) := by
      by_cases hm : m = 0
      · rw [if_pos (f0.2 hm), if_pos ⟨hm, by omega⟩]
      · rw [if_neg (fun h => hm (f0.1 h)), if_neg (fun h => hm h.1)]
    rw [z]
    omega
theorem rc_all : ∀ (n : Nat), rc n 0 (2 ^ n) = n + 1
  | 0 => by simp [rc, mk, fac]
  | n + 1 => by
    have h := rc_two n (2 ^ n) 0 (by omega)
    have hp : 0 < 2 ^ n := Nat.pow_pos (by decide)
    rw [Nat.mul_zero, rc_all n, if_pos ⟨rfl, hp⟩] at h
    rw [Nat.pow_succ, Nat.mul_comm, h]
/-- How many ticks a row needs. -/
def tk (l : List UInt8) : Nat := (rst 1000000 l).2
theorem tk_zero (l : List UInt8) : tk l = 0 ↔ fac l = false := by
  unfold tk
  rw [show 1000000 = 999999 + 1 by rfl, rst]
  split
  · next h => simp [h]
  · next h => simpa using h
theorem tk_n (l : List UInt8) (hs : l.all sgn = true) (h1 : 1 ≤ l.length) : tk l + 1 ≤ l.length := rst_n _ l hs h1
/-- The ticks of d rows of n soldiers, the first one bearing the number m. -/
def tkl (n : Nat) : Nat → Nat → List Int
  | _, 0 => []
  | m, d + 1 => (tk (mk n m) : Int) :: tkl n (m + 1) d
theorem tkl_len (n : Nat) : ∀ (d m : Nat), (tkl n m d).length = d
  | 0, _ => rfl
  | d + 1, m => by rw [tkl, List.length_cons, tkl_len n d]
theorem tkl_get (n : Nat) : ∀ (d m i : Nat), i < d → rd (tkl n m d) (i : Int) = (tk (mk n (m + i)) : Int)
  | 0, _, _, h => by omega
  | d + 1, m, 0, _ => by simp [rd, tkl]
  | d + 1, m, i + 1, h => by
    have := tkl_get n d (m + 1) i (by omega)
    rw [show m + (i + 1) = m + 1 + i by omega, ← this]
    simp [rd, tkl]
theorem tkl_mem (n : Nat) : ∀ (d m : Nat) (x : Int), x ∈ tkl n m d → ∃ q, m ≤ q ∧ q < m + d ∧ x = (tk (mk n q) : Int)
  | 0, _, x, h => by simp [tkl] at h
  | d + 1, m, x, h => by
    rw [tkl] at h
    rcases List.mem_cons.1 h with rfl | h
    · exact ⟨m, by omega, by omega, rfl⟩
    · obtain ⟨q, h1, h2, h3⟩ := tkl_mem n d (m + 1) x h
      exact ⟨q, by omega, by omega, h3⟩
theorem tkl_bd (n : Nat) (hn : 1 ≤ n) (m d : Nat) (x : Int) (h : x ∈ tkl n m d) : 0 ≤ x ∧ x + 1 ≤ n := by
  obtain ⟨q, _, _, rfl⟩ := tkl_mem n d m x h
  have := tk_n (mk n q) (mk_all n q) (by rw [mk_len]; omega)
  rw [mk_len] at this
  omega
theorem tkl_zero (n : Nat) : ∀ (d m : Nat), (tkl n m d).count 0 = rc n m d
  | 0, _ => rfl
  | d + 1, m => by
    rw [tkl, List.count_cons, tkl_zero n d, rc]
    have : ((tk (mk n m) : Int) == 0) = decide (fac (mk n m) = false) := by
      rw [show ((tk (mk n m) : Int) == 0) = decide ((tk (mk n m) : Int) = 0) from rfl]
      exact decide_eq_decide.2 (by rw [← tk_zero]; omega)
    rw [this]
    simp only [decide_eq_true_eq]
    omega
/-- How many of l are less than t, and their sum. -/
def csum (l : List Int) : Nat → Int
  | 0 => 0
  | t + 1 => csum l t + (l.count (t : Int) : Int)
def wsum (l : List Int) : Nat → Int
  | 0 => 0
  | t + 1 => wsum l t + t * (l.count (t : Int) : Int)
theorem csum_cons (x : Int) (l : List Int) (h : 0 ≤ x) : ∀ t : Nat, csum (x :: l) t = csum l t + if x < t then 1 else 0
  | 0 => by simp only [csum]; rw [if_neg (by omega)]; rfl
  | t + 1 => by
    rw [csum, csum, csum_cons x l h t, List.count_cons]
    by_cases e : x = (t : Int)
    · rw [if_neg (by omega), if_pos (by simp [e]), if_pos (by omega)]; push_cast; omega
    · have hb : (x == (t : Int)) = false := by simpa using e
      rw [hb]
      simp only [Bool.false_eq_true, if_false, Nat.add_zero]
      by_cases h2 : x < (t : Int)
      · rw [if_pos h2, if_pos (by omega)]; omega
      · rw [if_neg h2, if_neg (by omega)]; omega
theorem wsum_cons (x : Int) (l : List Int) (h : 0 ≤ x) : ∀ t : Nat, wsum (x :: l) t = wsum l t + if x < t then x else 0
  | 0 => by simp only [wsum]; rw [if_neg (by omega)]; rfl
  | t + 1 => by
    rw [wsum, wsum, wsum_cons x l h t, List.count_cons]
    by_cases e : x = (t : Int)
    · rw [if_neg (by omega), if_pos (by simp [e]), if_pos (by omega), e]; push_cast; rw [Int.mul_add]; omega
    · have hb : (x == (t : Int)) = false := by simpa using e
      rw [hb]
      simp only [Bool.false_eq_true, if_false, Nat.add_zero]
      by_cases h2 : x < (t : Int)
      · rw [if_pos h2, if_pos (by omega)]; omega
      · rw [if_neg h2, if_neg (by omega)]; omega
theorem csum_all : ∀ (l : List Int) (N : Nat), (∀ x ∈ l, 0 ≤ x ∧ x < N) → csum l N = l.length
  | [], N, _ => by induction N with
    | zero => rfl
    | succ N ih => rw [csum, ih (by simp)]; simp
  | x :: l, N, h => by
    have hx := h x (by simp)
    rw [csum_cons x l hx.1, csum_all l N (fun y hy => h y (by simp [hy])), if_pos hx.2, List.length_cons]
    push_cast; rfl
theorem wsum_all : ∀ (l : List Int) (N : Nat), (∀ x ∈ l, 0 ≤ x ∧ x < N) → wsum l N = l.sum
  | [], N, _ => by induction N with
    | zero => rfl
    | succ N ih => rw [wsum, ih (by simp)]; simp
  | x :: l, N, h => by
    have hx := h x (by simp)
    rw [wsum_cons x l hx.1, wsum_all l N (fun y hy => h y (by simp [hy])), if_pos hx.2, List.sum_cons, Int.add_comm]
theorem csum_bd (l : List Int) : ∀ t : Nat, 0 ≤ csum l t
  | 0 => Int.le_refl _
  | t + 1 => by have := csum_bd l t; rw [csum]; omega
theorem csum_mono (l : List Int) (t : Nat) : ∀ d, csum l t ≤ csum l (t + d)
  | 0 => Int.le_refl _
  | d + 1 => by have := csum_mono l t d; rw [show t + (d + 1) = (t + d) + 1 by omega, csum]; omega
theorem wsum_bd (l : List Int) (B : Nat) : ∀ t : Nat, t ≤ B → 0 ≤ wsum l t ∧ wsum l t ≤ B * csum l t
  | 0, _ => by simp [wsum, csum]
  | t + 1, h => by
    have := wsum_bd l B t (by omega)
    rw [wsum, csum, Int.mul_add]
    have h1 : 0 ≤ (t : Int) * (l.count (t : Int) : Int) := Int.mul_nonneg (by omega) (by omega)
    have h2 : (t : Int) * (l.count (t : Int) : Int) ≤ B * (l.count (t : Int) : Int) := Int.mul_le_mul_of_nonneg_right (by omega) (by omega)
    omega
/-- How often each of N numbers is in l. -/
def cn (l : List Int) (N : Nat) : List Int := (List.range N).map fun (t : Nat) => ((l.count (t : Int) : Nat) : Int)
theorem cn_len (l : List Int) (N : Nat) : (cn l N).length = N := by simp [cn]
theorem cn_rd (l : List Int) (N : Nat) (t : Int) (h0 : 0 ≤ t) (h : t < N) : rd (cn l N) t = (l.count t : Int) := by
  have h' : t.toNat < N := by omega
  simp [rd, cn, h']
  rw [Int.max_eq_left h0]
theorem cn_nil (N : Nat) : cn [] N = List.replicate N 0 := by
  apply List.ext_getElem
  · simp [cn]
  · intro i h1 h2; simp [cn]
theorem cn_step (l : List Int) (N : Nat) (t : Int) (h0 : 0 ≤ t) (h : t < N) : (cn l N).set t.toNat (rd (cn l N) t + 1) = cn (l ++ [t]) N := by
  rw [cn_rd l N t h0 h]
  apply List.ext_getElem
  · simp [cn]
  · intro i h1 h2
    rw [List.getElem_set]
    simp only [cn, List.getElem_map, List.getElem_range, List.count_append, List.count_singleton]
    split
    · next e =>
      have : t = (i : Int) := by omega
      subst this
      simp
    · next e =>
      have : (t == (i : Int)) = false := by simp; omega
      simp [this]
theorem fmx : ∀ (l : List Int) (x : Int), x ≤ l.foldl mx x ∧ (∀ y ∈ l, y ≤ l.foldl mx x) ∧ (l.foldl mx x = x ∨ l.foldl mx x ∈ l)
  | [], x => ⟨Int.le_refl _, by simp, .inl rfl⟩
  | a :: l, x => by
    obtain ⟨h1, h2, h3⟩ := fmx l (mx x a)
    have hm : x ≤ mx x a ∧ a ≤ mx x a ∧ (mx x a = x ∨ mx x a = a) := by unfold mx; split <;> omega
    rw [List.foldl_cons]
    refine ⟨by omega, fun y hy => ?_, ?_⟩
    · rcases List.mem_cons.1 hy with rfl | hy
      · omega
      · exact h2 y hy
    · rcases h3 with h3 | h3
      · rcases hm.2.2 with e | e
        · left; rw [h3, e]
        · right; rw [h3, e]; simp
      · right; exact List.mem_cons_of_mem _ h3
/-- The texts of those of d rows of n soldiers from which a tick leads to r. -/
def bfr (n : Nat) (r : List UInt8) : Nat → Nat → List ByteArray
  | _, 0 => []
  | m, d + 1 => (if twk (mk n m) = r then [up (mk n m)] else []) ++ bfr n r (m + 1) d
theorem bfr_mem (n : Nat) (r : List UInt8) : ∀ (d m : Nat) (x : ByteArray), x ∈ bfr n r m d ↔ ∃ q, m ≤ q ∧ q < m + d ∧ twk (mk n q) = r ∧ x = up (mk n q)
  | 0, m, x => by simp [bfr]; intro q h1 h2; omega
  | d + 1, m, x => by
    rw [bfr, List.mem_append, bfr_mem n r d (m + 1) x]
    constructor
    · rintro (h | ⟨q, h1, h2, h3, h4⟩)
      · split at h
        · next e => exact ⟨m, by omega, by omega, e, by simpa using h⟩
        · simp at h
      · exact ⟨q, by omega, by omega, h3, h4⟩
    · rintro ⟨q, h1, h2, h3, h4⟩
      by_cases e : q = m
      · left; subst e; rw [if_pos h3]; simp [h4]
      · right; exact ⟨q, by omega, by omega, h3, h4⟩
theorem bfr_len (n : Nat) (r : List UInt8) : ∀ (d m : Nat), (bfr n r m d).length ≤ d
  | 0, _ => by simp [bfr]
  | d + 1, m => by
    have := bfr_len n r d (m + 1)
    rw [bfr, List.length_append]
    split <;> simp <;> omega
theorem bfr_ris (n : Nat) (r : List UInt8) : ∀ (d m : Nat), m + d ≤ 2 ^ n → (bfr n r m d).Pairwise (fun a b => Op.bytesLess a.toList b.toList = true)
  | 0, _, _ => by simp [bfr]
  | d + 1, m, h => by
    rw [bfr]
    refine List.pairwise_append.2 ⟨by split <;> simp, bfr_ris n r d (m + 1) (by omega), fun a ha b hb => ?_⟩
    obtain ⟨q, h1, h2, _, rfl⟩ := (bfr_mem n r d (m + 1) b).1 hb
    split at ha
    · rw [List.mem_singleton.1 ha, toList_L, toList_L, L_mk, L_mk]
      exact mk_less n m q (by omega) (by omega)
    · simp at ha
theorem tkl_snoc (n : Nat) : ∀ (d m : Nat), tkl n m (d + 1) = tkl n m d ++ [(tk (mk n (m + d)) : Int)]
  | 0, m => by simp [tkl]
  | d + 1, m => by
    rw [tkl, tkl_snoc n d (m + 1), tkl, List.cons_append, show m + 1 + d = m + (d + 1) by omega]
theorem least {p : Nat → Prop} : ∀ (n : Nat), p n → ∃ q, q ≤ n ∧ p q ∧ ∀ j, j < q → ¬ p j := by
  intro n
  induction n using Nat.strongRecOn with
  | _ n ih =>
    intro h
    by_cases c : ∃ j, j < n ∧ p j
    · obtain ⟨j, hj, hp⟩ := c
      obtain ⟨q, h1, h2, h3⟩ := ih j hj hp
      exact ⟨q, by omega, h2, h3⟩
    · exact ⟨n, Nat.le_refl _, h, fun j hj hp => c ⟨j, hj, hp⟩⟩
theorem two12 (n : Nat) (h : n ≤ 12) : 2 ^ n ≤ 4096 := Nat.pow_le_pow_right (by omega) h
theorem two_pos (n : Nat) : 0 < 2 ^ n := Nat.pow_pos (by decide)
/-- The ticks of all rows of n soldiers, and the most of them. -/
def tks (n : Nat) : List Int := tkl n 0 (2 ^ n)
def mt (n : Nat) : Int := (tkl n 1 (2 ^ n - 1)).foldl mx (tk (mk n 0) : Int)
theorem tks_cons (n : Nat) : tks n = (tk (mk n 0) : Int) :: tkl n 1 (2 ^ n - 1) := by
  obtain ⟨d, hd⟩ : ∃ d, 2 ^ n = d + 1 := ⟨2 ^ n - 1, by have := two_pos n; omega⟩
  rw [tks, hd, tkl, Nat.add_sub_cancel]
theorem tks_len (n : Nat) : (tks n).length = 2 ^ n := tkl_len _ _ _
theorem tks_bd (n : Nat) (hn : 1 ≤ n) : ∀ x ∈ tks n, 0 ≤ x ∧ x < n := fun x hx => by have := tkl_bd n hn 0 (2 ^ n) x hx; omega
theorem mt_mem (n : Nat) : mt n ∈ tks n := by
  rw [tks_cons]
  rcases (fmx (tkl n 1 (2 ^ n - 1)) (tk (mk n 0) : Int)).2.2 with h | h
  · rw [show mt n = (tk (mk n 0) : Int) from h]; simp
  · exact List.mem_cons_of_mem _ h
theorem mt_top (n : Nat) : ∀ x ∈ tks n, x ≤ mt n := by
  intro x hx
  rw [tks_cons] at hx
  have h := fmx (tkl n 1 (2 ^ n - 1)) (tk (mk n 0) : Int)
  rcases List.mem_cons.1 hx with rfl | hx
  · exact h.1
  · exact h.2.1 x hx
theorem mt_first (n : Nat) : ∃ q, q < 2 ^ n ∧ (tk (mk n q) : Int) = mt n ∧ ∀ j, j < q → (tk (mk n j) : Int) ≠ mt n := by
  obtain ⟨q, _, h1, h2⟩ := tkl_mem n (2 ^ n) 0 (mt n) (mt_mem n)
  obtain ⟨q', h3, h4, h5⟩ := least (p := fun q => (tk (mk n q) : Int) = mt n) q h2.symm
  exact ⟨q', by omega, h4, h5⟩
theorem count_pos {l : List Int} {x : Int} (h : x ∈ l) : 1 ≤ l.count x := List.count_pos_iff.2 h
theorem count_none {l : List Int} {x : Int} (h : x ∉ l) : l.count x = 0 := List.count_eq_zero.2 h
theorem sum_bd : ∀ (l : List Int) (B : Int), (∀ x ∈ l, 0 ≤ x ∧ x ≤ B) → 0 ≤ l.sum ∧ l.sum ≤ B * l.length
  | [], B, _ => by simp
  | x :: l, B, h => by
    have h1 := h x (by simp)
    have h2 := sum_bd l B (fun y hy => h y (by simp [hy]))
    rw [List.sum_cons, List.length_cons]
    have : B * ((l.length + 1 : Nat) : Int) = B * (l.length : Int) + B := by push_cast; rw [Int.mul_add, Int.mul_one]
    omega
end Go.Proofs.YtgfoookdmcffpaaDoor.Pl
