/- Plain facts: Ord. No condition. -/
import Derived.Test.YtnkklkpbchffkaaGreatDoorPlTick
import Derived.Test.YtnkklkpbchffkaaGreatDoorPlList
import Derived.Lib.MapLaws
import Derived.Lib.TrimAscii
import Derived.RowKit
import Derived.Test.YtnkklkpbchffkaaGreatDoorWWords
import Derived.Test.YtnkklkpbchffkaaGreatDoorWMore
import Derived.Test.YtnkklkpbchffkaaGreatDoorOpn
namespace Go.Proofs.YtnkklkpbchffkaaGreatDoor.Pl
open Go.RowKit Go.Proofs.YtnkklkpbchffkaaGreatDoorW.PrintWords Go.Proofs.YtnkklkpbchffkaaGreatDoorW.PrintMore Go.Proofs.YtnkklkpbchffkaaGreatDoor.Opn
set_option linter.unusedVariables false
set_option linter.unusedSimpArgs false
open Go.Lib
/-- A soldier turns. -/
def flp (b : UInt8) : UInt8 := if b = 60 then 62 else 60
theorem sgn_is {b : UInt8} (h : sgn b = true) : b = 60 ∨ b = 62 := by simpa [sgn] using h
theorem flp_flp {b : UInt8} (h : sgn b = true) : flp (flp b) = b := by
  rcases sgn_is h with rfl | rfl <;> decide
theorem flp_ne {b : UInt8} (h : sgn b = true) : flp b ≠ b := by
  rcases sgn_is h with rfl | rfl <;> decide
theorem flp_sgn (b : UInt8) : sgn (flp b) = true := by unfold flp; split <;> decide
theorem flp_of {b c : UInt8} (h : sgn b = true) (h' : sgn c = true) (hn : b ≠ c) : flp c = b := by
  rcases sgn_is h with rfl | rfl <;> rcases sgn_is h' with rfl | rfl <;> first | (exact absurd rfl hn) | decide
/-- Some soldiers turn. -/
def msk (l : List UInt8) (p : Nat → Bool) : List UInt8 := l.mapIdx fun i b => if p i = true then flp b else b
theorem msk_len (l : List UInt8) (p : Nat → Bool) : (msk l p).length = l.length := by simp [msk]
theorem msk_get (l : List UInt8) (p : Nat → Bool) (i : Nat) (h : i < l.length) : (msk l p)[i]'(by rw [msk_len]; exact h) = if p i = true then flp l[i] else l[i] := by simp [msk]
theorem all_get {l : List UInt8} (hg : l.all sgn = true) {i : Nat} (h : i < l.length) : sgn l[i] = true := List.all_eq_true.1 hg _ (List.getElem_mem h)
theorem msk_good {l : List UInt8} (hg : l.all sgn = true) (p : Nat → Bool) : (msk l p).all sgn = true := by
  rw [List.all_eq_true]
  intro x hx
  obtain ⟨i, hi, rfl⟩ := List.getElem_of_mem hx
  have hi' : i < l.length := by rw [msk_len] at hi; exact hi
  rw [msk_get l p i hi']
  split
  · exact flp_sgn _
  · exact all_get hg hi'
theorem msk_congr {l : List UInt8} {p q : Nat → Bool} (h : ∀ i, i < l.length → p i = q i) : msk l p = msk l q := by
  apply List.ext_getElem (by rw [msk_len, msk_len])
  intro i h1 h2
  have hi : i < l.length := by rw [msk_len] at h1; exact h1
  rw [msk_get l p i hi, msk_get l q i hi, h i hi]
theorem msk_zero {l : List UInt8} {p : Nat → Bool} (h : ∀ i, i < l.length → p i = false) : msk l p = l := by
  apply List.ext_getElem (by rw [msk_len])
  intro i h1 h2
  rw [msk_get l p i h2, h i h2]; rfl
theorem msk_msk {l : List UInt8} (hg : l.all sgn = true) (p q : Nat → Bool) : msk (msk l p) q = msk l (fun i => p i ^^ q i) := by
  apply List.ext_getElem (by rw [msk_len, msk_len, msk_len])
  intro i h1 h2
  have hi : i < l.length := by rw [msk_len] at h2; exact h2
  have hi' : i < (msk l p).length := by rw [msk_len]; exact hi
  rw [msk_get (msk l p) q i hi', msk_get l p i hi, msk_get l _ i hi]
  have := flp_flp (all_get hg hi)
  cases p i <;> cases q i <;> simp [this]
theorem msk_iff {l : List UInt8} (hg : l.all sgn = true) (p : Nat → Bool) : msk l p = l ↔ ∀ i, i < l.length → p i = false := by
  refine ⟨fun h i hi => ?_, msk_zero⟩
  have e := msk_get l p i hi
  have e2 : (msk l p)[i]'(by rw [msk_len]; exact hi) = l[i] := by simp only [h]
  rw [e2] at e
  cases hp : p i
  · rfl
  · rw [hp, if_pos rfl] at e; exact absurd e.symm (flp_ne (all_get hg hi))
/-- Whether a soldier looks differently in two rows. -/
def dif (a b : List UInt8) (i : Nat) : Bool := a[i]? != b[i]?
theorem dif_comm (a b : List UInt8) : dif a b = dif b a := by
  funext i; unfold dif
  by_cases h : a[i]? = b[i]?
  · rw [h]
  · rw [bne_iff_ne.2 h, bne_iff_ne.2 (Ne.symm h)]
theorem dif_get {a b : List UInt8} {i : Nat} (h : i < a.length) (h' : i < b.length) : dif a b i = (a[i] != b[i]) := by
  unfold dif
  rw [List.getElem?_eq_getElem h, List.getElem?_eq_getElem h']
  by_cases e : a[i] = b[i]
  · simp [e]
  · rw [bne_iff_ne.2 e, bne_iff_ne.2 (by simpa using e)]
theorem msk_dif {a b : List UInt8} (ha : a.all sgn = true) (hb : b.all sgn = true) (hl : a.length = b.length) : msk b (dif a b) = a := by
  apply List.ext_getElem (by rw [msk_len, hl])
  intro i h1 h2
  have hi : i < b.length := by omega
  rw [msk_get b _ i hi, dif_get h2 hi]
  by_cases e : a[i] = b[i]
  · rw [e]; simp
  · rw [if_pos (bne_iff_ne.2 e)]; exact flp_of (all_get ha h2) (all_get hb hi) e
/-- Bytes as a text. -/
abbrev bs (l : List UInt8) : ByteArray := ⟨l.toArray⟩
theorem bs_L (s : ByteArray) : bs (L s) = s := mk_L s
theorem bs_size (l : List UInt8) : (bs l).size = l.length := by rw [size_L, L_mk]
theorem bs_append (l m : List UInt8) : bs l ++ bs m = bs (l ++ m) := by apply L_inj; simp [L]
theorem bs_extract (l : List UInt8) (i j : Nat) : (bs l).extract i j = bs ((l.drop i).take (j - i)) := by
  apply L_inj; rw [L_mk]; show ((bs l).extract i j).data.toList = _; simp [List.extract_eq_take_drop]
theorem bs_toList (l : List UInt8) : (bs l).toList = l := by rw [toList_L, L_mk]
theorem bs_bt (l : List UInt8) (i : Nat) (h : i < l.length) : bt (bs l) (i : Int) = ((l[i]).toNat : Int) := by
  have h' : i < (L (bs l)).length := by rw [L_mk]; exact h
  rw [bt_nat (bs l) i h']
theorem bs_inj {l m : List UInt8} (h : bs l = bs m) : l = m := by rw [← L_mk l, ← L_mk m]; exact congrArg L h
/-- From one soldier to another one. -/
def seg (f e : Nat) (j : Nat) : Bool := decide (f ≤ j ∧ j ≤ e)
theorem seg_cut {l : List UInt8} {f e : Nat} (hf : f ≤ e + 1) (he : e < l.length) : msk l (seg f e) = l.take f ++ ((l.drop f).take (e + 1 - f)).map flp ++ l.drop (e + 1) := by
  apply List.ext_getElem (by simp [msk_len]; omega)
  intro i h1 h2
  have hi : i < l.length := by rw [msk_len] at h1; exact h1
  rw [msk_get l _ i hi]
  unfold seg
  by_cases c : i < f
  · rw [if_neg (by simp; omega), List.getElem_append_left (by simp; omega), List.getElem_append_left (by simp; omega), List.getElem_take]
  · by_cases c2 : i ≤ e
    · rw [if_pos (by simp; omega), List.getElem_append_left (by simp; omega), List.getElem_append_right (by simp; omega)]
      simp only [List.getElem_map, List.getElem_drop, List.getElem_take, List.length_take]
      congr 2; omega
    · rw [if_neg (by simp; omega), List.getElem_append_right (by simp; omega)]
      simp only [List.getElem_drop, List.length_append, List.length_map, List.length_drop, List.length_take]
      congr 1; omega
theorem seg_one {l : List UInt8} {i : Nat} (hi : i < l.length) : l.take i ++ [flp l[i]] ++ l.drop (i + 1) = msk l (seg i i) := by
  rw [seg_cut (by omega) hi]
  congr 2
  rw [List.drop_eq_getElem_cons hi, show i + 1 - i = 1 by omega]
  rfl
theorem seg_add (i e j : Nat) (h : i ≤ e) : (seg i i j ^^ seg (i + 1) e j) = seg i e j := by
  unfold seg
  by_cases c : j = i
  · subst c; rw [decide_eq_true (by omega), decide_eq_false (by omega), decide_eq_true (by omega)]; rfl
  · rw [decide_eq_false (p := i ≤ j ∧ j ≤ i) (by omega), Bool.false_xor]
    exact decide_eq_decide.2 (by omega)
theorem map_flp : ∀ (l : List UInt8), l.all sgn = true → mapD (fun x => 122 - x) l = l.map flp
  | [], _ => rfl
  | b :: l, h => by
    simp only [List.all_cons, Bool.and_eq_true] at h
    have hb : b.toNat < 128 := by rcases sgn_is h.1 with rfl | rfl <;> decide
    rw [mapD_step _ _ (by simp), decodeL_ascii b l hb]
    simp only [List.drop_succ_cons, List.drop_zero, List.map_cons]
    rw [map_flp l h.2]
    rcases sgn_is h.1 with rfl | rfl <;> rfl
/-- A window from a soldier on. -/
def win (w i j : Nat) : Bool := decide (i ≤ j ∧ j < i + w)
theorem win_seg (w i : Nat) (hw : 1 ≤ w) : seg i (i + w - 1) = win w i := by
  funext j; unfold seg win; exact decide_eq_decide.2 (by omega)
/-- What windows turn. -/
def pl (w : Nat) : List Int → Nat → Bool
  | [], _ => false
  | s :: l, j => win w s.toNat j ^^ pl w l j
/-- The windows that a walk of d steps finds, and the differences that stay. -/
def wgo (w : Nat) : Nat → Nat → (Nat → Bool) → List Int × (Nat → Bool)
  | 0, _, E => ([], E)
  | d + 1, i, E => if E i = true then (((i : Nat) : Int) :: (wgo w d (i + 1) (fun j => E j ^^ win w i j)).1, (wgo w d (i + 1) (fun j => E j ^^ win w i j)).2) else wgo w d (i + 1) E
theorem wgo_hit (w d i : Nat) (E : Nat → Bool) (h : E i = true) : wgo w (d + 1) i E = (((i : Nat) : Int) :: (wgo w d (i + 1) (fun j => E j ^^ win w i j)).1, (wgo w d (i + 1) (fun j => E j ^^ win w i j)).2) := by
  simp only [wgo]; rw [if_pos h]
theorem wgo_miss (w d i : Nat) (E : Nat → Bool) (h : E i = false) : wgo w (d + 1) i E = wgo w d (i + 1) E := by
  simp only [wgo]; rw [if_neg (by rw [h]; decide)]
theorem wgo_par (w : Nat) : ∀ (d i : Nat) (E : Nat → Bool) (j : Nat), (wgo w d i E).2 j = (E j ^^ pl w (wgo w d i E).1 j)
  | 0, _, _, j => by simp [wgo, pl]
  | d + 1, i, E, j => by
    simp only [wgo]
    split
    · rw [wgo_par w d (i + 1) _ j]; simp only [pl, Int.toNat_natCast, Bool.xor_assoc]
    · exact wgo_par w d (i + 1) E j
theorem wgo_pre (w : Nat) : ∀ (d i : Nat) (E : Nat → Bool) (j : Nat), j < i → (wgo w d i E).2 j = E j
  | 0, _, _, j, _ => rfl
  | d + 1, i, E, j, h => by
    simp only [wgo]
    split
    · rw [wgo_pre w d (i + 1) _ j (by omega)]
      have : win w i j = false := by unfold win; exact decide_eq_false (by omega)
      simp [this]
    · exact wgo_pre w d (i + 1) E j (by omega)
theorem wgo_zero (w : Nat) (hw : 1 ≤ w) : ∀ (d i : Nat) (E : Nat → Bool) (j : Nat), i ≤ j → j < i + d → (wgo w d i E).2 j = false
  | 0, _, _, j, h, h' => by omega
  | d + 1, i, E, j, h, h' => by
    simp only [wgo]
    split
    · rename_i c
      by_cases e : j = i
      · subst e
        rw [wgo_pre w d (j + 1) _ j (by omega), c]
        have : win w j j = true := by unfold win; exact decide_eq_true (by omega)
        simp [this]
      · exact wgo_zero w hw d (i + 1) _ j (by omega) (by omega)
    · rename_i c
      by_cases e : j = i
      · subst e
        rw [wgo_pre w d (j + 1) _ j (by omega)]; simpa using c
      · exact wgo_zero w hw d (i + 1) _ j (by omega) (by omega)
theorem wgo_mem (w : Nat) : ∀ (d i : Nat) (E : Nat → Bool) (x : Int), x ∈ (wgo w d i E).1 → (i : Int) ≤ x ∧ x < (i : Int) + d
  | 0, _, _, x, h => by simp [wgo] at h
  | d + 1, i, E, x, h => by
    simp only [wgo] at h
    split at h
    · simp only [List.mem_cons] at h
      rcases h with rfl | h
      · omega
      · have := wgo_mem w d (i + 1) _ x h; omega
    · have := wgo_mem w d (i + 1) E x h; omega
theorem wgo_rise (w : Nat) : ∀ (d i : Nat) (E : Nat → Bool), (wgo w d i E).1.Pairwise (· < ·)
  | 0, _, _ => by simp [wgo]
  | d + 1, i, E => by
    simp only [wgo]
    split
    · simp only [List.pairwise_cons]
      exact ⟨fun x hx => by have := wgo_mem w d (i + 1) _ x hx; omega, wgo_rise w d (i + 1) _⟩
    · exact wgo_rise w d (i + 1) E
theorem wgo_len (w : Nat) : ∀ (d i : Nat) (E : Nat → Bool), (wgo w d i E).1.length ≤ d
  | 0, _, _ => by simp [wgo]
  | d + 1, i, E => by
    simp only [wgo]
    split
    · have := wgo_len w d (i + 1) (fun j => E j ^^ win w i j); simp only [List.length_cons]; omega
    · have := wgo_len w d (i + 1) E; omega
/-- No soldier of n is left. -/
def nul (n : Nat) (E : Nat → Bool) : Bool := (List.range n).all fun j => !E j
theorem nul_iff (n : Nat) (E : Nat → Bool) : nul n E = true ↔ ∀ j, j < n → E j = false := by simp [nul]
/-- The chase along a row: whether the one before is turned, whether this one is. -/
def cha (D : Nat → Bool) (f : Bool) : Nat → Bool × Bool
  | 0 => (false, f)
  | i + 1 => ((cha D f i).2, D i ^^ ((cha D f i).1 ^^ (cha D f i).2))
/-- Soldier k is turned, where those before i are. -/
def tur (x : Nat → Bool) (i k : Nat) : Bool := decide (k < i) && x k
/-- What orders to those before i turn. -/
def cov (x : Nat → Bool) (i j : Nat) : Bool := (decide (1 ≤ j) && tur x i (j - 1)) ^^ (tur x i j ^^ tur x i (j + 1))
def near (i j : Nat) : Bool := decide (i ≤ j + 1 ∧ j ≤ i + 1)
theorem tur_succ (x : Nat → Bool) (i k : Nat) : tur x (i + 1) k = (tur x i k ^^ (x i && decide (k = i))) := by
  unfold tur
  by_cases c : k = i
  · subst c; rw [decide_eq_true (p := k < k + 1) (by omega), decide_eq_false (p := k < k) (by omega)]; simp
  · have e : decide (k < i + 1) = decide (k < i) := decide_eq_decide.2 (by omega)
    rw [e, decide_eq_false (p := k = i) c]; simp
theorem cov_succ (x : Nat → Bool) (i j : Nat) : cov x (i + 1) j = (cov x i j ^^ (x i && near i j)) := by
  unfold cov near
  rw [tur_succ, tur_succ, tur_succ]
  by_cases c1 : j + 1 = i
  · rw [decide_eq_false (p := j - 1 = i) (by omega), decide_eq_false (p := j = i) (by omega), decide_eq_true c1, decide_eq_true (p := i ≤ j + 1 ∧ j ≤ i + 1) (by omega)]
    generalize tur x i (j - 1) = a; generalize tur x i j = b; generalize tur x i (j + 1) = c; generalize x i = d; generalize decide (1 ≤ j) = e
    cases a <;> cases b <;> cases c <;> cases d <;> cases e <;> rfl
  · by_cases c2 : j = i
    · rw [decide_eq_true c2, decide_eq_false c1, decide_eq_true (p := i ≤ j + 1 ∧ j ≤ i + 1) (by omega)]
      by_cases c3 : 1 ≤ j
      · rw [decide_eq_true c3, decide_eq_false (p := j - 1 = i) (by omega)]
        generalize tur x i (j - 1) = a; generalize tur x i j = b; generalize tur x i (j + 1) = c; generalize x i = d
        cases a <;> cases b <;> cases c <;> cases d <;> rfl
      · rw [decide_eq_false c3]
        generalize tur x i (j - 1) = a; generalize tur x i j = b; generalize tur x i (j + 1) = c; generalize x i = d
        cases a <;> cases b <;> cases c <;> cases d <;> rfl
    · rw [decide_eq_false c1, decide_eq_false c2]
      by_cases c3 : j = i + 1
      · rw [decide_eq_true (p := 1 ≤ j) (by omega), decide_eq_true (p := j - 1 = i) (by omega), decide_eq_true (p := i ≤ j + 1 ∧ j ≤ i + 1) (by omega)]
        generalize tur x i (j - 1) = a; generalize tur x i j = b; generalize tur x i (j + 1) = c; generalize x i = d
        cases a <;> cases b <;> cases c <;> cases d <;> rfl
      · rw [decide_eq_false (p := i ≤ j + 1 ∧ j ≤ i + 1) (by omega)]
        by_cases c4 : 1 ≤ j
        · rw [decide_eq_false (p := j - 1 = i) (by omega)]
          generalize tur x i (j - 1) = a; generalize tur x i j = b; generalize tur x i (j + 1) = c; generalize x i = d; generalize decide (1 ≤ j) = e
          cases a <;> cases b <;> cases c <;> cases d <;> cases e <;> rfl
        · rw [decide_eq_false c4]
          generalize tur x i (j - 1) = a; generalize tur x i j = b; generalize tur x i (j + 1) = c; generalize x i = d
          cases a <;> cases b <;> cases c <;> cases d <;> rfl
theorem cov_zero (x : Nat → Bool) (j : Nat) : cov x 0 j = false := by simp [cov, tur]
/-- Who is turned in a chase. -/
def who (D : Nat → Bool) (f : Bool) (i : Nat) : Bool := (cha D f i).2
theorem who_next (D : Nat → Bool) (f : Bool) (i : Nat) : who D f (i + 1) = (D i ^^ cov (who D f) (i + 1) i) := by
  have e : cov (who D f) (i + 1) i = ((cha D f i).1 ^^ (cha D f i).2) := by
    unfold cov tur
    rw [decide_eq_true (p := i < i + 1) (by omega), decide_eq_false (p := i + 1 < i + 1) (by omega)]
    cases i with
    | zero => simp [cha, who]
    | succ i =>
      rw [decide_eq_true (p := 1 ≤ i + 1) (by omega), decide_eq_true (p := i + 1 - 1 < i + 1 + 1) (by omega)]
      simp [cha, who]
  rw [e]; rfl
theorem cov_past (x : Nat → Bool) (i j : Nat) : ∀ d, i = j + 2 + d → cov x i j = cov x (j + 2) j
  | 0, h => by rw [h]
  | d + 1, h => by
    subst h
    rw [show j + 2 + (d + 1) = (j + 2 + d) + 1 by omega, cov_succ, cov_past x (j + 2 + d) j d rfl]
    have : near (j + 2 + d) j = false := by unfold near; exact decide_eq_false (by omega)
    simp [this]
theorem cov_done (D : Nat → Bool) (f : Bool) (n j : Nat) (h : j + 1 < n) : (D j ^^ cov (who D f) n j) = false := by
  rw [cov_past (who D f) n j (n - (j + 2)) (by omega), cov_succ]
  have : near (j + 1) j = true := by unfold near; exact decide_eq_true (by omega)
  rw [this, who_next]
  generalize D j = a; generalize cov (who D f) (j + 1) j = b
  cases a <;> cases b <;> rfl
theorem cov_last (D : Nat → Bool) (f : Bool) (n : Nat) (h : 1 ≤ n) : (D (n - 1) ^^ cov (who D f) n (n - 1)) = who D f n := by
  obtain ⟨m, rfl⟩ : ∃ m, n = m + 1 := ⟨n - 1, by omega⟩
  rw [who_next]; rfl
theorem cov_nul (D : Nat → Bool) (f : Bool) (n : Nat) (h : 1 ≤ n) : nul n (fun j => D j ^^ cov (who D f) n j) = !who D f n := by
  cases e : who D f n
  · rw [Bool.not_false, nul_iff]
    intro j hj
    by_cases c : j + 1 < n
    · exact cov_done D f n j c
    · obtain rfl : j = n - 1 := by omega
      rw [← e]; exact cov_last D f n h
  · rw [Bool.not_true, Bool.eq_false_iff]
    intro hn
    have := (nul_iff _ _).1 hn (n - 1) (by omega)
    have e2 := cov_last D f n h
    rw [this, e] at e2
    exact absurd e2 (by decide)
/-- Those of d soldiers from i on who are turned. -/
def lst (x : Nat → Bool) : Nat → Nat → List Int
  | _, 0 => []
  | i, d + 1 => (if x i = true then [((i : Nat) : Int)] else []) ++ lst x (i + 1) d
/-- What orders to soldiers turn. -/
def pn : List Int → Nat → Bool
  | [], _ => false
  | s :: l, j => near s.toNat j ^^ pn l j
theorem lst_cov (x : Nat → Bool) : ∀ (d i j : Nat), (cov x i j ^^ pn (lst x i d) j) = cov x (i + d) j
  | 0, i, j => by simp [lst, pn]
  | d + 1, i, j => by
    rw [show i + (d + 1) = (i + 1) + d by omega, ← lst_cov x d (i + 1) j, cov_succ]
    simp only [lst]
    cases x i
    · simp
    · simp [pn, Bool.xor_assoc]
theorem lst_pn (x : Nat → Bool) (n j : Nat) : pn (lst x 0 n) j = cov x n j := by
  have := lst_cov x n 0 j
  rw [cov_zero, Bool.false_xor, Nat.zero_add] at this
  exact this
theorem lst_mem (x : Nat → Bool) : ∀ (d i : Nat) (y : Int), y ∈ lst x i d ↔ ∃ k : Nat, y = (k : Int) ∧ i ≤ k ∧ k < i + d ∧ x k = true
  | 0, i, y => by simp [lst]; intro k _ h1 h2; omega
  | d + 1, i, y => by
    simp only [lst, List.mem_append, lst_mem x d (i + 1) y]
    constructor
    · rintro (h | ⟨k, h1, h2, h3, h4⟩)
      · split at h
        · rename_i c
          simp only [List.mem_cons, List.not_mem_nil, or_false] at h
          exact ⟨i, h, by omega, by omega, c⟩
        · simp at h
      · exact ⟨k, h1, by omega, by omega, h4⟩
    · rintro ⟨k, h1, h2, h3, h4⟩
      by_cases e : k = i
      · subst e; left; rw [if_pos h4]; simp [h1]
      · right; exact ⟨k, h1, by omega, by omega, h4⟩
theorem lst_len (x : Nat → Bool) : ∀ (d i : Nat), (lst x i d).length ≤ d
  | 0, _ => by simp [lst]
  | d + 1, i => by
    have := lst_len x d (i + 1)
    simp only [lst, List.length_append]
    split <;> simp <;> omega
theorem lst_rise (x : Nat → Bool) : ∀ (d i : Nat), (lst x i d).Pairwise (· < ·)
  | 0, _ => by simp [lst]
  | d + 1, i => by
    simp only [lst]
    split
    · rw [List.singleton_append, List.pairwise_cons]
      exact ⟨fun y hy => by obtain ⟨k, h1, h2, _, _⟩ := (lst_mem x d (i + 1) y).1 hy; omega, lst_rise x d (i + 1)⟩
    · exact lst_rise x d (i + 1)
theorem cha_lin (D : Nat → Bool) (f : Bool) : ∀ i, (cha D (!f) i).1 = ((cha D f i).1 ^^ (cha (fun _ => false) true i).1) ∧ (cha D (!f) i).2 = ((cha D f i).2 ^^ (cha (fun _ => false) true i).2)
  | 0 => by cases f <;> exact ⟨rfl, rfl⟩
  | i + 1 => by
    obtain ⟨h1, h2⟩ := cha_lin D f i
    refine ⟨h2, ?_⟩
    simp only [cha]
    rw [h1, h2]
    generalize D i = a; generalize (cha D f i).1 = b; generalize (cha D f i).2 = c; generalize (cha (fun _ => false) true i).1 = d; generalize (cha (fun _ => false) true i).2 = e
    cases a <;> cases b <;> cases c <;> cases d <;> cases e <;> rfl
theorem who_lin (D : Nat → Bool) (f : Bool) (i : Nat) : who D (!f) i = (who D f i ^^ who (fun _ => false) true i) := (cha_lin D f i).2
theorem who_three : ∀ n : Nat, n < 41 → who (fun _ => false) true n = !decide (n % 3 = 2) := by decide
end Go.Proofs.YtnkklkpbchffkaaGreatDoor.Pl
