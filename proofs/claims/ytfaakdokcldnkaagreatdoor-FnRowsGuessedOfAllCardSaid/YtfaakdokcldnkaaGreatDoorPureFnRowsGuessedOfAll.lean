/- The law FnRowsGuessedOfAll, pure: what the printed functions answer, and that it is what the law asks. No condition. -/
import Derived.Test.YtfaakdokcldnkaaGreatDoorStatFnRowsGuessedOfAll
import Derived.Test.YtfaakdokcldnkaaGreatDoorPlAllFnRowsGuessedOfAll
namespace Go.Proofs.YtfaakdokcldnkaaGreatDoor.Pure
open Go.RowKit Go.Proofs.YtfaakdokcldnkaaGreatDoor.PFnRowsGuessedOfAll Go.Proofs.YtfaakdokcldnkaaGreatDoorW.PrintWords Go.Proofs.YtfaakdokcldnkaaGreatDoorW.PrintMore Go.Proofs.YtfaakdokcldnkaaGreatDoor.Opn Go.Proofs.YtfaakdokcldnkaaGreatDoor.Pl
set_option linter.unusedVariables false
set_option linter.unusedSimpArgs false
theorem in_eq (a b c : Int) : impl_in.f a b c = some (decide (b ≤ a ∧ a ≤ c)) := by
 unfold impl_in.f; by_cases h : b ≤ a <;> simp [h]
theorem zrb (a b c : Int) : spec_l1In.f a b c = some (decide (b ≤ a ∧ a ≤ c)) := by
 unfold spec_l1In.f; by_cases h : b ≤ a <;> simp [h]
theorem zub (n : Int) : spec_pzSoldiers.f n = some (decide (1 ≤ n ∧ n ≤ 8)) := by
 unfold spec_pzSoldiers.f; rw [zrb]; rfl
theorem zgf {n : Int} (h : 1 ≤ n ∧ n ≤ 8) (k a b c : Int) : spec_pzClue.f n k a b c = some (cok n k a b c) := by
 unfold spec_pzClue.f cok
 rw [za (x := n - 1) (by omega) (by omega)]
 simp only [zrb, Option.bind_some, zxf, zve]
 repeat' split
 all_goals first | rfl | simp_all
theorem zna (n : Int) : impl_isHidden.f n = some (decide (1 ≤ n ∧ n ≤ 8)) := by
 unfold impl_isHidden.f; rw [in_eq]; rfl
theorem zla (n k a b c : Int) : impl_isClue.f n k a b c = some (decide (1 ≤ n ∧ n ≤ 8) && cok n k a b c) := by
 unfold impl_isClue.f cok
 simp only [zna, in_eq, Option.bind_some, zxf, zve]
 by_cases h : 1 ≤ n ∧ n ≤ 8
 ·rw [za (x := n - 1) (by omega) (by omega)]
  simp only [h, and_self, decide_true, if_true, Bool.true_and]
  repeat' split
  all_goals first | rfl | simp_all
 ·simp [h]
def cokS (n : Int) (x : S42) : Bool := cok n x.f0 x.f1 x.f2 x.f3
def pgood (n : Int) (l : List S42) : Bool := decide (1 ≤ n ∧ n ≤ 8) && (decide (l.length ≤ 6) && l.all (cokS n))
theorem zv {l : List S42} {i : Nat} (h : i < l.length) : rd_T42 l (i : Int) = l[i] := by simp [rd_T42, h]
theorem zpd (n : Int) (l : List S42) (i : Nat) (h : i < l.length) : (l.drop i).all (cokS n) = (cok n (rd_T42 l (i : Int)).f0 (rd_T42 l (i : Int)).f1 (rd_T42 l (i : Int)).f2 (rd_T42 l (i : Int)).f3 && (l.drop (i + 1)).all (cokS n)) := by
 rw [List.drop_eq_getElem_cons h, zv h]; rfl
theorem zwc {n : Int} (h : 1 ≤ n ∧ n ≤ 8) (l : List S42) (hl : l.length ≤ 4398046510976) : ∀ (d i : Nat), i + d = l.length → Ev (fun k => spec_pzGood.l0 k l (l.length : Int) (i : Int) n l) ((l.drop i).all (cokS n)) := by
 intro d
 induction d with
 | zero =>
  intro i hi
  refine Ev.succ ?_
  simp only [spec_pzGood.l0]
  refine Ev.neg (by omega) (Ev.const ?_)
  rw [List.drop_of_length_le (by omega)]; rfl
 | succ d ih =>
  intro i hi
  refine Ev.succ ?_
  simp only [spec_pzGood.l0, zgf h, Option.bind_some]
  refine Ev.pos (by omega) (Ev.pos (by omega) (Ev.pos (by omega) ?_))
  rw [za (x := (i : Int) + 1) (by omega) (by omega), zpd n l i (by omega)]
  refine Ev.iff (fun hc => ?_) (fun hc => ?_)
  ·rw [hc, Bool.true_and]; exact ih (i + 1) (by omega)
  ·rw [Bool.not_eq_true] at hc; rw [hc, Bool.false_and]; exact Ev.now _
theorem ze (n : Int) (l : List S42) (hl : l.length ≤ 4398046510976) : Ev (fun k => spec_pzGood.f k n l) (pgood n l) := by
 unfold spec_pzGood.f pgood
 simp only [zub, Option.bind_some]
 refine Ev.iff (fun hc => ?_) (fun hc => ?_)
 ·have hc' := of_decide_eq_true hc
  refine Ev.succ ?_
  simp only [spec_pzGood.j0]
  by_cases h6 : l.length ≤ 6
  ·refine Ev.neg (by simp; omega) ?_
   rw [hc, decide_eq_true h6, Bool.true_and, Bool.true_and]
   exact zwc hc' l hl l.length 0 (by omega)
  ·refine Ev.pos (by simp; omega) (Ev.const ?_)
   rw [decide_eq_false h6, Bool.false_and, Bool.and_false]
 ·refine Ev.succ ?_
  simp only [spec_pzGood.j0, if_true]
  refine Ev.const ?_
  rw [Bool.not_eq_true] at hc
  rw [hc, Bool.false_and]
theorem zie {n : Int} (h : 1 ≤ n ∧ n ≤ 8) (l : List S42) (hl : l.length ≤ 5000000000000) : ∀ (d i : Nat), i + d = l.length → ∃ r : Int, Ev (fun k => impl_isPuzzle_idx.l0 k n l (i : Int)) r ∧ decide (0 ≤ r) = !(l.drop i).all (cokS n) := by
 intro d
 induction d with
 | zero =>
  intro i hi
  refine ⟨-1, Ev.succ ?_, ?_⟩
  ·simp only [impl_isPuzzle_idx.l0]
   exact Ev.neg (by omega) (Ev.now _)
  ·rw [List.drop_of_length_le (by omega)]; rfl
 | succ d ih =>
  intro i hi
  obtain ⟨r, h1, h2⟩ := ih (i + 1) (by omega)
  have hs := zpd n l i (by omega)
  cases hc : cok n (rd_T42 l (i : Int)).f0 (rd_T42 l (i : Int)).f1 (rd_T42 l (i : Int)).f2 (rd_T42 l (i : Int)).f3 with
  | true =>
   rw [hc, Bool.true_and] at hs
   refine ⟨r, Ev.succ ?_, by rw [hs]; exact h2⟩
   simp only [impl_isPuzzle_idx.l0, impl_isPuzzle_clo.f, zla, hc, decide_eq_true h, Option.bind_some]
   refine Ev.pos (by omega) (Ev.pos (by omega) (Ev.neg (by simp) ?_))
   rw [za (x := (i : Int) + 1) (by omega) (by omega)]
   exact h1
  | false =>
   rw [hc, Bool.false_and] at hs
   refine ⟨(i : Int), Ev.succ ?_, by rw [hs]; simp⟩
   simp only [impl_isPuzzle_idx.l0, impl_isPuzzle_clo.f, zla, hc, Option.bind_some]
   exact Ev.pos (by omega) (Ev.pos (by omega) (Ev.pos (by simp) (Ev.now _)))
theorem zg (n : Int) (l : List S42) (hl : l.length ≤ 5000000000000) : Ev (fun k => impl_isPuzzle.f k n l) (pgood n l) := by
 unfold impl_isPuzzle.f pgood
 simp only [zna, Option.bind_some]
 refine Ev.iff (fun h1 => ?_) (fun h1 => ?_)
 ·have h1' := of_decide_eq_true h1
  rw [h1, Bool.true_and]
  by_cases h6 : l.length ≤ 6
  ·refine Ev.pos (by omega) ?_
   rw [decide_eq_true h6, Bool.true_and]
   obtain ⟨r, e1, e2⟩ := zie h1' l (by omega) l.length 0 (by omega)
   unfold impl_isPuzzle_has.f
   refine Ev.bind (Ev.bind e1 (Ev.now _)) (Ev.const ?_)
   rw [e2, List.drop_zero, Bool.not_not]
  ·refine Ev.neg (by omega) (Ev.const ?_)
   rw [decide_eq_false h6, Bool.false_and]
 ·rw [Bool.not_eq_true] at h1
  rw [h1, Bool.false_and]
  exact Ev.now _
def dcl (n : Int) (l : List S42) (k : Int) : Int × List S42 × Bool := if pgood n l = true ∧ 0 ≤ k ∧ k ≤ (l.length : Int) - 1 then (n, l.eraseIdx k.toNat, true) else (0, [], false)
theorem zgb (n : Int) (l : List S42) (k : Int) (hl : l.length ≤ 4398046510976) : Ev (fun q => impl_DropClue.f q n l k) (dcl n l k) := by
 unfold impl_DropClue.f dcl
 refine Ev.bind (zg n l (by omega)) ?_
 rw [za (x := (l.length : Int) - 1) (by omega) (by omega)]
 simp only [in_eq, Option.bind_some]
 cases hg : pgood n l with
 | false => simp only [Bool.false_eq_true, if_false, false_and]; exact Ev.now _
 | true =>
  simp only [if_true, true_and]
  by_cases h : 0 ≤ k ∧ k ≤ (l.length : Int) - 1
  ·simp only [h, and_self, decide_true, if_true]
   refine Ev.const ?_
   have h6 : l.length ≤ 6 := by
    have hq := hg
    unfold pgood at hq
    simp only [Bool.and_eq_true, decide_eq_true_eq] at hq
    exact hq.2.1
   have e : impl_without.f l k = some (l.eraseIdx k.toNat) := by
    unfold impl_without.f
    first | unfold impl_Clue.f | unfold impl_Clue_60.f
    rw [if_pos (by omega)]
    simp only [Option.bind_some]
    rw [if_pos ⟨h.1, by omega, by omega⟩]
   rw [e]; rfl
  ·rw [if_neg h, decide_eq_false h]
   simp only [Bool.false_eq_true, if_false]
   exact Ev.now _
theorem zja (s : ByteArray) (hs : s.size ≤ 140737488351232) : impl_isRow.f s = some (rgood (L s)) := by
 have hl := zpa s
 unfold impl_isRow.f rgood strings_Trim.f
 simp only [in_eq, Option.bind_some]
 by_cases h : 1 ≤ (L s).length ∧ (L s).length ≤ 60
 ·rw [if_pos (by rw [decide_eq_true_eq]; omega), if_pos ⟨by omega, by decide, by decide⟩, decide_eq_true h, Bool.true_and, Option.bind_some, zi, L_mk]
  congr 1
  by_cases ha : (L s).all sgn = true
  ·rw [ha]
   exact beq_iff_eq.2 ((zrd (L s)).2 ha)
  ·rw [Bool.not_eq_true] at ha
   rw [ha, beq_eq_false_iff_ne]
   intro e
   have := (zrd (L s)).1 e
   rw [ha] at this
   exact absurd this (by decide)
 ·rw [if_neg (by rw [decide_eq_true_eq]; omega), decide_eq_false h, Bool.false_and]
theorem zj (l : List UInt8) (h : l.length ≤ 1000) : impl_isAtRest.f (up l) = some (!fac l) := by
 have hs := zb l
 unfold impl_isAtRest.f strings_Contains.f
 rw [if_pos (by omega), Option.bind_some]
 show some (!(Lib.contains (L (up l)) [62, 60])) = _
 rw [L_mk, zkc]
theorem zqc (l : List UInt8) (h : l.length ≤ 1000) : impl_tick.f (up l) = some (up (twk l)) := by
 have hs := zb l
 unfold impl_tick.f strings_ReplaceAll.f
 have hc : Lib.countB (up l) ⟨#[62, 60]⟩ ≤ l.length + 1 := by
  have := Lib.count_le (L (up l)) [62, 60]
  rw [L_mk] at this
  exact Nat.le_trans (by rw [Lib.countB]; show Lib.count (L (up l)) [62, 60] ≤ _; rw [L_mk]; exact Nat.le_refl _) this
 have e2 : (⟨#[60, 62]⟩ : ByteArray).size = 2 := rfl
 rw [if_pos ⟨by omega, by decide, by rw [e2]; omega⟩, Option.bind_some]
 show some (up (Lib.replaceAll (L (up l)) [62, 60] [60, 62])) = _
 rw [L_mk, zxa]
theorem zzb (l : List UInt8) (h : l.length ≤ 1000) : ∀ (d i : Nat) (acc : List Int), i + d = l.length → acc.length ≤ i → Ev (fun k => spec_rwPairs.l0 k (up l) acc (i : Int)) (acc ++ prs i (l.drop i)) := by
 intro d
 induction d with
 | zero =>
  intro i acc hi ha
  refine Ev.succ ?_
  simp only [spec_rwPairs.l0, zd]
  rw [za (x := (i : Int) + 1) (by omega) (by omega), zpc l i (by omega), List.append_nil]
  exact Ev.neg (by omega) (Ev.now _)
 | succ d ih =>
  intro i acc hi ha
  refine Ev.succ ?_
  simp only [spec_rwPairs.l0, zd]
  rw [za (x := (i : Int) + 1) (by omega) (by omega)]
  refine Ev.iff (fun h1 => ?_) (fun h1 => ?_)
  ·rw [zeg l i (by omega)]
   refine Ev.pos (by omega) (Ev.pos (by omega) ?_)
   have h2 : i + 1 < l.length := by omega
   have e1 := ih (i + 1) acc (by omega) (by omega)
   refine Ev.iff (fun c1 => ?_) (fun c1 => ?_)
   ·rw [up62 l i (by omega)] at c1
    refine Ev.pos (by omega) (Ev.iff (fun c2 => ?_) (fun c2 => ?_))
    ·rw [show ((i : Int) + 1) = ((i + 1 : Nat) : Int) by omega, up60 l (i + 1) h2] at c2
     refine Ev.pos (by omega) ?_
     rw [if_pos ⟨c1, c2⟩]
     have := ih (i + 1) (acc ++ [(i : Int)]) (by omega) (by simp; omega)
     rw [← List.append_assoc]; exact this
    ·rw [show ((i : Int) + 1) = ((i + 1 : Nat) : Int) by omega, up60 l (i + 1) h2] at c2
     rw [if_neg (fun c => c2 c.2), List.nil_append]; exact e1
   ·rw [up62 l i (by omega)] at c1
    rw [if_neg (fun c => c1 c.1), List.nil_append]; exact e1
  ·rw [zpc l i (by omega), List.append_nil]; exact Ev.now _
theorem zk (l : List UInt8) (h : l.length ≤ 1000) : Ev (fun k => spec_rwPairs.f k (up l)) (prs 0 l) := by
 unfold spec_rwPairs.f
 have := zzb l h l.length 0 [] (by omega) (by simp)
 simpa using this
theorem zad (l : List UInt8) (h : l.length ≤ 1000) : ∀ (d i : Nat) (acc : List Int), i + d + 1 = l.length → acc.length ≤ i → Ev (fun k => impl_facing.l0 k (up l) acc ((l.length : Int) - 1) (i : Int)) (acc ++ prs i (l.drop i)) := by
 intro d
 induction d with
 | zero =>
  intro i acc hi ha
  refine Ev.succ ?_
  simp only [impl_facing.l0, zd]
  rw [zpc l i (by omega), List.append_nil]
  exact Ev.neg (by omega) (Ev.now _)
 | succ d ih =>
  intro i acc hi ha
  refine Ev.succ ?_
  simp only [impl_facing.l0, zd]
  rw [za (x := (i : Int) + 1) (by omega) (by omega)]
  refine Ev.pos (by omega) ?_
  rw [zeg l i (by omega)]
  refine Ev.pos (by omega) (Ev.pos (by omega) ?_)
  have h2 : i + 1 < l.length := by omega
  have e1 := ih (i + 1) acc (by omega) (by omega)
  refine Ev.iff (fun c1 => ?_) (fun c1 => ?_)
  ·rw [up62 l i (by omega)] at c1
   refine Ev.pos (by omega) (Ev.pos (by omega) (Ev.iff (fun c2 => ?_) (fun c2 => ?_)))
   ·rw [show ((i : Int) + 1) = ((i + 1 : Nat) : Int) by omega, up60 l (i + 1) h2] at c2
    refine Ev.pos (by omega) ?_
    rw [if_pos ⟨c1, c2⟩]
    have := ih (i + 1) (acc ++ [(i : Int)]) (by omega) (by simp; omega)
    rw [← List.append_assoc]; exact this
   ·rw [show ((i : Int) + 1) = ((i + 1 : Nat) : Int) by omega, up60 l (i + 1) h2] at c2
    rw [if_neg (fun c => c2 c.2), List.nil_append]; exact e1
  ·rw [up62 l i (by omega)] at c1
   rw [if_neg (fun c => c1 c.1), List.nil_append]; exact e1
theorem zyb (l : List UInt8) (h1 : 1 ≤ l.length) (h : l.length ≤ 1000) : Ev (fun k => impl_facing.f k (up l)) (prs 0 l) := by
 unfold impl_facing.f
 rw [zd, za (x := (l.length : Int) - 1) (by omega) (by omega)]
 have := zad l h (l.length - 1) 0 [] (by omega) (by simp)
 simpa using this
theorem zsc (ps : List Int) (hps : ps.length ≤ 1000) (n : Nat) (hn : n ≤ 1000) (hp : ∀ p ∈ ps, 0 ≤ p ∧ p + 1 < n) : ∀ (d i : Nat) (c : List UInt8), i + d = ps.length → c.length = n → Ev (fun k => spec_rwTick.l0 k (up c) ps (ps.length : Int) (i : Int)) (up ((ps.drop i).foldl trn c)) := by
 intro d
 induction d with
 | zero =>
  intro i c hi hc
  refine Ev.succ ?_
  simp only [spec_rwTick.l0]
  rw [List.drop_of_length_le (by omega)]
  exact Ev.neg (by omega) (Ev.now _)
 | succ d ih =>
  intro i c hi hc
  have hlt : i < ps.length := by omega
  have hm := hp (rd ps (i : Int)) (zoh hlt)
  obtain ⟨q, hq⟩ : ∃ q : Nat, rd ps (i : Int) = q := ⟨(rd ps (i : Int)).toNat, by omega⟩
  refine Ev.succ ?_
  simp only [spec_rwTick.l0, hq]
  rw [zn hlt, List.foldl_cons, za (x := (i : Int) + 1) (by omega) (by omega), za (x := (q : Int) + 2) (by omega) (by omega), Int.toNat_natCast, show ((q : Int) + 2).toNat = q + 2 by omega, zki, zre]
  have e1 : up (c.take q) ++ (⟨#[60, 62]⟩ : ByteArray) = up (c.take q ++ [60, 62]) := zo _ [60, 62]
  simp only [e1, zo, zd]
  have e2 : (up (List.take q c)).size ≤ 1000 := by rw [zb]; simp; omega
  have e3 : (up (List.take q c ++ [60, 62])).size ≤ 1002 := by rw [zb]; simp; omega
  have e4 : (up (List.drop (q + 2) c)).size ≤ 1000 := by rw [zb]; simp; omega
  refine Ev.pos (by omega) (Ev.pos (by omega) (Ev.pos (by omega) (Ev.pos (by omega) (Ev.pos (by omega) (Ev.pos (by omega) (Ev.pos (by omega) (Ev.pos (by omega) (Ev.pos (by omega) ?_))))))))
  have e5 : List.take q c ++ [60, 62] ++ List.drop (q + 2) c = trn c (rd ps (i : Int)) := by rw [hq]; rfl
  rw [e5]
  exact ih (i + 1) _ (by omega) (by rw [zei _ _ (by omega) (by omega)]; exact hc)
theorem zy (l : List UInt8) (h : l.length ≤ 1000) : Ev (fun k => spec_rwTick.f k (up l)) (up (twk l)) := by
 unfold spec_rwTick.f
 refine Ev.bind (zk l h) ?_
 have hl := zsb l 0
 have := zsc (prs 0 l) (by omega) l.length h (fun p hp => by have := zfc l 0 p hp; omega) (prs 0 l).length 0 l (by omega) rfl
 rw [List.drop_zero, zlf] at this
 exact this
theorem zfd (l : List UInt8) (h : l.length ≤ 1000) : wt l ≤ 1000000 := Nat.le_trans (wt_sq l) (Nat.mul_le_mul h h)
theorem zda (l : List UInt8) : (((prs 0 l).length : Int) > 0) ↔ fac l = true := by
 have := zaf l 0
 constructor
 ·intro h
  rw [← Bool.not_eq_false, ← this]
  intro e; rw [e] at h; simp at h
 ·intro h
  have : prs 0 l ≠ [] := by rw [Ne, this]; simp [h]
  have := List.length_pos_iff.2 this
  omega
theorem zxc : ∀ (f : Nat) (l : List UInt8) (n : Int), l.length ≤ 1000 → wt l ≤ f → 0 ≤ n → n + f ≤ 1000000000 → Ev (fun k => spec_rwRest.l0 k (up l) n) (up (rst f l).1, n + ((rst f l).2 : Int)) := by
 intro f
 induction f with
 | zero =>
  intro l n hl hw h0 h1
  have hf : fac l = false := by
   rw [← Bool.not_eq_true]; intro hf; have := (wt_le l).2 hf; omega
  refine Ev.succ ?_
  simp only [spec_rwRest.l0]
  refine Ev.bind (zk l hl) (Ev.neg (by rw [zda, hf]; decide) ?_)
  simp only [rst]
  refine Ev.const ?_
  simp
 | succ f ih =>
  intro l n hl hw h0 h1
  refine Ev.succ ?_
  simp only [spec_rwRest.l0]
  refine Ev.bind (zk l hl) ?_
  rw [rst]
  by_cases hf : fac l = true
  ·rw [if_pos hf]
   refine Ev.pos ((zda l).2 hf) (Ev.bind (zy l hl) ?_)
   have := (wt_le l).2 hf
   rw [za (x := n + 1) (by omega) (by omega)]
   have := ih (twk l) (n + 1) (by rw [zh]; exact hl) (by omega) (by omega) (by omega)
   have e : (n + 1) + ((rst f (twk l)).2 : Int) = n + (((rst f (twk l)).2 + 1 : Nat) : Int) := by omega
   rw [e] at this
   exact this
  ·rw [if_neg hf]
   refine Ev.neg (by rw [zda]; exact hf) (Ev.const ?_)
   simp
theorem zue (l : List UInt8) (hl : l.length ≤ 1000) : Ev (fun k => spec_rwRest.f k (up l)) (up (rst 1000000 l).1, ((rst 1000000 l).2 : Int)) := by
 have := zxc 1000000 l 0 hl (zfd l hl) (by omega) (by omega)
 unfold spec_rwRest.f
 simpa using this
theorem zfe : ∀ (f : Nat) (l : List UInt8) (n : Int), l.length ≤ 1000 → wt l ≤ f → 0 ≤ n → n + f ≤ 1000000000 → Ev (fun k => impl_ticksToRest.l0 k (up l) n) (n + ((rst f l).2 : Int)) := by
 intro f
 induction f with
 | zero =>
  intro l n hl hw h0 h1
  have hf : fac l = false := by
   rw [← Bool.not_eq_true]; intro hf; have := (wt_le l).2 hf; omega
  refine Ev.succ ?_
  simp only [impl_ticksToRest.l0, zj l hl, Option.bind_some, hf, rst]
  exact Ev.const (by simp)
 | succ f ih =>
  intro l n hl hw h0 h1
  refine Ev.succ ?_
  simp only [impl_ticksToRest.l0, zj l hl, zqc l hl, Option.bind_some]
  rw [rst]
  by_cases hf : fac l = true
  ·rw [if_pos hf]
   refine Ev.neg (by simp [hf]) ?_
   have := (wt_le l).2 hf
   rw [za (x := n + 1) (by omega) (by omega)]
   have := ih (twk l) (n + 1) (by rw [zh]; exact hl) (by omega) (by omega) (by omega)
   have e : (n + 1) + ((rst f (twk l)).2 : Int) = n + (((rst f (twk l)).2 + 1 : Nat) : Int) := by omega
   rw [e] at this
   exact this
  ·rw [if_neg hf]
   exact Ev.pos (by simp [hf]) (Ev.const (by simp))
theorem zng (l : List UInt8) (hl : l.length ≤ 1000) : Ev (fun k => impl_ticksToRest.f k (up l)) ((rst 1000000 l).2 : Int) := by
 have := zfe 1000000 l 0 hl (zfd l hl) (by omega) (by omega)
 unfold impl_ticksToRest.f
 simpa using this
theorem zbe : ∀ (t : Nat) (l : List UInt8), l.length ≤ 1000 → t ≤ 1000000000 → Ev (fun k => impl_RowAfter.l0 k (up l) (t : Int)) (up (twn t l), true) := by
 intro t
 induction t with
 | zero =>
  intro l hl ht
  refine Ev.succ ?_
  simp only [impl_RowAfter.l0]
  exact Ev.neg (by omega) (Ev.now _)
 | succ t ih =>
  intro l hl ht
  refine Ev.succ ?_
  simp only [impl_RowAfter.l0, zj l hl, zqc l hl, Option.bind_some]
  refine Ev.pos (by omega) ?_
  by_cases hf : fac l = true
  ·refine Ev.neg (by simp [hf]) ?_
   rw [show ((t + 1 : Nat) : Int) - 1 = (t : Int) by omega, za (x := (t : Int)) (by omega) (by omega), twn]
   exact ih (twk l) (by rw [zh]; exact hl) (by omega)
  ·rw [Bool.not_eq_true] at hf
   rw [ztd _ _ hf]
   exact Ev.pos (by simp [hf]) (Ev.now _)
theorem zog (l : List UInt8) (t : Int) (hg : rgood l = true) (h0 : 0 ≤ t) (h1 : t ≤ 1000000) : Ev (fun k => impl_RowAfter.f k (up l) t) (up (twn t.toNat l), true) := by
 have hlen : 1 ≤ l.length ∧ l.length ≤ 60 := by
  unfold rgood at hg
  rw [Bool.and_eq_true, decide_eq_true_eq] at hg
  exact hg.1
 unfold impl_RowAfter.f
 rw [zja (up l) (by rw [zb]; omega), L_mk, hg]
 simp only [Option.bind_some, if_true, in_eq]
 refine Ev.succ ?_
 simp only [impl_RowAfter.j0]
 refine Ev.neg (by simp; omega) ?_
 have := zbe t.toNat l (by omega) (by omega)
 rw [Int.toNat_of_nonneg h0] at this
 exact this
theorem ztg (ps : List Int) (hps : ps.length ≤ 1000000) : ∀ (d i : Nat) (o : List Int), i + d = ps.length → (∀ p ∈ ps, 0 ≤ p ∧ p + 1 < (o.length : Int)) → Ev (fun k => impl_TurnsOfEach_clo.l0 k ps (i : Int) o) ((ps.drop i).foldl bump o) := by
 intro d
 induction d with
 | zero =>
  intro i o hi hp
  refine Ev.succ ?_
  simp only [impl_TurnsOfEach_clo.l0]
  rw [List.drop_of_length_le (by omega)]
  exact Ev.neg (by omega) (Ev.now _)
 | succ d ih =>
  intro i o hi hp
  have hlt : i < ps.length := by omega
  have hm := hp (rd ps (i : Int)) (zoh hlt)
  refine Ev.succ ?_
  simp only [impl_TurnsOfEach_clo.l0]
  rw [zn hlt, List.foldl_cons, za (x := (i : Int) + 1) (by omega) (by omega)]
  refine Ev.pos (by omega) (Ev.pos (by omega) (Ev.pos (by omega) (Ev.pos (by omega) ?_)))
  exact ih (i + 1) (bump o (rd ps (i : Int))) (by omega) (fun p hp' => by rw [zwb]; exact hp p hp')
theorem zui (l : List UInt8) (o : List Int) (h1 : 1 ≤ l.length) (hl : l.length ≤ 1000) (ho : o.length = l.length) : Ev (fun k => impl_TurnsOfEach_clo.f k (up l) o) ((prs 0 l).foldl bump o) := by
 unfold impl_TurnsOfEach_clo.f
 refine Ev.bind (zyb l h1 hl) ?_
 have hle := zsb l 0
 have := ztg (prs 0 l) (by omega) (prs 0 l).length 0 o (by omega) (fun p hp => by have := zfc l 0 p hp; omega)
 rw [List.drop_zero] at this
 exact this
theorem zce : ∀ (f : Nat) (l : List UInt8) (o : List Int) (B : Int), 1 ≤ l.length → l.length ≤ 1000 → wt l ≤ f → o.length = l.length → 0 ≤ B → B + f ≤ 800000000 → (∀ q, 0 ≤ rd o q ∧ rd o q ≤ B) →
  ∃ o2 : List Int, Ev (fun k => impl_TurnsOfEach.l0 k (up l) o) o2 ∧ o2.length = l.length ∧ ∀ a, 0 ≤ a → rd o2 a = rd o a + trc f a l := by
 intro f
 induction f with
 | zero =>
  intro l o B h1 hl hw ho h0 hB hq
  have hf : fac l = false := by
   rw [← Bool.not_eq_true]; intro hf; have := (wt_le l).2 hf; omega
  refine ⟨o, Ev.succ ?_, ho, fun a _ => by simp [trc]⟩
  simp only [impl_TurnsOfEach.l0, zj l hl, Option.bind_some, hf]
  exact Ev.now _
 | succ f ih =>
  intro l o B h1 hl hw ho h0 hB hq
  by_cases hf : fac l = true
  ·have hlt := (wt_le l).2 hf
   have hfold := zef (prs 0 l) o B (zga l 0) (fun p hp => by have := zfc l 0 p hp; omega) h0 (by omega) (fun p _ => ⟨hq p, hq (p + 1)⟩) (fun q => by have := hq q; omega)
   have hneg : ∀ (o : List Int) (q : Int), q < 0 → rd o q = rd o 0 := fun o q h => by simp [rd, Int.toNat_of_nonpos (Int.le_of_lt h)]
   obtain ⟨o2, e1, e2, e3⟩ := ih (twk l) ((prs 0 l).foldl bump o) (B + 1) (by rw [zh]; exact h1) (by rw [zh]; exact hl) (by omega) (by rw [zba, zh]; exact ho) (by omega) (by omega) (fun q => by
    by_cases h : 0 ≤ q
    ·rw [hfold q h]; have := hq q; split <;> omega
    ·rw [hneg _ q (by omega), hfold 0 (by omega)]; have := hq 0; split <;> omega)
   refine ⟨o2, Ev.succ ?_, by rw [e2, zh], fun a ha => ?_⟩
   ·simp only [impl_TurnsOfEach.l0, zj l hl, zqc l hl, Option.bind_some]
    refine Ev.neg (by simp [hf]) (Ev.bind (zui l o h1 hl ho) ?_)
    exact e1
   ·rw [e3 a ha, hfold a ha, trc, if_pos hf]; omega
  ·rw [Bool.not_eq_true] at hf
   refine ⟨o, Ev.succ ?_, ho, fun a _ => by simp [trc, hf]⟩
   simp only [impl_TurnsOfEach.l0, zj l hl, Option.bind_some, hf]
   exact Ev.now _
theorem zbh (l : List UInt8) (hg : rgood l = true) : ∃ o : List Int, Ev (fun k => impl_TurnsOfEach.f k (up l)) (o, true) ∧ o.length = l.length ∧ ∀ a, 0 ≤ a → rd o a = trc 1000000 a l := by
 have hlen : 1 ≤ l.length ∧ l.length ≤ 60 := by
  unfold rgood at hg
  rw [Bool.and_eq_true, decide_eq_true_eq] at hg
  exact hg.1
 have hz : ∀ q : Int, rd (List.replicate l.length (0 : Int)) q = 0 := fun q => by simp [rd, List.getElem?_replicate]; split <;> rfl
 obtain ⟨o, e1, e2, e3⟩ := zce 1000000 l (List.replicate l.length 0) 0 hlen.1 (by omega) (Nat.le_trans (wt_sq l) (Nat.mul_le_mul (show l.length ≤ 1000 by omega) (show l.length ≤ 1000 by omega))) (by simp) (by omega) (by omega) (fun q => by rw [hz q]; omega)
 refine ⟨o, ?_, e2, fun a ha => by rw [e3 a ha, hz]; omega⟩
 unfold impl_TurnsOfEach.f
 rw [zja (up l) (by rw [zb]; omega), L_mk, hg]
 simp only [Option.bind_some, if_true]
 refine Ev.pos (by rw [zb]; omega) ?_
 rw [zb]
 exact Ev.bind e1 (Ev.now _)
theorem zyd (a : Int) (ps : List Int) (hps : ps.length ≤ 1000000) : ∀ (d i : Nat), i + d = ps.length → Ev (fun k => spec_l1Has.l0 k a ps (ps.length : Int) (i : Int)) (decide (a ∈ ps.drop i)) := by
 intro d
 induction d with
 | zero =>
  intro i hi
  refine Ev.succ ?_
  simp only [spec_l1Has.l0]
  rw [List.drop_of_length_le (by omega)]
  exact Ev.neg (by omega) (Ev.const (by simp))
 | succ d ih =>
  intro i hi
  have hlt : i < ps.length := by omega
  refine Ev.succ ?_
  simp only [spec_l1Has.l0]
  rw [zn hlt, za (x := (i : Int) + 1) (by omega) (by omega)]
  refine Ev.pos (by omega) (Ev.pos (by omega) (Ev.pos (by omega) (Ev.iff (fun hc => ?_) (fun hc => ?_))))
  ·exact Ev.const (by simp [hc])
  ·have := ih (i + 1) (by omega)
   have e : decide (a ∈ rd ps (i : Int) :: ps.drop (i + 1)) = decide (a ∈ ps.drop (i + 1)) := by
    apply decide_eq_decide.2
    rw [List.mem_cons]
    exact ⟨fun h => h.resolve_left (fun e => hc e.symm), .inr⟩
   rw [e]; exact this
theorem znd (a : Int) (ps : List Int) (hps : ps.length ≤ 1000000) : Ev (fun k => spec_l1Has.f k ps a) (decide (a ∈ ps)) := by
 have := zyd a ps hps ps.length 0 (by omega)
 rw [List.drop_zero] at this
 exact this
theorem zeh (l : List UInt8) (a : Int) (h0 : 0 ≤ a) (h1 : a < (l.length : Int)) : (bt (up l) a = 62) ↔ l[a.toNat]? = some 62 := by
 obtain ⟨i, rfl⟩ : ∃ i : Nat, a = i := ⟨a.toNat, by omega⟩
 rw [up62 l i (by omega), Int.toNat_natCast, List.getElem?_eq_getElem (by omega), Option.some.injEq]
theorem zqf (a : Int) : ∀ (t : Nat) (l : List UInt8), l.length ≤ 1000 → t ≤ 1000000000 → 0 ≤ a → a < (l.length : Int) → Ev (fun k => spec_pzValue.l0 k a (t : Int) (up l) 0) (if (twn t l)[a.toNat]? = some 62 then 1 else 0) := by
 intro t
 induction t with
 | zero =>
  intro l hl ht h0 h1
  refine Ev.succ ?_
  simp only [spec_pzValue.l0, zd]
  refine Ev.neg (by omega) (Ev.pos h0 (Ev.pos h1 ?_))
  rw [twn]
  refine Ev.iff (fun hc => ?_) (fun hc => ?_)
  ·rw [zeh l a h0 h1] at hc; rw [if_pos hc]; exact Ev.now _
  ·rw [zeh l a h0 h1] at hc; rw [if_neg hc]; exact Ev.now _
 | succ t ih =>
  intro l hl ht h0 h1
  refine Ev.succ ?_
  simp only [spec_pzValue.l0]
  refine Ev.pos (by omega) (Ev.bind (zy l hl) ?_)
  rw [show ((t + 1 : Nat) : Int) - 1 = (t : Int) by omega, za (x := (t : Int)) (by omega) (by omega), twn]
  exact ih (twk l) (by rw [zh]; exact hl) (by omega) h0 (by rw [zh]; exact h1)
theorem zae (l : List UInt8) (hl : l.length ≤ 1000) : ∀ (d i : Nat) (n : Int), i + d = l.length → 0 ≤ n → n ≤ i → Ev (fun k => spec_pzValue.l1 k (up l) n (i : Int)) (n + ((l.drop i).count 62 : Int)) := by
 intro d
 induction d with
 | zero =>
  intro i n hi h0 h1
  refine Ev.succ ?_
  simp only [spec_pzValue.l1, zd]
  rw [List.drop_of_length_le (by omega)]
  exact Ev.neg (by omega) (Ev.const (by simp))
 | succ d ih =>
  intro i n hi h0 h1
  have hlt : i < l.length := by omega
  refine Ev.succ ?_
  simp only [spec_pzValue.l1, zd]
  rw [List.drop_eq_getElem_cons hlt, List.count_cons, za (x := (i : Int) + 1) (by omega) (by omega), za (x := n + 1) (by omega) (by omega)]
  refine Ev.pos (by omega) (Ev.pos (by omega) (Ev.iff (fun hc => ?_) (fun hc => ?_)))
  ·rw [up62 l i hlt] at hc
   have := ih (i + 1) (n + 1) (by omega) (by omega) (by omega)
   rw [if_pos (by simp [hc])]
   have e : (n + 1) + ((l.drop (i + 1)).count 62 : Int) = n + (((l.drop (i + 1)).count 62 + 1 : Nat) : Int) := by omega
   rw [e] at this; exact this
  ·rw [up62 l i hlt] at hc
   have := ih (i + 1) n (by omega) (by omega) (by omega)
   rw [if_neg (by simpa using hc)]
   exact this
theorem zah (a : Int) (ha : 0 ≤ a) (ha1 : a ≤ 1000000) : ∀ (f : Nat) (l : List UInt8) (n : Int), l.length ≤ 1000 → wt l ≤ f → 0 ≤ n → n + f ≤ 1000000000 → Ev (fun k => spec_pzValue.l2 k a (up l) n (prs 0 l)) (n + trc f a l) := by
 intro f
 induction f with
 | zero =>
  intro l n hl hw h0 h1
  have hf : fac l = false := by
   rw [← Bool.not_eq_true]; intro hf; have := (wt_le l).2 hf; omega
  refine Ev.succ ?_
  simp only [spec_pzValue.l2, trc]
  exact Ev.neg (by rw [zda, hf]; decide) (Ev.const (by simp))
 | succ f ih =>
  intro l n hl hw h0 h1
  refine Ev.succ ?_
  simp only [spec_pzValue.l2]
  rw [trc]
  by_cases hf : fac l = true
  ·rw [if_pos hf]
   refine Ev.pos ((zda l).2 hf) ?_
   have hlt := (wt_le l).2 hf
   have hps : (prs 0 l).length ≤ 1000000 := by have := zsb l 0; omega
   have hl' : (twk l).length ≤ 1000 := by rw [zh]; exact hl
   have yes : Ev (fun k => spec_pzValue.j3 k a (up l) n true) (n + (1 + trc f a (twk l))) := by
    refine Ev.succ ?_
    simp only [spec_pzValue.j3, if_true]
    refine Ev.bind (zy l hl) (Ev.bind (zk _ hl') ?_)
    rw [za (x := n + 1) (by omega) (by omega)]
    have := ih (twk l) (n + 1) hl' (by omega) (by omega) (by omega)
    rw [show n + (1 + trc f a (twk l)) = n + 1 + trc f a (twk l) by omega]
    exact this
   have no : Ev (fun k => spec_pzValue.j3 k a (up l) n false) (n + (0 + trc f a (twk l))) := by
    refine Ev.succ ?_
    simp only [spec_pzValue.j3]
    refine Ev.neg (by decide) (Ev.bind (zy l hl) (Ev.bind (zk _ hl') ?_))
    have := ih (twk l) n hl' (by omega) (by omega) (by omega)
    rw [Int.zero_add]
    exact this
   refine Ev.bind (znd a _ hps) ?_
   by_cases c1 : a ∈ prs 0 l
   ·rw [if_pos (.inl c1)]
    exact Ev.pos (by simp [c1]) yes
   ·refine Ev.neg (by simp [c1]) ?_
    rw [za (x := a - 1) (by omega) (by omega)]
    refine Ev.bind (znd (a - 1) _ hps) ?_
    by_cases c2 : a - 1 ∈ prs 0 l
    ·rw [if_pos (.inr c2), decide_eq_true c2]; exact yes
    ·rw [if_neg (by rintro (h | h); exact c1 h; exact c2 h), decide_eq_false c2]; exact no
  ·rw [if_neg hf]
   exact Ev.neg (by rw [zda]; exact hf) (Ev.const (by simp))
theorem zde (l : List UInt8) (k a b : Int) (hl : l.length ≤ 1000) (h : kok (l.length : Int) k a b) : Ev (fun r => spec_pzValue.f r k a b (up l)) (val k a b l) := by
 unfold spec_pzValue.f val
 by_cases h0 : k = 0
 ·simp only [if_pos h0]
  obtain ⟨_, h1, h2⟩ : k = 0 ∧ (0 ≤ a ∧ a ≤ (l.length : Int) - 1) ∧ 0 ≤ b ∧ b ≤ 20 := by unfold kok at h; omega
  have := zqf a b.toNat l hl (by omega) h1.1 (by omega)
  rw [Int.toNat_of_nonneg h2.1] at this
  exact this
 simp only [if_neg h0]
 by_cases h1 : k = 1
 ·simp only [if_pos h1]
  have := zae l hl l.length 0 0 (by omega) (by omega) (by omega)
  simpa using this
 simp only [if_neg h1]
 by_cases h2 : k = 2
 ·simp only [if_pos h2]
  exact Ev.bind (zue l hl) (Ev.now _)
 simp only [if_neg h2]
 by_cases h3 : k = 3
 ·simp only [if_pos h3]
  exact Ev.bind (zk l hl) (Ev.now _)
 simp only [if_neg h3]
 have h4 : k = 4 ∧ 0 ≤ a ∧ a ≤ (l.length : Int) - 1 := by unfold kok at h; omega
 refine Ev.bind (zk l hl) ?_
 have := zah a h4.2.1 (by omega) 1000000 l 0 hl (zfd l hl) (by omega) (by omega)
 rw [Int.zero_add] at this
 exact this
theorem zbg (l : List UInt8) (k a b c : Int) (hl : l.length ≤ 1000) (h : kok (l.length : Int) k a b) : Ev (fun r => spec_pzFits.f r k a b c (up l)) (val k a b l == c) := by
 unfold spec_pzFits.f
 exact Ev.bind (zde l k a b hl h) (Ev.now _)
theorem zmi (l : List UInt8) (k a b c : Int) (hg : rgood l = true) (h : kok (l.length : Int) k a b) : Ev (fun r => impl_Clue_told.f r k a b c (up l)) (k, a, b, val k a b l) := by
 have hlen : 1 ≤ l.length ∧ l.length ≤ 60 := by
  unfold rgood at hg
  rw [Bool.and_eq_true, decide_eq_true_eq] at hg
  exact hg.1
 unfold impl_Clue_told.f val
 by_cases h0 : k = 0
 ·simp only [if_pos h0]
  obtain ⟨_, h1, h2⟩ : k = 0 ∧ (0 ≤ a ∧ a ≤ (l.length : Int) - 1) ∧ 0 ≤ b ∧ b ≤ 20 := by unfold kok at h; omega
  refine Ev.bind (zog l b hg h2.1 (by omega)) ?_
  have e := zd (twn b.toNat l)
  rw [znb] at e
  have e2 : (bt (up (twn b.toNat l)) a = 62) ↔ (twn b.toNat l)[a.toNat]? = some 62 := by
   obtain ⟨i, hi⟩ : ∃ i : Nat, a = i := ⟨a.toNat, by omega⟩
   subst hi
   rw [up62 _ i (by rw [znb]; omega), Int.toNat_natCast, List.getElem?_eq_getElem (by rw [znb]; omega), Option.some.injEq]
  refine Ev.pos h1.1 (Ev.pos (by show a < _; rw [e]; omega) ?_)
  refine Ev.iff (fun hc => ?_) (fun hc => ?_)
  ·rw [if_pos (e2.1 hc)]; exact Ev.now _
  ·rw [if_neg (fun q => hc (e2.2 q))]; exact Ev.now _
 simp only [if_neg h0]
 by_cases h1 : k = 1
 ·simp only [if_pos h1]
  refine Ev.bind (Ev.const (show strings_Count.f (up l) (⟨#[62]⟩ : ByteArray) = some (l.count 62 : Int) from ?_)) (Ev.now _)
  show some ((Lib.countByte (L (up l)) 62 : Nat) : Int) = _
  rw [L_mk]; rfl
 simp only [if_neg h1]
 by_cases h2 : k = 2
 ·simp only [if_pos h2]
  exact Ev.bind (zng l (by omega)) (Ev.now _)
 simp only [if_neg h2]
 by_cases h3 : k = 3
 ·simp only [if_pos h3]
  exact Ev.bind (zyb l hlen.1 (by omega)) (Ev.now _)
 simp only [if_neg h3]
 have h4 : k = 4 ∧ 0 ≤ a ∧ a ≤ (l.length : Int) - 1 := by unfold kok at h; omega
 obtain ⟨o, e1, e2, e3⟩ := zbh l hg
 refine Ev.pos h4.1 (Ev.bind e1 ?_)
 refine Ev.pos h4.2.1 (Ev.pos (by show a < _; rw [e2]; omega) (Ev.const ?_))
 show some (k, a, b, rd o a) = _
 rw [e3 a h4.2.1]
theorem zle (l : List UInt8) (k a b c : Int) (hg : rgood l = true) (h : kok (l.length : Int) k a b) : Ev (fun r => impl_Clue_fits.f r k a b c (up l)) (val k a b l == c) := by
 unfold impl_Clue_fits.f
 refine Ev.bind (zmi l k a b c hg h) (Ev.const ?_)
 simp
theorem zic (l : List UInt8) (k a b c : Int) (hl : l.length ≤ 100000000) : Ev (fun r => impl_DoesFit.f r k a b c (up l)) (if (rgood l && decide (l.length ≤ 8)) = true ∧ cok (l.length : Int) k a b c = true then (val k a b l == c, true) else (false, false)) := by
 have hs := zb l
 unfold impl_DoesFit.f
 rw [zja (up l) (by omega), L_mk, zd, zla]
 simp only [Option.bind_some]
 by_cases hg : rgood l = true
 ·have hlen : 1 ≤ l.length := by
   unfold rgood at hg
   simp only [Bool.and_eq_true, decide_eq_true_eq] at hg
   omega
  rw [hg, Bool.true_and]
  refine Ev.pos rfl (Ev.iff (fun hc => ?_) (fun hc => ?_))
  ·rw [Bool.and_eq_true, decide_eq_true_eq] at hc
   rw [if_pos ⟨by rw [decide_eq_true_eq]; omega, hc.2⟩]
   exact Ev.bind (zle l k a b c hg (zph hc.2)) (Ev.now _)
  ·rw [if_neg]
   ·exact Ev.now _
   ·rintro ⟨h1, h2⟩
    rw [decide_eq_true_eq] at h1
    exact hc (by rw [h2, Bool.and_true, decide_eq_true_eq]; omega)
 ·rw [if_neg (fun h => hg (by have := h.1; rw [Bool.and_eq_true] at this; exact this.1))]
  exact Ev.neg hg (Ev.now _)
theorem zyc : ∀ (j m : Nat) (o : List UInt8), j + o.length ≤ 1000 → m < 4611686018427387904 → Ev (fun k => spec_rwMake.l0 k (j : Int) (m : Int) (up o)) (up (mk j m ++ o)) := by
 intro j
 induction j with
 | zero =>
  intro m o h hm
  refine Ev.succ ?_
  simp only [spec_rwMake.l0]
  exact Ev.neg (by omega) (Ev.now _)
 | succ j ih =>
  intro m o h hm
  have hs := zb o
  refine Ev.succ ?_
  simp only [spec_rwMake.l0]
  rw [zcf (by omega), zdg (by omega), show ((j + 1 : Nat) : Int) - 1 = (j : Int) by omega, za (x := (j : Int)) (by omega) (by omega), za (x := (m : Int) / 2) (by omega) (by omega), show (m : Int) / 2 = ((m / 2 : Nat) : Int) by omega]
  have e62 : (⟨#[62]⟩ : ByteArray) ++ up o = up (62 :: o) := zo [62] o
  have e60 : (⟨#[60]⟩ : ByteArray) ++ up o = up (60 :: o) := zo [60] o
  rw [e62, e60, mk, List.append_assoc]
  refine Ev.pos (by omega) (Ev.iff (fun hc => ?_) (fun hc => ?_))
  ·have e : sgnOf (m % 2) = 62 := by unfold sgnOf; rw [if_pos (by omega)]
   rw [e]
   exact Ev.pos (by omega) (ih (m / 2) (62 :: o) (by simp; omega) (by omega))
  ·have e : sgnOf (m % 2) = 60 := by unfold sgnOf; rw [if_neg (by omega)]
   rw [e]
   exact Ev.pos (by omega) (ih (m / 2) (60 :: o) (by simp; omega) (by omega))
theorem ztf (n m : Nat) (hn : n ≤ 60) (hm : m < 4611686018427387904) : Ev (fun k => spec_rwMake.f k (n : Int) (m : Int)) (up (mk n m)) := by
 unfold spec_rwMake.f
 have := zyc n m [] (by simp; omega) hm
 rw [List.append_nil] at this
 exact this
theorem zee (n m : Nat) (hn : n ≤ 60) (hm : m < 4611686018427387904) : ∀ (d i : Nat), i + d = n → Ev (fun k => impl_rowOf.l0 k (n : Int) (m : Int) (cpy 0 (inums (mk n m)) i) (n : Int) (i : Int)) (up (mk n m)) := by
 have hl : (inums (mk n m)).length = n := by simp [inums, zq]
 intro d
 induction d with
 | zero =>
  intro i hi
  refine Ev.succ ?_
  simp only [impl_rowOf.l0]
  refine Ev.neg (by omega) (Ev.const ?_)
  rw [show i = (inums (mk n m)).length by omega, zvh, zbc]
 | succ d ih =>
  intro i hi
  refine Ev.succ ?_
  simp only [impl_rowOf.l0, Option.bind_some]
  have hlt : i < (inums (mk n m)).length := by omega
  have hget : (inums (mk n m))[i] = if m / 2 ^ (n - 1 - i) % 2 = 1 then 62 else 60 := by
   have h1 := zgh n m i (by omega)
   have h2 : (inums (mk n m))[i]? = some (((sgnOf (m / 2 ^ (n - 1 - i) % 2)).toNat : Nat) : Int) := by simp [inums, h1]
   rw [List.getElem?_eq_getElem hlt, Option.some.injEq] at h2
   rw [h2]
   unfold sgnOf
   split <;> rfl
  rw [za (x := (n : Int) - 1) (by omega) (by omega), za (x := (i : Int) + 1) (by omega) (by omega), za (x := (n : Int) - 1 - (i : Int)) (by omega) (by omega), show (n : Int) - 1 - (i : Int) = ((n - 1 - i : Nat) : Int) by omega, zci m _ (by omega), and1 _ (Nat.lt_of_le_of_lt (Nat.div_le_self _ _) (by omega)), Int.toNat_natCast]
  have hs := zyg 0 (inums (mk n m)) i hlt
  refine Ev.pos (by omega) (Ev.pos (by omega) (Ev.pos (by rw [zhi _ _ _ (by omega)]; omega) (Ev.pos (by omega) (Ev.iff (fun hc => ?_) (fun hc => ?_)))))
  ·rw [hget, if_pos (by omega)] at hs
   rw [List.set_set, hs]
   exact ih (i + 1) (by omega)
  ·rw [hget, if_neg (by omega)] at hs
   rw [hs]
   exact ih (i + 1) (by omega)
theorem zlg (n m : Nat) (hn : n ≤ 60) (hm : m < 4611686018427387904) : Ev (fun k => impl_rowOf.f k (n : Int) (m : Int)) (up (mk n m)) := by
 have hl : (inums (mk n m)).length = n := by simp [inums, zq]
 unfold impl_rowOf.f
 simp only [Option.bind_some, Int.toNat_natCast, List.length_replicate]
 refine Ev.pos (by omega) (Ev.pos (by omega) ?_)
 have := zee n m hn hm n 0 (by omega)
 rw [zkg, hl] at this
 exact this
def fitc (l : List UInt8) (x : S42) : Bool := val x.f0 x.f1 x.f2 l == x.f3
def sol (n : Nat) (cl : List S42) : Nat → Nat → List ByteArray
 | _, 0 => []
 | m, d + 1 => (if cl.all (fitc (mk n m)) = true then [up (mk n m)] else []) ++ sol n cl (m + 1) d
theorem zxb (n : Nat) (cl : List S42) : ∀ (d m : Nat), (sol n cl m d).length ≤ d
 | 0, _ => by simp [sol]
 | d + 1, m => by
  have := zxb n cl d (m + 1)
  rw [sol, List.length_append]
  split <;> simp <;> omega
abbrev sols (n : Int) (cl : List S42) : List ByteArray := sol n.toNat cl 0 (2 ^ n.toNat)
theorem zhf (l : List UInt8) (cl : List S42) (i : Nat) (h : i < cl.length) : (cl.drop i).all (fitc l) = (fitc l (rd_T42 cl (i : Int)) && (cl.drop (i + 1)).all (fitc l)) := by
 rw [List.drop_eq_getElem_cons h, zv h]; rfl
theorem zag {n : Int} {cl : List S42} (hc : cl.all (cokS n) = true) {i : Nat} (h : i < cl.length) : kok n (rd_T42 cl (i : Int)).f0 (rd_T42 cl (i : Int)).f1 (rd_T42 cl (i : Int)).f2 := by
 rw [zv h]
 exact zph (List.all_eq_true.1 hc _ (List.getElem_mem h))
theorem two8 (n : Nat) (h : n ≤ 8) : 2 ^ n ≤ 256 := Nat.pow_le_pow_right (by omega) h
theorem zmg (n m : Nat) (hn : 1 ≤ n ∧ n ≤ 8) (cl : List S42) (hl : cl.length ≤ 1000000) (hc : cl.all (cokS (n : Int)) = true) (o : List ByteArray) (ho : o.length ≤ 1000000) (hm : m ≤ 1000000) (rT rF : List ByteArray)
  (hT : Ev (fun k => spec_pzAll.l0 k (n : Int) cl (o ++ [up (mk n m)]) ((m + 1 : Nat) : Int)) rT) (hF : Ev (fun k => spec_pzAll.l0 k (n : Int) cl o ((m + 1 : Nat) : Int)) rF) :
  ∀ (d i : Nat) (b : Bool), i + d = cl.length → Ev (fun k => spec_pzAll.l1 k (n : Int) cl o (m : Int) (up (mk n m)) b cl (cl.length : Int) (i : Int)) (if (b && (cl.drop i).all (fitc (mk n m))) = true then rT else rF) := by
 intro d
 induction d with
 | zero =>
  intro i b hi
  refine Ev.succ ?_
  simp only [spec_pzAll.l1]
  rw [List.drop_of_length_le (by omega), List.all_nil, Bool.and_true, za (x := (m : Int) + 1) (by omega) (by omega)]
  refine Ev.neg (by omega) (Ev.iff (fun hb => ?_) (fun hb => ?_))
  ·rw [if_pos hb]; exact Ev.pos (by omega) hT
  ·rw [if_neg hb]; exact hF
 | succ d ih =>
  intro i b hi
  have hlt : i < cl.length := by omega
  refine Ev.succ ?_
  simp only [spec_pzAll.l1]
  rw [zhf _ _ _ hlt, za (x := (i : Int) + 1) (by omega) (by omega)]
  refine Ev.pos (by omega) (Ev.pos (by omega) (Ev.pos (by omega) (Ev.iff (fun hb => ?_) (fun hb => ?_))))
  ·refine Ev.bind (zbg (mk n m) _ _ _ _ (by rw [zq]; omega) (by rw [zq]; exact zag hc hlt)) ?_
   have := ih (i + 1) (fitc (mk n m) (rd_T42 cl (i : Int))) (by omega)
   rw [hb, Bool.true_and]
   exact this
  ·have := ih (i + 1) false (by omega)
   rw [Bool.not_eq_true] at hb
   rw [hb, Bool.false_and]
   rw [Bool.false_and] at this
   exact this
theorem zhe (n : Nat) (hn : 1 ≤ n ∧ n ≤ 8) (cl : List S42) (hl : cl.length ≤ 1000000) (hc : cl.all (cokS (n : Int)) = true) : ∀ (d m : Nat) (o : List ByteArray), m + d = 2 ^ n → o.length ≤ m → Ev (fun k => spec_pzAll.l0 k (n : Int) cl o (m : Int)) (o ++ sol n cl m d) := by
 have h2 := two8 n hn.2
 intro d
 induction d with
 | zero =>
  intro m o hm ho
  refine Ev.succ ?_
  simp only [spec_pzAll.l0]
  rw [zka n (by omega), sol, List.append_nil]
  exact Ev.pos (by omega) (Ev.neg (by omega) (Ev.now _))
 | succ d ih =>
  intro m o hm ho
  refine Ev.succ ?_
  simp only [spec_pzAll.l0]
  rw [zka n (by omega)]
  refine Ev.pos (by omega) (Ev.pos (by omega) (Ev.bind (ztf n m (by omega) (by omega)) ?_))
  have := zmg n m hn cl hl hc o (by omega) (by omega) _ _ (ih (m + 1) (o ++ [up (mk n m)]) (by omega) (by simp; omega)) (ih (m + 1) o (by omega) (by omega)) cl.length 0 true (by omega)
  rw [Bool.true_and, List.drop_zero] at this
  have e : (if cl.all (fitc (mk n m)) = true then o ++ [up (mk n m)] ++ sol n cl (m + 1) d else o ++ sol n cl (m + 1) d) = o ++ sol n cl m (d + 1) := by
   rw [sol]
   split <;> simp
  rw [e] at this
  exact this
theorem zl (n : Int) (hn : 1 ≤ n ∧ n ≤ 8) (cl : List S42) (hl : cl.length ≤ 1000000) (hc : cl.all (cokS n) = true) : Ev (fun k => spec_pzAll.f k n cl) (sols n cl) := by
 obtain ⟨j, rfl⟩ : ∃ j : Nat, n = j := ⟨n.toNat, by omega⟩
 have := zhe j (by omega) cl hl hc (2 ^ j) 0 [] (by omega) (by simp)
 unfold spec_pzAll.f
 rw [List.nil_append] at this
 exact this
theorem zrg (n : Nat) (l : List UInt8) (hg : rgood l = true) (hn : l.length = n) (cl : List S42) (hl : cl.length ≤ 1000000) (hc : cl.all (cokS (n : Int)) = true) : ∀ (d i : Nat), i + d = cl.length → ∃ r : Int, Ev (fun k => impl_solutions_idx.l0 k (up l) cl (i : Int)) r ∧ decide (0 ≤ r) = !((cl.drop i).all (fitc l)) := by
 intro d
 induction d with
 | zero =>
  intro i hi
  refine ⟨-1, Ev.succ ?_, by rw [List.drop_of_length_le (by omega)]; rfl⟩
  simp only [impl_solutions_idx.l0]
  exact Ev.neg (by omega) (Ev.now _)
 | succ d ih =>
  intro i hi
  have hlt : i < cl.length := by omega
  have hf := zle l (rd_T42 cl (i : Int)).f0 (rd_T42 cl (i : Int)).f1 (rd_T42 cl (i : Int)).f2 (rd_T42 cl (i : Int)).f3 hg (by rw [hn]; exact zag hc hlt)
  have hf2 : Ev (fun k => impl_solutions_clo.f k (up l) (rd_T42 cl (i : Int)).f0 (rd_T42 cl (i : Int)).f1 (rd_T42 cl (i : Int)).f2 (rd_T42 cl (i : Int)).f3) (!(fitc l (rd_T42 cl (i : Int)))) := by
   unfold impl_solutions_clo.f
   exact Ev.bind hf (Ev.now _)
  rw [zhf _ _ _ hlt]
  by_cases hb : fitc l (rd_T42 cl (i : Int)) = true
  ·obtain ⟨r, e1, e2⟩ := ih (i + 1) (by omega)
   refine ⟨r, Ev.succ ?_, by rw [hb, Bool.true_and]; exact e2⟩
   simp only [impl_solutions_idx.l0]
   rw [za (x := (i : Int) + 1) (by omega) (by omega)]
   refine Ev.pos (by omega) (Ev.pos (by omega) (Ev.bind hf2 ?_))
   exact Ev.neg (by rw [hb]; decide) e1
  ·rw [Bool.not_eq_true] at hb
   refine ⟨(i : Int), Ev.succ ?_, by rw [hb, Bool.false_and]; simp⟩
   simp only [impl_solutions_idx.l0]
   refine Ev.pos (by omega) (Ev.pos (by omega) (Ev.bind hf2 ?_))
   exact Ev.pos (by rw [hb]; rfl) (Ev.now _)
theorem zyi (n : Nat) (l : List UInt8) (hg : rgood l = true) (hn : l.length = n) (cl : List S42) (hl : cl.length ≤ 1000000) (hc : cl.all (cokS (n : Int)) = true) : Ev (fun k => impl_solutions_has.f k (up l) cl) (!(cl.all (fitc l))) := by
 obtain ⟨r, e1, e2⟩ := zrg n l hg hn cl hl hc cl.length 0 (by omega)
 rw [List.drop_zero] at e2
 unfold impl_solutions_has.f
 refine Ev.bind e1 ?_
 rw [e2]; exact Ev.now _
theorem zwa (n : Nat) (hn : 1 ≤ n ∧ n ≤ 8) (cl : List S42) (hl : cl.length ≤ 1000000) (hc : cl.all (cokS (n : Int)) = true) : ∀ (d m : Nat) (o : List ByteArray), m + d = 2 ^ n → o.length ≤ m → Ev (fun k => impl_solutions.l0 k (n : Int) cl o ((2 ^ n : Nat) : Int) (m : Int)) (o ++ sol n cl m d) := by
 have h2 := two8 n hn.2
 intro d
 induction d with
 | zero =>
  intro m o hm ho
  refine Ev.succ ?_
  simp only [impl_solutions.l0]
  rw [sol, List.append_nil]
  exact Ev.neg (by omega) (Ev.now _)
 | succ d ih =>
  intro m o hm ho
  refine Ev.succ ?_
  simp only [impl_solutions.l0]
  rw [za (x := (m : Int) + 1) (by omega) (by omega)]
  refine Ev.pos (by omega) (Ev.bind (zlg n m (by omega) (by omega)) (Ev.bind (zyi n (mk n m) (zjf n m (by omega)) (zq n m) cl hl hc) ?_))
  rw [sol]
  by_cases hb : cl.all (fitc (mk n m)) = true
  ·rw [hb, if_pos rfl]
   have := ih (m + 1) (o ++ [up (mk n m)]) (by omega) (by simp; omega)
   rw [List.append_assoc] at this
   exact Ev.neg (by decide) (Ev.pos (by omega) this)
  ·rw [if_neg hb, List.nil_append]
   rw [Bool.not_eq_true] at hb
   rw [hb]
   exact Ev.pos rfl (ih (m + 1) o (by omega) (by omega))
theorem zp (n : Int) (hn : 1 ≤ n ∧ n ≤ 8) (cl : List S42) (hl : cl.length ≤ 1000000) (hc : cl.all (cokS n) = true) : Ev (fun k => impl_solutions.f k n cl) (sols n cl) := by
 obtain ⟨j, rfl⟩ : ∃ j : Nat, n = j := ⟨n.toNat, by omega⟩
 have := zwa j (by omega) cl hl hc (2 ^ j) 0 [] (by omega) (by simp)
 unfold impl_solutions.f
 rw [zka j (by omega)]
 rw [List.nil_append] at this
 exact Ev.pos (by omega) this

theorem zc {n : Int} {l : List S42} (h : pgood n l = true) : (1 ≤ n ∧ n ≤ 8) ∧ l.length ≤ 6 ∧ l.all (cokS n) = true := by
 unfold pgood at h
 simp only [Bool.and_eq_true, decide_eq_true_eq] at h
 exact h
theorem zf (n : Int) (l : List S42) (hl : l.length ≤ 4398046510976) : Ev (fun k => impl_Solutions.f k n l) (if pgood n l = true then (sols n l, true) else ([], false)) := by
 unfold impl_Solutions.f
 refine Ev.bind (zg n l (by omega)) ?_
 by_cases hg : pgood n l = true
 ·have h := zc hg
  rw [if_pos hg, hg]
  exact Ev.pos rfl (Ev.bind (zp n h.1 l (by omega) h.2.2) (Ev.now _))
 ·rw [if_neg hg]
  exact Ev.neg hg (Ev.now _)
theorem zwd (n : Int) (l : List S42) (hl : l.length ≤ 4398046510976) : Ev (fun k => spec_CountSolutions.f k n l) (if pgood n l = true then (((sols n l).length : Int), true) else (0, false)) := by
 unfold spec_CountSolutions.f
 refine Ev.bind (ze n l hl) ?_
 by_cases hg : pgood n l = true
 ·have h := zc hg
  rw [if_pos hg, hg]
  exact Ev.pos rfl (Ev.bind (zl n h.1 l (by omega) h.2.2) (Ev.now _))
 ·rw [if_neg hg]
  exact Ev.neg hg (Ev.now _)
theorem zbb (n : Int) (l : List S42) (hl : l.length ≤ 4398046510976) : Ev (fun k => impl_CountSolutions.f k n l) (if pgood n l = true then (((sols n l).length : Int), true) else (0, false)) := by
 unfold impl_CountSolutions.f
 refine Ev.bind (zf n l hl) (Ev.const ?_)
 split <;> rfl
theorem zvb (n : Int) (l : List S42) (hl : l.length ≤ 4398046510976) : Ev (fun k => spec_IsSolved.f k n l) (if pgood n l = true then (((sols n l).length : Int) == 1, true) else (false, false)) := by
 unfold spec_IsSolved.f spec_pzSolved.f
 refine Ev.bind (ze n l hl) ?_
 by_cases hg : pgood n l = true
 ·have h := zc hg
  rw [if_pos hg, hg]
  exact Ev.pos rfl (Ev.bind (Ev.bind (zl n h.1 l (by omega) h.2.2) (Ev.now _)) (Ev.now _))
 ·rw [if_neg hg]
  exact Ev.neg hg (Ev.now _)
theorem zpb (n : Int) (l : List S42) (hl : l.length ≤ 4398046510976) : Ev (fun k => impl_IsSolved.f k n l) (if pgood n l = true then (((sols n l).length : Int) == 1, true) else (false, false)) := by
 unfold impl_IsSolved.f
 refine Ev.bind (zf n l hl) (Ev.const ?_)
 split <;> rfl
def fsol (n : Int) (l : List S42) : ByteArray × Bool := if pgood n l = true then (if ((sols n l).length : Int) = 0 then (⟨#[]⟩, false) else (rdOf ByteArray.empty (sols n l) 0, true)) else (⟨#[]⟩, false)
theorem zje (n : Int) (l : List S42) (hl : l.length ≤ 4398046510976) : Ev (fun k => spec_FirstSolution.f k n l) (fsol n l) := by
 unfold spec_FirstSolution.f fsol
 refine Ev.bind (ze n l hl) ?_
 by_cases hg : pgood n l = true
 ·have h := zc hg
  rw [if_pos hg, hg]
  refine Ev.pos rfl (Ev.bind (zl n h.1 l (by omega) h.2.2) (Ev.iff (fun hc => ?_) (fun hc => ?_)))
  ·rw [if_pos hc]; exact Ev.now _
  ·rw [if_neg hc]; exact Ev.pos (by omega) (Ev.now _)
 ·rw [if_neg hg]
  exact Ev.neg hg (Ev.now _)
theorem zke (n : Int) (l : List S42) (hl : l.length ≤ 4398046510976) : Ev (fun k => impl_FirstSolution.f k n l) (fsol n l) := by
 unfold impl_FirstSolution.f fsol
 refine Ev.bind (zf n l hl) ?_
 by_cases hg : pgood n l = true
 ·rw [if_pos hg, if_pos hg]
  refine Ev.pos rfl (Ev.iff (fun hc => ?_) (fun hc => ?_))
  ·rw [if_pos hc]; exact Ev.now _
  ·rw [if_neg hc]; exact Ev.pos (by omega) (Ev.now _)
 ·rw [if_neg hg, if_neg hg]
  exact Ev.neg (by decide) (Ev.now _)
theorem zr {l : List ByteArray} {i : Nat} (h : i < l.length) : rdOf ByteArray.empty l (i : Int) = l[i] := by simp [rdOf, h]
theorem zya (n : Int) (l : List S42) (hl : l.length ≤ 4398046510976) : Ev (fun k => spec_Solutions.f k n l) (if pgood n l = true then (sols n l, true) else ([], false)) := by
 unfold spec_Solutions.f
 refine Ev.bind (ze n l hl) ?_
 by_cases hg : pgood n l = true
 ·have h := zc hg
  rw [if_pos hg, hg]
  exact Ev.pos rfl (Ev.bind (zl n h.1 l (by omega) h.2.2) (Ev.now _))
 ·rw [if_neg hg]
  exact Ev.neg hg (Ev.now _)
theorem zzc {n : Int} {l l' : List S42} (h : l.all (cokS n) = true) (hs : ∀ x ∈ l', x ∈ l) : l'.all (cokS n) = true :=
 List.all_eq_true.2 fun x hx => List.all_eq_true.1 h x (hs x hx)
theorem ztb (n : Int) (hn : 1 ≤ n ∧ n ≤ 8) (l : List S42) : (sols n l).length ≤ 2 ^ n.toNat := zxb _ _ _ _
def cnt1 (n : Int) (l : List S42) (i : Nat) : Int := ((sols n ((l.take (i + 1)).drop i)).length : Int)
theorem zlh {n : Int} {l : List S42} (h : l.all (cokS n) = true) (i : Nat) : ((l.take (i + 1)).drop i).all (cokS n) = true := zzc h fun x hx => List.mem_of_mem_take (List.mem_of_mem_drop hx)
theorem zrh (l : List S42) (i : Nat) : ((l.take (i + 1)).drop i).length ≤ 1000000 := by simp; omega
theorem znc (n : Int) (hn : 1 ≤ n ∧ n ≤ 8) (l : List S42) (hl : l.length ≤ 1000000) (hc : l.all (cokS n) = true) (i : Nat) (hi : i < l.length) (b f : Int) (r : Int × Bool)
  (h : Ev (fun k => impl_BestClue.l0 k (if cnt1 n l i < f then (i : Int) else b) (if cnt1 n l i < f then cnt1 n l i else f) (l.length : Int) ((i + 1 : Nat) : Int) n l) r) : Ev (fun k => impl_BestClue.l0 k b f (l.length : Int) (i : Int) n l) r := by
 refine Ev.succ ?_
 simp only [impl_BestClue.l0]
 rw [za (x := (i : Int) + 1) (by omega) (by omega), Int.toNat_natCast, show ((i : Int) + 1).toNat = i + 1 by omega]
 refine Ev.pos (by omega) (Ev.pos (by omega) (Ev.pos (by omega) (Ev.pos (by omega) (Ev.bind (zp n hn _ (zrh l i) (zlh hc i)) (Ev.iff (fun hx => ?_) (fun hx => ?_))))))
 ·rw [if_pos (show cnt1 n l i < f from hx), if_pos (show cnt1 n l i < f from hx)] at h; exact h
 ·rw [if_neg (show ¬ cnt1 n l i < f from hx), if_neg (show ¬ cnt1 n l i < f from hx)] at h; exact h
theorem zdc (n : Int) (hn : 1 ≤ n ∧ n ≤ 8) (l : List S42) (hl : l.length ≤ 1000000) (hc : l.all (cokS n) = true) (i : Nat) (hi : i < l.length) (b f : Int) (r : Int × Bool)
  (h : Ev (fun k => spec_BestClue.l0 k (if i = 0 ∨ cnt1 n l i < f then (i : Int) else b) (if i = 0 ∨ cnt1 n l i < f then cnt1 n l i else f) (l.length : Int) ((i + 1 : Nat) : Int) n l) r) : Ev (fun k => spec_BestClue.l0 k b f (l.length : Int) (i : Int) n l) r := by
 refine Ev.succ ?_
 simp only [spec_BestClue.l0]
 rw [za (x := (i : Int) + 1) (by omega) (by omega), Int.toNat_natCast, show ((i : Int) + 1).toNat = i + 1 by omega]
 refine Ev.pos (by omega) (Ev.pos (by omega) (Ev.pos (by omega) (Ev.pos (by omega) (Ev.bind (zl n hn _ (zrh l i) (zlh hc i)) (Ev.iff (fun h0 => ?_) (fun h0 => Ev.iff (fun hx => ?_) (fun hx => ?_)))))))
 ·rw [if_pos (.inl (by omega)), if_pos (.inl (by omega))] at h; exact h
 ·rw [if_pos (.inr (show cnt1 n l i < f from hx)), if_pos (.inr (show cnt1 n l i < f from hx))] at h; exact h
 ·have hno : ¬ (i = 0 ∨ cnt1 n l i < f) := by
   rintro (e | e)
   ·omega
   ·exact hx e
  rw [if_neg hno, if_neg hno] at h; exact h
def lcs (n : Int) (l : List S42) : Nat → Nat → List Int
 | _, 0 => []
 | i, d + 1 => ((sols n (l.take i)).length : Int) :: lcs n l (i + 1) d
theorem lcs_l (n : Int) (l : List S42) : ∀ d i, (lcs n l i d).length = d
 | 0, _ => rfl
 | d + 1, i => by rw [lcs, List.length_cons, lcs_l n l d]
theorem zqh {n : Int} {l : List S42} (h : l.all (cokS n) = true) (i : Nat) : (l.take i).all (cokS n) = true := zzc h fun x hx => List.mem_of_mem_take hx
theorem zff (n : Int) (hn : 1 ≤ n ∧ n ≤ 8) (l : List S42) (hl : l.length ≤ 1000000) (hc : l.all (cokS n) = true) : ∀ (d i : Nat) (o : List Int), i + d = l.length + 1 → o.length ≤ i → Ev (fun k => spec_LeftByClues.l0 k o (i : Int) n l) (o ++ lcs n l i d, true) := by
 intro d
 induction d with
 | zero =>
  intro i o hi ho
  refine Ev.succ ?_
  simp only [spec_LeftByClues.l0, lcs, List.append_nil]
  exact Ev.neg (by omega) (Ev.now _)
 | succ d ih =>
  intro i o hi ho
  refine Ev.succ ?_
  simp only [spec_LeftByClues.l0]
  rw [za (x := (i : Int) + 1) (by omega) (by omega), Int.toNat_natCast, lcs]
  have := ih (i + 1) (o ++ [((sols n (l.take i)).length : Int)]) (by omega) (by simp; omega)
  rw [List.append_assoc] at this
  exact Ev.pos (by omega) (Ev.pos (by omega) (Ev.bind (zl n hn _ (by simp; omega) (zqh hc i)) (Ev.pos (by omega) this)))
theorem zdf (n : Int) (hn : 1 ≤ n ∧ n ≤ 8) (l : List S42) (hl : l.length ≤ 1000000) (hc : l.all (cokS n) = true) : ∀ (d i : Nat) (o : List Int), i + d = l.length + 1 → o.length ≤ i → Ev (fun k => impl_LeftByClues.l0 k o ((l.length : Int) + 1) (i : Int) n l) (o ++ lcs n l i d, true) := by
 intro d
 induction d with
 | zero =>
  intro i o hi ho
  refine Ev.succ ?_
  simp only [impl_LeftByClues.l0, lcs, List.append_nil]
  exact Ev.neg (by omega) (Ev.now _)
 | succ d ih =>
  intro i o hi ho
  refine Ev.succ ?_
  simp only [impl_LeftByClues.l0]
  rw [za (x := (i : Int) + 1) (by omega) (by omega), Int.toNat_natCast, lcs]
  have := ih (i + 1) (o ++ [((sols n (l.take i)).length : Int)]) (by omega) (by simp; omega)
  rw [List.append_assoc] at this
  exact Ev.pos (by omega) (Ev.pos (by omega) (Ev.pos (by omega) (Ev.bind (zp n hn _ (by simp; omega) (zqh hc i)) (Ev.pos (by omega) this))))
def lcr (n : Int) (l : List S42) : List Int × Bool := if pgood n l = true then (lcs n l 0 (l.length + 1), true) else ([], false)
theorem zdi (n : Int) (l : List S42) : (lcr n l).1.length ≤ 7 := by
 unfold lcr
 by_cases hg : pgood n l = true
 ·have := (zc hg).2.1
  rw [if_pos hg]; simp only [lcs_l]; omega
 ·rw [if_neg hg]; simp
theorem zai (n : Int) (l : List S42) (hl : l.length ≤ 4398046510976) : Ev (fun k => spec_LeftByClues.f k n l) (lcr n l) := by
 unfold spec_LeftByClues.f lcr
 refine Ev.bind (ze n l hl) ?_
 by_cases hg : pgood n l = true
 ·have h := zc hg
  rw [if_pos hg, hg]
  have := zff n h.1 l (by omega) h.2.2 (l.length + 1) 0 [] (by omega) (by simp)
  rw [List.nil_append] at this
  exact Ev.pos rfl this
 ·rw [if_neg hg]
  exact Ev.neg hg (Ev.now _)
theorem zxh (n : Int) (l : List S42) (hl : l.length ≤ 4398046510976) : Ev (fun k => impl_LeftByClues.f k n l) (lcr n l) := by
 unfold impl_LeftByClues.f lcr
 refine Ev.bind (zg n l (by omega)) ?_
 by_cases hg : pgood n l = true
 ·have h := zc hg
  rw [if_pos hg, hg, za (x := (l.length : Int) + 1) (by omega) (by omega)]
  have := zdf n h.1 l (by omega) h.2.2 (l.length + 1) 0 [] (by omega) (by simp)
  rw [List.nil_append] at this
  exact Ev.pos rfl this
 ·rw [if_neg hg]
  exact Ev.neg hg (Ev.now _)
theorem zib (l : List S42) (hl : l.length ≤ 1048576) (k : Int) (h : 0 ≤ k ∧ k ≤ (l.length : Int) - 1) : spec_pzWithout.f l k = some (l.eraseIdx k.toNat) := by
 unfold spec_pzWithout.f
 simp only [Option.bind_some, List.nil_append, List.length_nil]
 rw [za (x := k + 1) (by omega) (by omega), if_pos h.1, if_pos (by omega), if_pos (by simp; omega), if_pos (by omega), if_pos (by omega), if_pos (by simp; omega), List.eraseIdx_eq_take_drop_succ, show (k + 1).toNat = k.toNat + 1 by omega]
theorem zjc (l : List S42) (hl : l.length ≤ 1000000) (k : Nat) (h : k < l.length) : spec_pzWithout.f l (k : Int) = some (l.eraseIdx k) := by
 have := zib l (by omega) (k : Int) ⟨by omega, by omega⟩
 rwa [Int.toNat_natCast] at this
theorem zvd (l : List S42) (hl : l.length ≤ 1000000) (k : Nat) (h : k < l.length) : impl_without.f l (k : Int) = some (l.eraseIdx k) := by
 unfold impl_without.f
 first | unfold impl_Clue.f | unfold impl_Clue_60.f
 rw [if_pos (by omega)]
 simp only [Option.bind_some]
 rw [if_pos ⟨by omega, by omega, by omega⟩, Int.toNat_natCast]
theorem zhg {n : Int} {l : List S42} (h : l.all (cokS n) = true) (k : Nat) : (l.eraseIdx k).all (cokS n) = true := zzc h fun x hx => List.mem_of_mem_eraseIdx hx
def ncs (n : Int) (l : List S42) : Nat → Nat → List Int
 | _, 0 => []
 | i, d + 1 => (if ((sols n (l.eraseIdx i)).length : Int) = ((sols n l).length : Int) then [(i : Int)] else []) ++ ncs n l (i + 1) d
theorem ncs_l (n : Int) (l : List S42) : ∀ d i, (ncs n l i d).length ≤ d
 | 0, _ => by simp [ncs]
 | d + 1, i => by
  have := ncs_l n l d (i + 1)
  rw [ncs, List.length_append]
  split <;> simp <;> omega
theorem znf (n : Int) (hn : 1 ≤ n ∧ n ≤ 8) (l : List S42) (hl : l.length ≤ 1000000) (hc : l.all (cokS n) = true) : ∀ (d i : Nat) (o : List Int), i + d = l.length → o.length ≤ i → Ev (fun k => impl_NeedlessClues.l0 k (sols n l) o (l.length : Int) (i : Int) n l) (o ++ ncs n l i d, true) := by
 intro d
 induction d with
 | zero =>
  intro i o hi ho
  refine Ev.succ ?_
  simp only [impl_NeedlessClues.l0, ncs, List.append_nil]
  exact Ev.neg (by omega) (Ev.now _)
 | succ d ih =>
  intro i o hi ho
  refine Ev.succ ?_
  simp only [impl_NeedlessClues.l0]
  rw [za (x := (i : Int) + 1) (by omega) (by omega), zvd l hl i (by omega), ncs]
  simp only [Option.bind_some]
  have hle := List.length_eraseIdx_le l i
  refine Ev.pos (by omega) (Ev.bind (zp n hn _ (by omega) (zhg hc i)) (Ev.iff (fun hx => ?_) (fun hx => ?_)))
  ·have := ih (i + 1) (o ++ [(i : Int)]) (by omega) (by simp; omega)
   rw [if_pos hx]
   rw [List.append_assoc] at this
   exact Ev.pos (by omega) this
  ·rw [if_neg hx, List.nil_append]
   exact ih (i + 1) o (by omega) (by omega)
def ncr (n : Int) (l : List S42) : List Int × Bool := if pgood n l = true then (ncs n l 0 l.length, true) else ([], false)
theorem zli (n : Int) (l : List S42) : (ncr n l).1.length ≤ 7 := by
 unfold ncr
 by_cases hg : pgood n l = true
 ·have h1 := (zc hg).2.1
  have h2 := ncs_l n l l.length 0
  rw [if_pos hg]; simp only; omega
 ·rw [if_neg hg]; simp
theorem zni (n : Int) (l : List S42) (hl : l.length ≤ 4398046510976) : Ev (fun k => impl_NeedlessClues.f k n l) (ncr n l) := by
 unfold impl_NeedlessClues.f ncr
 refine Ev.bind (zf n l hl) ?_
 by_cases hg : pgood n l = true
 ·have h := zc hg
  rw [if_pos hg, if_pos hg]
  have := znf n h.1 l (by omega) h.2.2 l.length 0 [] (by omega) (by simp)
  rw [List.nil_append] at this
  exact Ev.pos rfl this
 ·rw [if_neg hg, if_neg hg]
  exact Ev.neg (by decide) (Ev.now _)
theorem zgg (n : Int) (hn : 1 ≤ n ∧ n ≤ 8) (l : List S42) (hl : l.length ≤ 1000000) (hc : l.all (cokS n) = true) : ∀ (d i : Nat) (o : List Int), i + d = l.length → o.length ≤ i → Ev (fun k => spec_NeedlessClues.l0 k o ((sols n l).length : Int) (l.length : Int) (i : Int) n l) (o ++ ncs n l i d, true) := by
 intro d
 induction d with
 | zero =>
  intro i o hi ho
  refine Ev.succ ?_
  simp only [spec_NeedlessClues.l0, ncs, List.append_nil]
  exact Ev.neg (by omega) (Ev.now _)
 | succ d ih =>
  intro i o hi ho
  refine Ev.succ ?_
  simp only [spec_NeedlessClues.l0]
  rw [za (x := (i : Int) + 1) (by omega) (by omega), zjc l hl i (by omega), ncs]
  simp only [Option.bind_some]
  have hle := List.length_eraseIdx_le l i
  refine Ev.pos (by omega) (Ev.bind (zl n hn _ (by omega) (zhg hc i)) (Ev.iff (fun hx => ?_) (fun hx => ?_)))
  ·have := ih (i + 1) (o ++ [(i : Int)]) (by omega) (by simp; omega)
   rw [if_pos hx]
   rw [List.append_assoc] at this
   exact Ev.pos (by omega) this
  ·rw [if_neg hx, List.nil_append]
   exact ih (i + 1) o (by omega) (by omega)
theorem zbi (n : Int) (l : List S42) (hl : l.length ≤ 4398046510976) : Ev (fun k => spec_NeedlessClues.f k n l) (ncr n l) := by
 unfold spec_NeedlessClues.f ncr
 refine Ev.bind (ze n l hl) ?_
 by_cases hg : pgood n l = true
 ·have h := zc hg
  rw [if_pos hg, hg]
  have := zgg n h.1 l (by omega) h.2.2 l.length 0 [] (by omega) (by simp)
  rw [List.nil_append] at this
  exact Ev.pos rfl (Ev.bind (zl n h.1 l (by omega) h.2.2) this)
 ·rw [if_neg hg]
  exact Ev.neg hg (Ev.now _)
theorem zta (n : Nat) (cl : List S42) : ∀ (d m : Nat) (r : ByteArray), r ∈ sol n cl m d → (L r).length = n
 | 0, m, r, h => by simp [sol] at h
 | d + 1, m, r, h => by
  rw [sol, List.mem_append] at h
  rcases h with h | h
  ·split at h
   ·simp only [List.mem_singleton] at h
    rw [h, L_mk, zq]
   ·simp at h
  ·exact zta n cl d (m + 1) r h
def fsure (n : Int) (l : List S42) : ByteArray × Bool := if pgood n l = true then (if ((sols n l).length : Int) = 0 then (⟨#[]⟩, false) else (up (sureF (L (rdOf ByteArray.empty (sols n l) 0)) (sols n l)), true)) else (⟨#[]⟩, false)
theorem zii (rows : List ByteArray) (n i : Nat) (hi : i < n) (hn : n ≤ 60) (hr : ∀ r ∈ rows, (L r).length = n) (hl : rows.length ≤ 1000000) (o : List UInt8) (ho : o.length ≤ 60) (a : UInt8) (N : Int) (cl : List S42) (R : ByteArray × Bool) : ∀ (d q : Nat), q + d = rows.length →
  Ev (fun k => spec_SureSigns.l0 k rows (up (o ++ [if (rows.drop q).all (same8 i a) = true then a else 63])) ((i + 1 : Nat) : Int) N cl) R → Ev (fun k => spec_SureSigns.l1 k rows (up o) (i : Int) (up [a]) rows (rows.length : Int) (q : Int) N cl) R := by
 have hs := zb o
 intro d
 induction d with
 | zero =>
  intro q hq h
  refine Ev.succ ?_
  simp only [spec_SureSigns.l1]
  rw [List.drop_of_length_le (by omega), List.all_nil, if_pos rfl] at h
  rw [za (x := (i : Int) + 1) (by omega) (by omega), zo, show (up o).size + (up [a]).size = o.length + 1 by rw [zb, zb]; rfl]
  exact Ev.neg (by omega) (Ev.pos (by omega) h)
 | succ d ih =>
  intro q hq h
  have hq2 : q < rows.length := by omega
  refine Ev.succ ?_
  simp only [spec_SureSigns.l1]
  have hlen : (L rows[q]).length = n := hr _ (List.getElem_mem hq2)
  have hb : (L rows[q])[i]? = some (L rows[q])[i] := List.getElem?_eq_getElem (by omega)
  rw [za (x := (i : Int) + 1) (by omega) (by omega), za (x := (q : Int) + 1) (by omega) (by omega), zr hq2, show ((i : Int)).toNat = i by omega, show ((i : Int) + 1).toNat = i + 1 by omega, cut1 _ _ _ hb]
  have hsz : (rows[q]).size = n := by rw [zpa, hlen]
  rw [List.drop_eq_getElem_cons hq2, List.all_cons] at h
  refine Ev.pos (by omega) (Ev.pos (by omega) (Ev.pos (by omega) (Ev.pos (by omega) (Ev.pos (by omega) (Ev.pos (by rw [hsz]; omega) (Ev.iff (fun hc => ?_) (fun hc => ?_)))))))
  ·have e1 : same8 i a rows[q] = true := by unfold same8; rw [hb, (zhh _ _).1 hc]; simp
   rw [e1, Bool.true_and] at h
   exact ih (q + 1) (by omega) h
  ·have hc2 : ¬ (L rows[q])[i] = a := fun e => hc ((zhh _ _).2 e)
   have e1 : same8 i a rows[q] = false := by unfold same8; rw [hb]; simpa using hc2
   rw [e1, Bool.false_and, if_neg (by decide)] at h
   have e2 : up o ++ (⟨#[63]⟩ : ByteArray) = up (o ++ [63]) := zo o [63]
   rw [e2]
   exact Ev.pos (by omega) h
theorem zrc (rows : List ByteArray) (n : Nat) (hn : n ≤ 60) (hr : ∀ r ∈ rows, (L r).length = n) (hl : rows.length ≤ 1000000) (hp : 0 < rows.length) (cl : List S42) : ∀ (d i : Nat), i + d = n →
  Ev (fun k => spec_SureSigns.l0 k rows (up ((sureF (L (rdOf ByteArray.empty rows 0)) rows).take i)) (i : Int) (n : Int) cl) (up (sureF (L (rdOf ByteArray.empty rows 0)) rows), true) := by
 have e0 : rdOf ByteArray.empty rows 0 = rows[0] := zr hp
 rw [e0]
 have h0 : (L rows[0]).length = n := hr _ (List.getElem_mem hp)
 have hF := zx n rows _ h0 hr
 intro d
 induction d with
 | zero =>
  intro i hi
  refine Ev.succ ?_
  simp only [spec_SureSigns.l0]
  rw [List.take_of_length_le (by omega)]
  exact Ev.neg (by omega) (Ev.now _)
 | succ d ih =>
  intro i hi
  refine Ev.succ ?_
  simp only [spec_SureSigns.l0]
  have hb : (L rows[0])[i]? = some (L rows[0])[i] := List.getElem?_eq_getElem (by omega)
  have hg := zqa n i (by omega) rows _ _ h0 hr hb
  have hsz : (rows[0]).size = n := by rw [zpa, h0]
  rw [za (x := (i : Int) + 1) (by omega) (by omega), e0, show ((i : Int)).toNat = i by omega, show ((i : Int) + 1).toNat = i + 1 by omega, cut1 _ _ _ hb]
  refine Ev.pos (by omega) (Ev.pos (by omega) (Ev.pos (by omega) (Ev.pos (by omega) (Ev.pos (by rw [hsz]; omega) ?_))))
  refine zii rows n i (by omega) hn hr hl _ (by rw [List.length_take]; omega) _ _ _ _ rows.length 0 (by omega) ?_
  have := ih (i + 1) (by omega)
  rw [List.take_add_one, hg] at this
  exact this
theorem zye (n : Int) (l : List S42) (hl : l.length ≤ 4398046510976) : Ev (fun k => spec_SureSigns.f k n l) (fsure n l) := by
 unfold spec_SureSigns.f fsure
 refine Ev.bind (ze n l hl) ?_
 by_cases hg : pgood n l = true
 ·have h := zc hg
  rw [if_pos hg, hg]
  refine Ev.pos rfl (Ev.bind (zl n h.1 l (by omega) h.2.2) (Ev.iff (fun hc => ?_) (fun hc => ?_)))
  ·rw [if_pos hc]; exact Ev.now _
  ·rw [if_neg hc]
   have h8 := two8 n.toNat (by omega)
   have hlen : (sols n l).length ≤ 2 ^ n.toNat := zxb n.toNat l (2 ^ n.toNat) 0
   have := zrc (sols n l) n.toNat (by omega) (fun r h => zta n.toNat l _ _ r h) (by omega) (by omega) l n.toNat 0 (by omega)
   rw [show ((n.toNat : Nat) : Int) = n by omega] at this
   exact this
 ·rw [if_neg hg]
  exact Ev.neg hg (Ev.now _)
theorem zma (row : ByteArray) : ∀ (s p : List UInt8), p.length + s.length ≤ 1000 → (L row).length = p.length + s.length → Ev (fun k => impl_SureSigns.l1 k row (p.length : Int) (inums (p ++ s))) (inums (p ++ List.zipWith g8 ((L row).drop p.length) s))
 | [], p, h, hl => by
  refine Ev.succ ?_
  simp only [impl_SureSigns.l1]
  rw [List.zipWith_nil_right]
  exact Ev.neg (by simp [inums]) (Ev.now _)
 | a :: s, p, h, hl => by
  rw [List.length_cons] at h hl
  have hlt : p.length < (L row).length := by omega
  refine Ev.succ ?_
  simp only [impl_SureSigns.l1]
  rw [za (x := (p.length : Int) + 1) (by omega) (by omega), zwg, zab row p.length hlt, Int.toNat_natCast, zpf, List.drop_eq_getElem_cons hlt, List.zipWith_cons_cons]
  refine Ev.pos (by simp [inums]; omega) (Ev.pos (by omega) (Ev.pos (by rw [zoe]; omega) (Ev.iff (fun hc => ?_) (fun hc => ?_))))
  ·have := zma row s (p ++ [a]) (by simp; omega) (by rw [List.length_append, List.length_singleton]; omega)
   have e : g8 (L row)[p.length] a = a := by unfold g8; rw [if_pos ((u8_eq _ _).1 hc)]
   rw [e]
   simpa using this
  ·have := zma row s (p ++ [63]) (by simp; omega) (by rw [List.length_append, List.length_singleton]; omega)
   have e : g8 (L row)[p.length] a = 63 := by unfold g8; rw [if_neg (fun e => hc ((u8_eq _ _).2 e))]
   rw [e]
   simpa using this
theorem zzf (rows : List ByteArray) (n : Nat) (hn : n ≤ 60) (hr : ∀ r ∈ rows, (L r).length = n) (hl : rows.length ≤ 1000000) : ∀ (d i : Nat) (o : List UInt8), i + d = rows.length → o.length = n → Ev (fun k => impl_SureSigns.l0 k rows (i : Int) (inums o)) (inums (sureF o (rows.drop i))) := by
 intro d
 induction d with
 | zero =>
  intro i o hi ho
  refine Ev.succ ?_
  simp only [impl_SureSigns.l0]
  rw [List.drop_of_length_le (by omega)]
  exact Ev.neg (by omega) (Ev.now _)
 | succ d ih =>
  intro i o hi ho
  have hi2 : i < rows.length := by omega
  have hlen : (L rows[i]).length = n := hr _ (List.getElem_mem hi2)
  refine Ev.succ ?_
  simp only [impl_SureSigns.l0]
  rw [za (x := (i : Int) + 1) (by omega) (by omega), zr hi2, List.drop_eq_getElem_cons hi2, zs]
  have h1 := zma rows[i] o [] (by rw [List.length_nil]; omega) (by rw [List.length_nil]; omega)
  exact Ev.pos (by omega) (Ev.pos (by omega) (Ev.bind h1 (ih (i + 1) _ (by omega) (by simp [hlen, ho]))))
theorem zfg (n : Int) (l : List S42) (hl : l.length ≤ 4398046510976) : Ev (fun k => impl_SureSigns.f k n l) (fsure n l) := by
 unfold impl_SureSigns.f fsure
 refine Ev.bind (zf n l hl) ?_
 by_cases hg : pgood n l = true
 ·have h := zc hg
  rw [if_pos hg, if_pos hg]
  have h8 := two8 n.toNat (by omega)
  have hlen : (sols n l).length ≤ 2 ^ n.toNat := zxb n.toNat l (2 ^ n.toNat) 0
  refine Ev.pos rfl (Ev.iff (fun hc => ?_) (fun hc => ?_))
  ·rw [if_pos hc]; exact Ev.now _
  ·rw [if_neg hc]
   simp only at hc
   have hp : 0 < (sols n l).length := by omega
   have e0 : rdOf ByteArray.empty (sols n l) 0 = (sols n l)[0] := zr hp
   have hr : ∀ r ∈ sols n l, (L r).length = n.toNat := fun r h => zta n.toNat l _ _ r h
   have h0 : (L (sols n l)[0]).length = n.toNat := hr _ (List.getElem_mem hp)
   rw [e0, zcd]
   refine Ev.pos (by rw [zpa, h0]; omega) (Ev.bind (zzf (sols n l) n.toNat (by omega) hr (by omega) _ 0 _ (by rw [Nat.zero_add]) h0) (Ev.const ?_))
   rw [zbc]; rfl
 ·rw [if_neg hg, if_neg hg]
  exact Ev.neg (by decide) (Ev.now _)
theorem zid (n : Nat) (h : n < 10) : Ev (fun k => spec_l1Num.f k (n : Int)) (up (Go.Lib.decDigits n)) := by
 refine Ev.succ ?_
 simp only [spec_l1Num.f]
 refine Ev.pos (by omega) (Ev.const ?_)
 rw [dig n h, zgc n h]
theorem zvg (n : Nat) (h : n < 100) : Ev (fun k => spec_l1Num.f k (n : Int)) (up (Go.Lib.decDigits n)) := by
 by_cases h1 : n < 10
 ·exact zid n h1
 ·refine Ev.succ ?_
  simp only [spec_l1Num.f, Option.bind_some]
  rw [zdg (by omega), zcf (by omega), show (n : Int) / 10 = ((n / 10 : Nat) : Int) by omega, show (n : Int) % 10 = ((n % 10 : Nat) : Int) by omega, za (x := ((n / 10 : Nat) : Int)) (by omega) (by omega), dig (n % 10) (by omega)]
  refine Ev.neg (by omega) (Ev.bind (zid (n / 10) (by omega)) ?_)
  have hl := zxe (n / 10) (by omega)
  refine Ev.pos (by rw [zb, zb, List.length_singleton]; omega) (Ev.const ?_)
  rw [zo, zcg n h1]
theorem zrf (n : Int) (h : 0 ≤ n ∧ n < 100) : Ev (fun k => spec_l1Num.f k n) (up (Go.Lib.decDigits n.toNat)) := by
 have := zvg n.toNat (by omega)
 rw [show ((n.toNat : Nat) : Int) = n by omega] at this
 exact this
theorem zyh (n : Int) (h : 0 ≤ n ∧ n < 100) : strconv_Itoa.f n = some (up (Go.Lib.decDigits n.toNat)) := by
 unfold strconv_Itoa.f
 rw [if_pos h]
def ct (x : S42) : List UInt8 := dd x.f0 ++ [46] ++ dd x.f1 ++ [46] ++ dd x.f2 ++ [46] ++ dd x.f3
def ptx (n : Int) (l : List S42) : List UInt8 := dd n ++ [58] ++ Go.Lib.join (l.map ct) [44]
theorem zcb {n : Int} (hn : 1 ≤ n ∧ n ≤ 8) {x : S42} (h : cokS n x = true) : (0 ≤ x.f0 ∧ x.f0 < 100) ∧ (0 ≤ x.f1 ∧ x.f1 < 100) ∧ (0 ≤ x.f2 ∧ x.f2 < 100) ∧ (0 ≤ x.f3 ∧ x.f3 < 100) := by
 unfold cokS cok at h
 repeat' split at h
 all_goals first | (simp only [Bool.and_eq_true, decide_eq_true_eq] at h; omega) | (simp at h)
theorem zoc {x : S42} (h : (0 ≤ x.f0 ∧ x.f0 < 100) ∧ (0 ≤ x.f1 ∧ x.f1 < 100) ∧ (0 ≤ x.f2 ∧ x.f2 < 100) ∧ (0 ≤ x.f3 ∧ x.f3 < 100)) : (ct x).length ≤ 11 := by
 have h0 := zm _ h.1
 have h1 := zm _ h.2.1
 have h2 := zm _ h.2.2.1
 have h3 := zm _ h.2.2.2
 unfold ct
 simp only [List.length_append, List.length_cons, List.length_nil]
 omega
theorem zaa (n : Int) (h : 0 ≤ n ∧ n < 100) : Ev (fun k => spec_l1Num.f k n) (up (dd n)) := zrf n h
theorem zsa (n : Int) (h : 0 ≤ n ∧ n < 100) : strconv_Itoa.f n = some (up (dd n)) := zyh n h
theorem j1_ev (x : S42) (h : (0 ≤ x.f0 ∧ x.f0 < 100) ∧ (0 ≤ x.f1 ∧ x.f1 < 100) ∧ (0 ≤ x.f2 ∧ x.f2 < 100) ∧ (0 ≤ x.f3 ∧ x.f3 < 100)) (o : List UInt8) (ho : o.length ≤ 1000) (l : List S42) (m i : Int) (R : ByteArray) (hr : Ev (fun k => spec_pzText.l0 k (up (o ++ ct x)) l m (wrap64 (i + 1))) R) :
  Ev (fun k => spec_pzText.j1 k (up o) l m i x.f0 x.f1 x.f2 x.f3) R := by
 have h0 := zm _ h.1
 have h1 := zm _ h.2.1
 have h2 := zm _ h.2.2.1
 have h3 := zm _ h.2.2.2
 refine Ev.succ ?_
 simp only [spec_pzText.j1]
 refine Ev.bind (zaa x.f0 h.1) (Ev.pos (by simp only [zb]; omega) (Ev.bind (zaa x.f1 h.2.1) ?_))
 simp only [zo]
 refine Ev.pos (by simp only [zb, List.length_append, List.length_cons, List.length_nil]; omega) (Ev.pos (by simp only [zb, List.length_append, List.length_cons, List.length_nil]; omega) (Ev.bind (zaa x.f2 h.2.2.1) ?_))
 simp only [zo]
 refine Ev.pos (by simp only [zb, List.length_append, List.length_cons, List.length_nil]; omega) (Ev.pos (by simp only [zb, List.length_append, List.length_cons, List.length_nil]; omega) (Ev.bind (zaa x.f3 h.2.2.2) ?_))
 simp only [zo]
 refine Ev.pos (by simp only [zb, List.length_append, List.length_cons, List.length_nil]; omega) (Ev.pos (by simp only [zb, List.length_append, List.length_cons, List.length_nil]; omega) ?_)
 exact hr
theorem zqg (n : Int) (hn : 1 ≤ n ∧ n ≤ 8) (l : List S42) (hl : l.length ≤ 6) (hc : l.all (cokS n) = true) : ∀ (d i : Nat) (o : List UInt8), i + d = l.length → 1 ≤ i → o.length ≤ 100 + 12 * i → Ev (fun k => spec_pzText.l0 k (up o) l (l.length : Int) (i : Int)) (up (o ++ Go.Lib.joinTail [44] ((l.drop i).map ct))) := by
 intro d
 induction d with
 | zero =>
  intro i o hi h1 ho
  refine Ev.succ ?_
  simp only [spec_pzText.l0]
  rw [List.drop_of_length_le (by omega)]
  refine Ev.neg (by omega) (Ev.const ?_)
  simp [Go.Lib.joinTail]
 | succ d ih =>
  intro i o hi h1 ho
  have hi2 : i < l.length := by omega
  have hk := zcb hn (List.all_eq_true.1 hc _ (List.getElem_mem hi2))
  have hlen := zoc hk
  refine Ev.succ ?_
  simp only [spec_pzText.l0]
  rw [zv hi2, List.drop_eq_getElem_cons hi2, List.map_cons, zlc]
  have e : up o ++ (⟨#[44]⟩ : ByteArray) = up (o ++ [44]) := zo o [44]
  rw [e]
  refine Ev.pos (by omega) (Ev.pos (by omega) (Ev.pos (by omega) (Ev.pos (by omega) (Ev.pos (by rw [zb]; omega) ?_))))
  refine j1_ev _ hk _ (by rw [List.length_append, List.length_singleton]; omega) _ _ _ _ ?_
  rw [show ((i : Int)) + 1 = ((i + 1 : Nat) : Int) by omega, za (by omega) (by omega)]
  have := ih (i + 1) (o ++ [44] ++ ct l[i]) (by omega) (by omega) (by simp only [List.length_append, List.length_cons, List.length_nil]; omega)
  simpa only [List.append_assoc] using this
theorem zdh (n : Int) (hn : 1 ≤ n ∧ n ≤ 8) (l : List S42) (hl : l.length ≤ 6) (hc : l.all (cokS n) = true) : Ev (fun k => spec_pzText.f k n l) (up (ptx n l)) := by
 have h0 := zm n (by omega)
 unfold spec_pzText.f ptx
 refine Ev.bind (zaa n (by omega)) (Ev.pos (by rw [zb]; omega) ?_)
 have e : up (dd n) ++ (⟨#[58]⟩ : ByteArray) = up (dd n ++ [58]) := zo _ [58]
 rw [e]
 cases l with
 | nil =>
  refine Ev.succ ?_
  simp only [spec_pzText.l0]
  refine Ev.neg (by simp) (Ev.const ?_)
  simp [Go.Lib.join_nil]
 | cons x r =>
  have hk := zcb hn (List.all_eq_true.1 hc x (by simp))
  have hlen := zoc hk
  refine Ev.succ ?_
  simp only [spec_pzText.l0]
  have hpos : 0 < (x :: r).length := by simp
  have e0 : rd_T42 (x :: r) 0 = x := zv hpos
  rw [e0, List.map_cons, Go.Lib.join_cons]
  refine Ev.pos (by omega) (Ev.pos (by omega) (Ev.pos (by omega) (Ev.neg (by omega) ?_)))
  refine j1_ev _ hk _ (by rw [List.length_append, List.length_singleton]; omega) _ _ _ _ ?_
  have := zqg n hn (x :: r) hl hc r.length 1 (dd n ++ [58] ++ ct x) (by simp; omega) (by omega) (by simp only [List.length_append, List.length_cons, List.length_nil]; omega)
  rw [show wrap64 (0 + 1) = ((1 : Nat) : Int) from (za (x := 0 + 1) (by omega) (by omega)).trans rfl]
  simpa only [List.append_assoc, List.drop_succ_cons, List.drop_zero] using this
theorem zkf (n : Int) (hn : 1 ≤ n ∧ n ≤ 8) (l : List S42) (hl : l.length ≤ 6) (hc : l.all (cokS n) = true) : strings_Join.f (l.map fun x => up (ct x)) (⟨#[44]⟩ : ByteArray) = some (up (Go.Lib.join (l.map ct) [44])) := by
 have e : (l.map fun x => up (ct x)).map (·.data.toList) = l.map ct := by simp [Function.comp_def]
 have hj := zfb (l.map ct) (by
  intro y hy
  obtain ⟨x, hx, rfl⟩ := List.mem_map.1 hy
  exact zoc (zcb hn (List.all_eq_true.1 hc x hx)))
 rw [List.length_map] at hj
 unfold strings_Join.f
 rw [e]
 exact if_pos ⟨by rw [List.length_map]; omega, by show (Go.Lib.join (l.map ct) [44]).length ≤ _; omega⟩
theorem zhd (n : Int) (hn : 1 ≤ n ∧ n ≤ 8) (l : List S42) (hl : l.length ≤ 6) (hc : l.all (cokS n) = true) : ∀ (d i : Nat), i + d = l.length → Ev (fun k => impl_puzzleText.l0 k ((l.take i).map fun x => up (ct x)) l (l.length : Int) (i : Int) n l) (up (ptx n l)) := by
 have h0 := zm n (by omega)
 intro d
 induction d with
 | zero =>
  intro i hi
  refine Ev.succ ?_
  simp only [impl_puzzleText.l0]
  rw [List.take_of_length_le (by omega), zkf n hn l hl hc, zsa n (by omega)]
  have hj := zfb (l.map ct) (by
   intro y hy
   obtain ⟨x, hx, rfl⟩ := List.mem_map.1 hy
   exact zoc (zcb hn (List.all_eq_true.1 hc x hx)))
  rw [List.length_map] at hj
  simp only [Option.bind_some, zo]
  refine Ev.neg (by omega) (Ev.pos (by rw [zb]; omega) (Ev.pos (by simp only [zb, List.length_append, List.length_cons, List.length_nil]; omega) (Ev.now _)))
 | succ d ih =>
  intro i hi
  have hi2 : i < l.length := by omega
  have hk := zcb hn (List.all_eq_true.1 hc _ (List.getElem_mem hi2))
  have h1 := zm _ hk.1
  have h2 := zm _ hk.2.1
  have h3 := zm _ hk.2.2.1
  have h4 := zm _ hk.2.2.2
  refine Ev.succ ?_
  simp only [impl_puzzleText.l0]
  rw [zv hi2, zsa _ hk.1, zsa _ hk.2.1, zsa _ hk.2.2.1, zsa _ hk.2.2.2, za (x := (i : Int) + 1) (by omega) (by omega)]
  simp only [Option.bind_some, zo]
  refine Ev.pos (by omega) (Ev.pos (by omega) (Ev.pos (by omega) (Ev.pos (by simp only [zb]; omega) (Ev.pos (by simp only [zb, List.length_append, List.length_cons, List.length_nil]; omega) (Ev.pos (by simp only [zb, List.length_append, List.length_cons, List.length_nil]; omega) (Ev.pos (by simp only [zb, List.length_append, List.length_cons, List.length_nil]; omega) (Ev.pos (by simp only [zb, List.length_append, List.length_cons, List.length_nil]; omega) (Ev.pos (by simp only [zb, List.length_append, List.length_cons, List.length_nil]; omega) (Ev.pos (by rw [List.length_map, List.length_take]; omega) ?_)))))))))
  have := ih (i + 1) (by omega)
  rw [List.take_add_one, List.getElem?_eq_getElem hi2, Option.toList_some, List.map_append] at this
  exact this
def fptx (n : Int) (l : List S42) : ByteArray × Bool := if pgood n l = true then (up (ptx n l), true) else (⟨#[]⟩, false)
theorem zuh (n : Int) (l : List S42) (hl : l.length ≤ 4398046510976) : Ev (fun k => spec_PuzzleText.f k n l) (fptx n l) := by
 unfold spec_PuzzleText.f fptx
 refine Ev.bind (ze n l hl) ?_
 by_cases hg : pgood n l = true
 ·have h := zc hg
  rw [if_pos hg, hg]
  exact Ev.pos rfl (Ev.bind (zdh n h.1 l h.2.1 h.2.2) (Ev.now _))
 ·rw [if_neg hg]
  exact Ev.neg hg (Ev.now _)
theorem zmf (n : Int) (l : List S42) (hl : l.length ≤ 4398046510976) : Ev (fun k => impl_PuzzleText.f k n l) (fptx n l) := by
 unfold impl_PuzzleText.f fptx
 refine Ev.bind (zg n l (by omega)) ?_
 by_cases hg : pgood n l = true
 ·have h := zc hg
  rw [if_pos hg, hg]
  refine Ev.pos rfl (Ev.bind ?_ (Ev.now _))
  unfold impl_puzzleText.f
  exact zhd n h.1 l h.2.1 h.2.2 l.length 0 (by omega)
 ·rw [if_neg hg]
  exact Ev.neg hg (Ev.now _)
theorem zth (s : List UInt8) (a b : Nat) : (up s).extract a b = up ((s.drop a).take (b - a)) := L_inj (by rw [L_mk]; show ((up s).extract a b).data.toList = _; rw [Go.Lib.extract_data])
theorem zac (s : List UInt8) (hs : s.length ≤ 1000000000) (c : UInt8) : ∀ (d i a : Nat) (acc : List ByteArray), i + d = s.length → a ≤ i → acc.length ≤ i →
  Ev (fun k => spec_l1Split.l0 k (up s) (c.toNat : Int) acc (a : Int) (i : Int)) (acc ++ (spA c ((s.drop a).take (i - a)) (s.drop i)).map up) := by
 have hz := zd s
 intro d
 induction d with
 | zero =>
  intro i a acc hi ha hc
  refine Ev.succ ?_
  simp only [spec_l1Split.l0]
  refine Ev.neg (by omega) (Ev.pos (by omega) (Ev.pos (by omega) (Ev.pos (by omega) (Ev.const ?_))))
  have e1 : s.drop i = [] := List.drop_of_length_le (by omega)
  have e2 : (s.drop a).take (i - a) = s.drop a := List.take_of_length_le (by simp; omega)
  rw [e1, e2, Int.toNat_natCast, zre]
  simp [spA]
 | succ d ih =>
  intro i a acc hi ha hc
  have hlt : i < s.length := by omega
  refine Ev.succ ?_
  simp only [spec_l1Split.l0]
  have e0 : s.drop i = s[i] :: s.drop (i + 1) := List.drop_eq_getElem_cons hlt
  refine Ev.pos (by omega) (Ev.pos (by omega) (Ev.iff (fun hb => ?_) (fun hb => ?_)))
  ·have hx := (up_bt s i hlt c).1 hb
   refine Ev.pos (by omega) (Ev.pos (by omega) (Ev.pos (by omega) (Ev.pos (by omega) ?_)))
   rw [show (i : Int) + 1 = ((i + 1 : Nat) : Int) by omega, za (x := ((i + 1 : Nat) : Int)) (by omega) (by omega), Int.toNat_natCast, Int.toNat_natCast, zth]
   have h := ih (i + 1) (i + 1) (acc ++ [up ((s.drop a).take (i - a))]) (by omega) (by omega) (by simp; omega)
   rw [e0, hx, spA, if_pos rfl]
   simpa using h
  ·have hx : ¬ s[i] = c := fun e => hb ((up_bt s i hlt c).2 e)
   rw [show (i : Int) + 1 = ((i + 1 : Nat) : Int) by omega, za (x := ((i + 1 : Nat) : Int)) (by omega) (by omega)]
   have h := ih (i + 1) a acc (by omega) (by omega) (by omega)
   have e2 : (s.drop a).take (i - a) ++ [s[i]] = (s.drop a).take (i + 1 - a) := by
    rw [show i + 1 - a = (i - a) + 1 by omega, List.take_add_one, List.getElem?_drop, show a + (i - a) = i by omega, List.getElem?_eq_getElem hlt]
    rfl
   rw [e0, spA, if_neg hx, e2]
   exact h
theorem zea (s : List UInt8) (hs : s.length ≤ 1000000000) (c : UInt8) : Ev (fun k => spec_l1Split.f k (up s) (c.toNat : Int)) ((spA c [] s).map up) := by
 have h := zac s hs c s.length 0 0 [] (by omega) (by omega) (by simp)
 unfold spec_l1Split.f
 simpa using h
theorem zbd (p : ByteArray) : ∀ (d i : Nat) (acc : Int), i + d = p.size → i ≤ 10 → p.size ≤ 10 → ∃ v, Ev (fun k => spec_l1Read.l0 k p acc (i : Int)) v := by
 intro d
 induction d with
 | zero =>
  intro i acc hi h1 h2
  refine ⟨acc, Ev.succ ?_⟩
  simp only [spec_l1Read.l0]
  exact Ev.neg (by omega) (Ev.now _)
 | succ d ih =>
  intro i acc hi h1 h2
  by_cases c1 : bt p (i : Int) < 48
  ·refine ⟨-1, Ev.succ ?_⟩
   simp only [spec_l1Read.l0]
   exact Ev.pos (by omega) (Ev.pos (by omega) (Ev.pos c1 (Ev.now _)))
  ·by_cases c2 : bt p (i : Int) > 57
   ·refine ⟨-1, Ev.succ ?_⟩
    simp only [spec_l1Read.l0]
    exact Ev.pos (by omega) (Ev.pos (by omega) (Ev.neg c1 (Ev.pos c2 (Ev.now _))))
   ·obtain ⟨v, hv⟩ := ih (i + 1) (wrap64 ((wrap64 (10 * acc)) + (((bt p (i : Int)) - 48) % 256))) (by omega) (by omega) h2
    refine ⟨v, Ev.succ ?_⟩
    simp only [spec_l1Read.l0]
    rw [show (i : Int) + 1 = ((i + 1 : Nat) : Int) by omega, za (x := ((i + 1 : Nat) : Int)) (by omega) (by omega)]
    exact Ev.pos (by omega) (Ev.pos (by omega) (Ev.neg c1 (Ev.neg c2 hv)))
theorem zia (p : ByteArray) : ∃ v, Ev (fun k => spec_l1Read.f k p) v := by
 have hT : Ev (fun k => spec_l1Read.j0 k p true) (-1) := Ev.succ (by simp only [spec_l1Read.j0]; exact Ev.pos trivial (Ev.now _))
 unfold spec_l1Read.f
 simp only [zrb, Option.bind_some]
 by_cases h : 1 ≤ (p.size : Int) ∧ (p.size : Int) ≤ 6
 ·obtain ⟨v, hv⟩ := zbd p p.size 0 0 (by omega) (by omega) (by omega)
  have hF : Ev (fun k => spec_l1Read.j0 k p false) v := Ev.succ (by simp only [spec_l1Read.j0]; exact Ev.neg (by decide) hv)
  have hB : ∀ b, ∃ u, Ev (fun k => spec_l1Read.j0 k p b) u := fun b => by cases b; exact ⟨v, hF⟩; exact ⟨-1, hT⟩
  obtain ⟨u, hu⟩ := hB (decide ((p.size : Int) > 1))
  by_cases h0 : bt p 0 = 48
  ·exact ⟨u, Ev.pos (by simpa using h) (Ev.pos (by omega) (Ev.pos h0 hu))⟩
  ·exact ⟨v, Ev.pos (by simpa using h) (Ev.pos (by omega) (Ev.neg h0 hF))⟩
 ·exact ⟨-1, Ev.neg (by simpa using h) hT⟩
theorem zw (s : List UInt8) (i d : Nat) (hi : i < s.length) (hs : s.length ≤ 10) (hd : d < 10) (hx : s[i] = UInt8.ofNat (48 + d)) (acc : Int) (ha : 0 ≤ acc ∧ acc < 1000) (R : Int)
  (h : Ev (fun k => spec_l1Read.l0 k (up s) (10 * acc + (d : Int)) ((i + 1 : Nat) : Int)) R) : Ev (fun k => spec_l1Read.l0 k (up s) acc (i : Int)) R := by
 have hz := zd s
 have hb : bt (up s) (i : Int) = 48 + (d : Int) := by
  rw [zab (up s) i (by rw [L_mk]; exact hi)]
  have e : (L (up s))[i]'(by rw [L_mk]; exact hi) = s[i] := by simp [L]
  rw [e, hx, zca d hd]; omega
 refine Ev.succ ?_
 simp only [spec_l1Read.l0]
 rw [hb, show (i : Int) + 1 = ((i + 1 : Nat) : Int) by omega, za (x := ((i + 1 : Nat) : Int)) (by omega) (by omega), za (x := 10 * acc) (by omega) (by omega), show (48 + (d : Int) - 48) % 256 = (d : Int) by omega, za (x := 10 * acc + (d : Int)) (by omega) (by omega)]
 exact Ev.pos (by omega) (Ev.pos (by omega) (Ev.neg (by omega) (Ev.neg (by omega) h)))
theorem zeb (s : List UInt8) (v : Int) : Ev (fun k => spec_l1Read.l0 k (up s) v (s.length : Int)) v := by
 have hz := zd s
 refine Ev.succ ?_
 simp only [spec_l1Read.l0]
 exact Ev.neg (by omega) (Ev.now _)
theorem zte (a : Int) (h : 0 ≤ a ∧ a < 100) : Ev (fun k => spec_l1Read.f k (up (dd a))) a := by
 unfold spec_l1Read.f
 simp only [zrb, Option.bind_some]
 rcases zqb a h with ⟨d, hd, e0, e⟩ | ⟨x, d, hx0, hx, hd, e0, e⟩
 ·rw [e]
  have hz := zd [UInt8.ofNat (48 + d)]
  simp only [List.length_cons, List.length_nil] at hz
  have hF : Ev (fun k => spec_l1Read.j0 k (up [UInt8.ofNat (48 + d)]) false) a := by
   refine Ev.succ ?_
   simp only [spec_l1Read.j0]
   refine Ev.neg (by decide) (zw _ 0 d (by simp) (by simp) hd rfl 0 (by omega) a ?_)
   have := zeb [UInt8.ofNat (48 + d)] a
   rw [show 10 * (0 : Int) + (d : Int) = a by omega]
   exact this
  refine Ev.pos (decide_eq_true (by omega)) (Ev.pos (by omega) (Ev.iff (fun _ => ?_) (fun _ => hF)))
  rw [show decide (((up [UInt8.ofNat (48 + d)]).size : Int) > 1) = false from decide_eq_false (by omega)]
  exact hF
 ·rw [e]
  have hz := zd [UInt8.ofNat (48 + x), UInt8.ofNat (48 + d)]
  simp only [List.length_cons, List.length_nil] at hz
  have hb : ¬ bt (up [UInt8.ofNat (48 + x), UInt8.ofNat (48 + d)]) 0 = 48 := by
   have h1 := zab (up [UInt8.ofNat (48 + x), UInt8.ofNat (48 + d)]) 0 (by rw [L_mk]; simp)
   have e1 : (L (up [UInt8.ofNat (48 + x), UInt8.ofNat (48 + d)]))[0]'(by rw [L_mk]; simp) = UInt8.ofNat (48 + x) := by simp [L]
   rw [e1, zca x hx] at h1
   have h2 : bt (up [UInt8.ofNat (48 + x), UInt8.ofNat (48 + d)]) 0 = ((48 + x : Nat) : Int) := h1
   omega
  refine Ev.pos (decide_eq_true (by omega)) (Ev.pos (by omega) (Ev.neg hb (Ev.succ ?_)))
  simp only [spec_l1Read.j0]
  refine Ev.neg (by decide) (zw _ 0 x (by simp) (by simp) hx rfl 0 (by omega) a (zw _ 1 d (by simp) (by simp) hd rfl _ (by omega) a ?_))
  have := zeb [UInt8.ofNat (48 + x), UInt8.ofNat (48 + d)] a
  rw [show 10 * (10 * (0 : Int) + (x : Int)) + (d : Int) = a by omega]
  exact this
noncomputable def l1R (p : List UInt8) : Int := Classical.choose (zia (up p))
theorem zdb (p : List UInt8) : Ev (fun k => spec_l1Read.f k (up p)) (l1R p) := Classical.choose_spec (zia (up p))
theorem zec (a : Int) (h : 0 ≤ a ∧ a < 100) : l1R (dd a) = a := Ev.uniq (zdb (dd a)) (zte a h)
theorem rd_up (ws : List (List UInt8)) (i : Nat) (h : i < ws.length) : rdOf ByteArray.empty (ws.map up) (i : Int) = up ws[i] := by
 rw [zr (by simpa using h)]; simp
def rdAll (rc : List UInt8 → Option S42) : List (List UInt8) → Option (List S42)
 | [] => some []
 | w :: r => match rc w with
  | none => none
  | some x => (rdAll rc r).map (x :: ·)
theorem zlb {rc : List UInt8 → Option S42} : ∀ (l : List S42), (∀ x ∈ l, rc (ct x) = some x) → rdAll rc (l.map ct) = some l
 | [], _ => rfl
 | x :: r, h => by
  rw [List.map_cons, rdAll, h x (by simp), zlb r (fun y hy => h y (by simp [hy]))]
  rfl
theorem zkh (x : S42) (h : (0 ≤ x.f0 ∧ x.f0 < 100) ∧ (0 ≤ x.f1 ∧ x.f1 < 100) ∧ (0 ≤ x.f2 ∧ x.f2 < 100) ∧ (0 ≤ x.f3 ∧ x.f3 < 100)) : spA 46 [] (ct x) = [dd x.f0, dd x.f1, dd x.f2, dd x.f3] := by
 have h0 := zt _ h.1 46 (by decide)
 have h1 := zt _ h.2.1 46 (by decide)
 have h2 := zt _ h.2.2.1 46 (by decide)
 have h3 := zt _ h.2.2.2 46 (by decide)
 unfold ct
 simp only [List.append_assoc, List.singleton_append, List.cons_append, List.nil_append]
 rw [zu 46 _ _ [] h0, zu 46 _ _ [] h1, zu 46 _ _ [] h2, zmc 46 _ [] h3]
 rfl
theorem zsh (x : S42) (h : (0 ≤ x.f0 ∧ x.f0 < 100) ∧ (0 ≤ x.f1 ∧ x.f1 < 100) ∧ (0 ≤ x.f2 ∧ x.f2 < 100) ∧ (0 ≤ x.f3 ∧ x.f3 < 100)) (c : UInt8) (hc : c.toNat < 46 ∨ 57 < c.toNat) : c ∉ ct x := by
 have h0 := zt _ h.1 c (by omega)
 have h1 := zt _ h.2.1 c (by omega)
 have h2 := zt _ h.2.2.1 c (by omega)
 have h3 := zt _ h.2.2.2 c (by omega)
 have h4 : ¬ c = 46 := by rintro rfl; revert hc; decide
 unfold ct
 simp only [List.mem_append, List.mem_cons, List.not_mem_nil, or_false, not_or]
 exact ⟨⟨⟨⟨⟨⟨h0, h4⟩, h1⟩, h4⟩, h2⟩, h4⟩, h3⟩
theorem ct_ne (x : S42) : ct x ≠ [] := by unfold ct; simp
theorem zjh (c s : UInt8) (hcs : c ≠ s) : ∀ (ps : List (List UInt8)) (p : List UInt8), (∀ q ∈ p :: ps, c ∉ q) → c ∉ jn s p ps
 | [], p, h => by rw [jn]; exact h p (by simp)
 | q :: r, p, h => by
  rw [jn]
  simp only [List.mem_append, List.mem_cons, not_or]
  exact ⟨h p (by simp), hcs, zjh c s hcs r q (fun z hz => h z (by simp at hz ⊢; exact .inr hz))⟩
theorem zz {n : Int} {l : List S42} (h : pgood n l = true) : ∀ x ∈ l, (0 ≤ x.f0 ∧ x.f0 < 100) ∧ (0 ≤ x.f1 ∧ x.f1 < 100) ∧ (0 ≤ x.f2 ∧ x.f2 < 100) ∧ (0 ≤ x.f3 ∧ x.f3 < 100) := by
 intro x hx
 obtain ⟨h1, _, h3⟩ := zc h
 exact zcb h1 (List.all_eq_true.1 h3 x hx)
theorem zza {n : Int} {l : List S42} (h : pgood n l = true) : (l = [] ∧ Go.Lib.join (l.map ct) [44] = []) ∨ (Go.Lib.join (l.map ct) [44] ≠ [] ∧ spA 44 [] (Go.Lib.join (l.map ct) [44]) = l.map ct) := by
 have hr := zz h
 cases l with
 | nil => exact .inl ⟨rfl, by simp [Go.Lib.join_nil]⟩
 | cons x r =>
  right
  rw [List.map_cons, zdd]
  refine ⟨?_, zmh 44 _ _ ?_⟩
  ·have := ct_ne x
   cases r with
   | nil => rw [List.map_nil, jn]; exact this
   | cons y r => rw [List.map_cons, jn]; simp
  ·intro q hq
   rw [← List.map_cons, List.mem_map] at hq
   obtain ⟨y, hy, rfl⟩ := hq
   exact zsh y (hr y hy) 44 (by decide)
theorem zpg {n : Int} {l : List S42} (h : pgood n l = true) : (58 : UInt8) ∉ Go.Lib.join (l.map ct) [44] := by
 have hr := zz h
 cases l with
 | nil => simp [Go.Lib.join_nil]
 | cons x r =>
  rw [List.map_cons, zdd]
  refine zjh 58 44 (by decide) _ _ ?_
  intro q hq
  rw [← List.map_cons, List.mem_map] at hq
  obtain ⟨y, hy, rfl⟩ := hq
  exact zsh y (hr y hy) 58 (by decide)
abbrev pbad : Int × List S42 × Bool := (0, [], false)
open Classical in
noncomputable def pfin (s : List UInt8) (n : Int) (cl : List S42) : Int × List S42 × Bool := if pgood n cl = true ∧ ptx n cl = s then (n, cl, true) else pbad
open Classical in
noncomputable def pthen (s : List UInt8) (n : Int) (cl : List S42) : Option (List S42) → Int × List S42 × Bool
 | none => pbad
 | some cs => pfin s n (cl ++ cs)
theorem zig {w : List UInt8} {v : Int} (hw : w.length ≤ 281474976710656) (h : Go.Lib.atoiAll w = .ok v) : strconv_Atoi.f (up w) = some (v, none) := by
 unfold strconv_Atoi.f
 rw [if_pos (by rw [zb]; exact hw)]
 have e : (up w).data.toList = w := L_mk w
 rw [e, h]
theorem zkb {w : List UInt8} (hw : w.length ≤ 281474976710656) (h : ∀ v, Go.Lib.atoiAll w ≠ .ok v) : ∃ x q, strconv_Atoi.f (up w) = some (x, some q) := by
 unfold strconv_Atoi.f
 rw [if_pos (by rw [zb]; exact hw)]
 have e : (up w).data.toList = w := L_mk w
 rw [e]
 cases h0 : Go.Lib.atoiAll w
 ·rename_i v; exact absurd h0 (h v)
 ·exact ⟨_, _, rfl⟩
 ·exact ⟨_, _, rfl⟩
def rdN : List (List UInt8) → Option (List Int)
 | [] => some []
 | w :: r => match Go.Lib.atoiAll w with
  | .ok v => (rdN r).map (v :: ·)
  | _ => none
def imC (w : List UInt8) : Option S42 := match rdN (spA 46 [] w) with
 | some [a, b, c, d] => some ⟨a, b, c, d⟩
 | _ => none
theorem zqd (c : UInt8) (w : List UInt8) (hw : w.length ≤ 1000000000) : strings_Split.f (up w) (⟨#[c]⟩ : ByteArray) = some ((spA c [] w).map up) := by
 unfold strings_Split.f
 rw [if_pos ⟨by rw [zb]; omega, Nat.le_refl 1⟩, zzd]
theorem im_j2 (s : ByteArray) (n : Int) (cl : List S42) (hl : cl.length ≤ 1000000000) : Ev (fun k => impl_ParsePuzzle.j2 k s n cl) (pfin (L s) n cl) := by
 refine Ev.succ ?_
 simp only [impl_ParsePuzzle.j2]
 refine Ev.bind (zg n cl (by omega)) ?_
 by_cases hg : pgood n cl = true
 ·have h := zc hg
  rw [hg]
  have hT : Ev (fun k => impl_puzzleText.f k n cl) (up (ptx n cl)) := by
   unfold impl_puzzleText.f
   exact zhd n h.1 cl h.2.1 h.2.2 cl.length 0 (by omega)
  refine Ev.pos rfl (Ev.bind hT ?_)
  rw [zi, zi, L_mk]
  by_cases ht : ptx n cl = L s
  ·have e : pfin (L s) n cl = (n, cl, true) := by unfold pfin; rw [if_pos ⟨hg, ht⟩]
   rw [e]; exact Ev.pos ht (Ev.now _)
  ·have e : pfin (L s) n cl = pbad := by unfold pfin; rw [if_neg (fun h => ht h.2)]
   rw [e]; exact Ev.neg ht (Ev.now _)
 ·have e : pfin (L s) n cl = pbad := by unfold pfin; rw [if_neg (fun h => hg h.1)]
  rw [e]
  exact Ev.neg hg (Ev.now _)
theorem im_l1 (s r : ByteArray) (ws0 : List ByteArray) (m i0 n : Int) (cl : List S42) (hcl : cl.length ≤ 1000000000) (ws : List (List UInt8)) (hw : ws.length ≤ 1000000000) (hs : ∀ w ∈ ws, w.length ≤ 281474976710656) (R : Int × List S42 × Bool)
  (hR : ∀ a b c d, rdN ws = some [a, b, c, d] → Ev (fun k => impl_ParsePuzzle.l0 k s r ws0 m (wrap64 (i0 + 1)) n (cl ++ [⟨a, b, c, d⟩])) R) (hbad : (∀ a b c d, rdN ws ≠ some [a, b, c, d]) → R = pbad) :
  ∀ (d i : Nat) (acc : List Int), i + d = ws.length → acc.length = i → rdN ws = (rdN (ws.drop i)).map (acc ++ ·) →
   Ev (fun k => impl_ParsePuzzle.l1 k s r acc ws0 m i0 (ws.map up) ((ws.map up).length : Int) (i : Int) n cl) R := by
 have hz : ((ws.map up).length : Int) = (ws.length : Int) := by simp
 intro d
 induction d with
 | zero =>
  intro i acc hi ha hq
  refine Ev.succ ?_
  simp only [impl_ParsePuzzle.l1]
  have e1 : ws.drop i = [] := List.drop_of_length_le (by omega)
  rw [e1] at hq
  simp only [rdN, Option.map_some, List.append_nil] at hq
  refine Ev.neg (by omega) (Ev.iff (fun h4 => ?_) (fun h4 => ?_))
  ·match acc, h4 with
   | [a, b, c, d], _ => exact Ev.pos (by simp) (Ev.pos (by simp) (Ev.pos (by simp) (Ev.pos (by simp) (Ev.pos (by omega) (hR a b c d hq)))))
   | [], h => simp at h
   | [_], h => simp at h
   | [_, _], h => simp at h
   | [_, _, _], h => simp at h
   | _ :: _ :: _ :: _ :: _ :: _, h => simp at h; omega
  ·rw [hbad (fun a b c d h => by rw [hq] at h; have h := Option.some.inj h; subst h; exact h4 (by simp))]
   exact Ev.now _
 | succ d ih =>
  intro i acc hi ha hq
  have hlt : i < ws.length := by omega
  have e0 : ws.drop i = ws[i] :: ws.drop (i + 1) := List.drop_eq_getElem_cons hlt
  refine Ev.succ ?_
  simp only [impl_ParsePuzzle.l1]
  rw [rd_up ws i hlt]
  have hsz := hs ws[i] (List.getElem_mem hlt)
  refine Ev.pos (by omega) (Ev.pos (by omega) (Ev.pos (by omega) ?_))
  by_cases hv : ∃ v, Go.Lib.atoiAll ws[i] = .ok v
  ·obtain ⟨v, hv⟩ := hv
   rw [zig hsz hv]
   simp only [Option.bind_some]
   rw [show (i : Int) + 1 = ((i + 1 : Nat) : Int) by omega, za (x := ((i + 1 : Nat) : Int)) (by omega) (by omega)]
   refine Ev.pos rfl (Ev.pos (by omega) (ih (i + 1) (acc ++ [v]) (by omega) (by simp; omega) ?_))
   rw [hq, e0, rdN, hv]
   simp only [Option.map_map]
   congr 1
   funext t
   simp
  ·obtain ⟨x, q, hb⟩ := zkb hsz (fun v h => hv ⟨v, h⟩)
   rw [hb]
   simp only [Option.bind_some]
   have hn : rdN ws = none := by
    rw [hq, e0, rdN]
    cases h0 : Go.Lib.atoiAll ws[i]
    ·rename_i v; exact absurd ⟨v, h0⟩ hv
    ·rfl
    ·rfl
   rw [hbad (fun a b c d h => by rw [hn] at h; cases h)]
   exact Ev.neg (by simp) (Ev.now _)
theorem im_l0 (s : ByteArray) (r : List UInt8) (hr : r ≠ []) (ws : List (List UInt8)) (hw : ws.length ≤ 10000000) (hs : ∀ w ∈ ws, w.length ≤ 10000000) (n : Int) : ∀ (d i : Nat) (cl : List S42), i + d = ws.length → cl.length = i →
  Ev (fun k => impl_ParsePuzzle.l0 k s (up r) (ws.map up) ((ws.map up).length : Int) (i : Int) n cl) (pthen (L s) n cl (rdAll imC (ws.drop i))) := by
 have hz : ((ws.map up).length : Int) = (ws.length : Int) := by simp
 intro d
 induction d with
 | zero =>
  intro i cl hi hc
  refine Ev.succ ?_
  simp only [impl_ParsePuzzle.l0]
  have e1 : ws.drop i = [] := List.drop_of_length_le (by omega)
  rw [e1, rdAll, pthen, List.append_nil]
  exact Ev.neg (by omega) (im_j2 s n cl (by omega))
 | succ d ih =>
  intro i cl hi hc
  have hlt : i < ws.length := by omega
  have e0 : ws.drop i = ws[i] :: ws.drop (i + 1) := List.drop_eq_getElem_cons hlt
  refine Ev.succ ?_
  simp only [impl_ParsePuzzle.l0]
  have hsz := hs ws[i] (List.getElem_mem hlt)
  rw [rd_up ws i hlt, zi, L_mk, zqd 46 ws[i] (by omega)]
  simp only [Option.bind_some]
  refine Ev.pos (by omega) (Ev.pos (by omega) (Ev.pos (by omega) (Ev.neg hr ?_)))
  have hlen := zoa 46 ws[i] []
  refine im_l1 s (up r) (ws.map up) _ (i : Int) n cl (by omega) (spA 46 [] ws[i]) (by omega) (fun w hm => ?_) _ (fun a b c d h => ?_) (fun h => ?_) (spA 46 [] ws[i]).length 0 [] (by omega) rfl (by simp)
  ·have := zfa 46 ws[i] [] w hm
   simp only [List.length_nil] at this; omega
  ·rw [show (i : Int) + 1 = ((i + 1 : Nat) : Int) by omega, za (x := ((i + 1 : Nat) : Int)) (by omega) (by omega)]
   have h2 := ih (i + 1) (cl ++ [⟨a, b, c, d⟩]) (by omega) (by simp; omega)
   have e2 : imC ws[i] = some ⟨a, b, c, d⟩ := by unfold imC; rw [h]
   rw [e0, rdAll, e2]
   cases h3 : rdAll imC (ws.drop (i + 1)) with
   | none => rw [h3] at h2; exact h2
   | some cs => rw [h3] at h2; simp only [pthen, Option.map_some] at h2 ⊢; simpa using h2
  ·have e2 : imC ws[i] = none := by
    unfold imC
    split
    ·next a b c d h0 => exact absurd h0 (h a b c d)
    ·rfl
   rw [e0, rdAll, e2]
   rfl
open Classical in
noncomputable def imP (s : List UInt8) : Int × List S42 × Bool :=
 match Go.Lib.atoiAll (Go.Lib.cut s [58]).1 with
 | .ok n => if (Go.Lib.cut s [58]).2.1 = [] then pfin s n [] else pthen s n [] (rdAll imC (spA 44 [] (Go.Lib.cut s [58]).2.1))
 | _ => pbad
theorem zzh (s sep : List UInt8) : (Go.Lib.cut s sep).1.length ≤ s.length ∧ (Go.Lib.cut s sep).2.1.length ≤ s.length := by
 unfold Go.Lib.cut
 split
 ·simp; omega
 ·simp
theorem zsi (s : List UInt8) (hs : s.length ≤ 1048576) : Ev (fun k => impl_ParsePuzzle.f k (up s)) (imP s) := by
 unfold impl_ParsePuzzle.f strings_Cut.f imP
 have e : (up s).data.toList = s := L_mk s
 have e2 : ((⟨#[58]⟩ : ByteArray)).data.toList = [58] := rfl
 rw [if_pos (by rw [zb]; omega), e, e2]
 simp only [Option.bind_some]
 obtain ⟨h1, h2⟩ := zzh s [58]
 generalize (Go.Lib.cut s [58]).1 = a at h1
 generalize (Go.Lib.cut s [58]).2.1 = r at h2
 cases h0 : Go.Lib.atoiAll a
 ·rename_i n
  have h3 : strconv_Atoi.f ⟨a.toArray⟩ = some (n, none) := zig (by omega) h0
  have h4 : strings_Split.f ⟨r.toArray⟩ (⟨#[44]⟩ : ByteArray) = some ((spA 44 [] r).map up) := zqd 44 r (by omega)
  rw [h3, h4]
  simp only [Option.bind_some]
  refine Ev.pos rfl ?_
  by_cases hr : r = []
  ·subst hr
   rw [if_pos rfl]
   refine Ev.succ ?_
   simp only [impl_ParsePuzzle.l0, spA]
   have e3 : (⟨([] : List UInt8).toArray⟩ : ByteArray).toList = [] := by rw [zi, L_mk]
   have h5 := im_j2 (up s) n [] (by simp)
   rw [show L (up s) = s from L_mk s] at h5
   exact Ev.pos (by simp) (Ev.pos (by omega) (Ev.pos (by simp) (Ev.pos e3 h5)))
  ·rw [if_neg hr]
   have hlen := zoa 44 r []
   have h5 := im_l0 (up s) r hr (spA 44 [] r) (by omega) (fun w hm => by have := zfa 44 r [] w hm; simp only [List.length_nil] at this; omega) n (spA 44 [] r).length 0 [] (by omega) rfl
   rw [show L (up s) = s from L_mk s] at h5
   exact h5
 ·obtain ⟨x, q, h3⟩ := zkb (w := a) (by omega) (fun v h => by rw [h0] at h; cases h)
  have h3 : strconv_Atoi.f ⟨a.toArray⟩ = some (x, some q) := h3
  rw [h3]
  simp only [Option.bind_some]
  exact Ev.neg (by simp) (Ev.now _)
 ·obtain ⟨x, q, h3⟩ := zkb (w := a) (by omega) (fun v h => by rw [h0] at h; cases h)
  have h3 : strconv_Atoi.f ⟨a.toArray⟩ = some (x, some q) := h3
  rw [h3]
  simp only [Option.bind_some]
  exact Ev.neg (by simp) (Ev.now _)
theorem zji (s : List UInt8) (n : Int) (cl : List S42) : pfin s n cl = pbad ∨ (pgood n cl = true ∧ ptx n cl = s ∧ pfin s n cl = (n, cl, true)) := by
 unfold pfin
 by_cases h : pgood n cl = true ∧ ptx n cl = s
 ·right; rw [if_pos h]; exact ⟨h.1, h.2, rfl⟩
 ·left; rw [if_neg h]
theorem zfh (s : List UInt8) : imP s = pbad ∨ ∃ n l, pgood n l = true ∧ ptx n l = s ∧ imP s = (n, l, true) := by
 have key : ∀ n cl, pfin s n cl = pbad ∨ ∃ n' l, pgood n' l = true ∧ ptx n' l = s ∧ pfin s n cl = (n', l, true) := fun n cl => by
  rcases zji s n cl with h | ⟨h1, h2, h3⟩
  ·exact .inl h
  ·exact .inr ⟨n, cl, h1, h2, h3⟩
 unfold imP
 split
 ·split
  ·exact key _ _
  ·unfold pthen
   split
   ·exact .inl rfl
   ·exact key _ _
 ·exact .inl rfl
theorem zze (n : Int) (l : List S42) (h : pgood n l = true) : imP (ptx n l) = (n, l, true) := by
 have hn := (zc h).1
 have hc : Go.Lib.cut (ptx n l) [58] = (dd n, Go.Lib.join (l.map ct) [44], true) := by
  unfold ptx
  have := zti 58 (dd n) (Go.Lib.join (l.map ct) [44]) (zt n (by omega) 58 (by decide))
  simpa using this
 have hC : ∀ x ∈ l, imC (ct x) = some x := fun x hx => by
  have hr := zz h x hx
  unfold imC
  rw [zkh x hr]
  simp only [rdN, zua _ hr.1, zua _ hr.2.1, zua _ hr.2.2.1, zua _ hr.2.2.2, Option.map_some]
 unfold imP
 rw [hc, zua n (by omega)]
 simp only
 rcases zza h with ⟨rfl, h2⟩ | ⟨h2, h3⟩
 ·rw [if_pos h2]; unfold pfin; rw [if_pos ⟨h, rfl⟩]
 ·rw [if_neg h2, h3, zlb l hC, pthen, List.nil_append]; unfold pfin; rw [if_pos ⟨h, rfl⟩]
noncomputable def spC (w : List UInt8) : Option S42 := match spA 46 [] w with
 | [a, b, c, d] => some ⟨l1R a, l1R b, l1R c, l1R d⟩
 | _ => none
open Classical in
noncomputable def qfin (s : List UInt8) (n : Int) (cl : List S42) : Int × List S42 × Bool := (n, cl, decide (pgood n cl = true ∧ ptx n cl = s))
open Classical in
noncomputable def qthen (s : List UInt8) (n : Int) (cl : List S42) : Option (List S42) → Int × List S42 × Bool
 | none => pbad
 | some cs => qfin s n (cl ++ cs)
theorem zih (s : ByteArray) (n : Int) (cl : List S42) (hl : cl.length ≤ 1000000000) :
  Ev (fun k => (spec_pzGood.f k n cl).bind fun t => (if t = true then ((spec_pzText.f k n cl).bind fun u => (some (n, cl, (u.toList == s.toList)))) else (some (n, cl, false)))) (qfin (L s) n cl) := by
 refine Ev.bind (ze n cl (by omega)) ?_
 by_cases hg : pgood n cl = true
 ·have h := zc hg
  rw [hg]
  refine Ev.pos rfl (Ev.bind (zdh n h.1 cl h.2.1 h.2.2) (Ev.const ?_))
  rw [zi, zi, L_mk]
  by_cases ht : ptx n cl = L s
  ·have e : qfin (L s) n cl = (n, cl, true) := by unfold qfin; rw [decide_eq_true ⟨hg, ht⟩]
   rw [e, beq_iff_eq.2 ht]
  ·have e : qfin (L s) n cl = (n, cl, false) := by unfold qfin; rw [decide_eq_false (fun h => ht h.2)]
   rw [e, beq_eq_false_iff_ne.2 ht]
 ·have e : qfin (L s) n cl = (n, cl, false) := by unfold qfin; rw [decide_eq_false (fun h => hg h.1)]
  rw [e]
  exact Ev.neg hg (Ev.now _)
theorem sp_l0 (s : ByteArray) (ws : List (List UInt8)) (hw : ws.length ≤ 10000000) (hs : ∀ w ∈ ws, w.length ≤ 10000000) (n : Int) : ∀ (d i : Nat) (cl : List S42), i + d = ws.length → cl.length = i →
  Ev (fun k => spec_pzParse.l0 k s (ws.map up) ((ws.map up).length : Int) (i : Int) n cl) (qthen (L s) n cl (rdAll spC (ws.drop i))) := by
 have hz : ((ws.map up).length : Int) = (ws.length : Int) := by simp
 intro d
 induction d with
 | zero =>
  intro i cl hi hc
  refine Ev.succ ?_
  simp only [spec_pzParse.l0]
  have e1 : ws.drop i = [] := List.drop_of_length_le (by omega)
  rw [e1, rdAll, qthen, List.append_nil]
  exact Ev.neg (by omega) (zih s n cl (by omega))
 | succ d ih =>
  intro i cl hi hc
  have hlt : i < ws.length := by omega
  have e0 : ws.drop i = ws[i] :: ws.drop (i + 1) := List.drop_eq_getElem_cons hlt
  refine Ev.succ ?_
  simp only [spec_pzParse.l0]
  have hsz := hs ws[i] (List.getElem_mem hlt)
  rw [rd_up ws i hlt]
  have hsp : Ev (fun k => spec_l1Split.f k (up ws[i]) 46) ((spA 46 [] ws[i]).map up) := zea ws[i] (by omega) 46
  refine Ev.pos (by omega) (Ev.pos (by omega) (Ev.pos (by omega) (Ev.bind hsp ?_)))
  match hq : spA 46 [] ws[i] with
  | [a, b, c, d] =>
   have e2 : spC ws[i] = some ⟨l1R a, l1R b, l1R c, l1R d⟩ := by unfold spC; rw [hq]
   have h2 := ih (i + 1) (cl ++ [⟨l1R a, l1R b, l1R c, l1R d⟩]) (by omega) (by simp; omega)
   have hr0 : rdOf ByteArray.empty (List.map up [a, b, c, d]) 0 = up a := rfl
   have hr1 : rdOf ByteArray.empty (List.map up [a, b, c, d]) 1 = up b := rfl
   have hr2 : rdOf ByteArray.empty (List.map up [a, b, c, d]) 2 = up c := rfl
   have hr3 : rdOf ByteArray.empty (List.map up [a, b, c, d]) 3 = up d := rfl
   rw [hr0, hr1, hr2, hr3]
   rw [show (i : Int) + 1 = ((i + 1 : Nat) : Int) by omega, za (x := ((i + 1 : Nat) : Int)) (by omega) (by omega)]
   refine Ev.pos (by simp) (Ev.pos (by simp) (Ev.bind (zdb a) (Ev.pos (by simp) (Ev.bind (zdb b) (Ev.pos (by simp) (Ev.bind (zdb c) (Ev.pos (by simp) (Ev.bind (zdb d) (Ev.pos (by omega) ?_)))))))))
   rw [e0, rdAll, e2]
   cases h3 : rdAll spC (ws.drop (i + 1)) with
   | none => rw [h3] at h2; exact h2
   | some cs => rw [h3] at h2; simp only [qthen, Option.map_some] at h2 ⊢; simpa using h2
  | [] =>
   have e2 : spC ws[i] = none := by unfold spC; rw [hq]
   rw [e0, rdAll, e2]
   exact Ev.neg (by simp) (Ev.now _)
  | [_] =>
   have e2 : spC ws[i] = none := by unfold spC; rw [hq]
   rw [e0, rdAll, e2]
   exact Ev.neg (by simp) (Ev.now _)
  | [_, _] =>
   have e2 : spC ws[i] = none := by unfold spC; rw [hq]
   rw [e0, rdAll, e2]
   exact Ev.neg (by simp) (Ev.now _)
  | [_, _, _] =>
   have e2 : spC ws[i] = none := by unfold spC; rw [hq]
   rw [e0, rdAll, e2]
   exact Ev.neg (by simp) (Ev.now _)
  | _ :: _ :: _ :: _ :: _ :: _ =>
   have e2 : spC ws[i] = none := by unfold spC; rw [hq]
   rw [e0, rdAll, e2]
   exact Ev.neg (by simp; omega) (Ev.now _)
open Classical in
noncomputable def spP (s : List UInt8) : Int × List S42 × Bool :=
 if 120 < s.length then pbad else match spA 58 [] s with
  | [a, r] => if r = [] then qfin s (l1R a) [] else qthen s (l1R a) [] (rdAll spC (spA 44 [] r))
  | _ => pbad
theorem zvi (s : List UInt8) (hs : s.length ≤ 1048576) : Ev (fun k => spec_pzParse.f k (up s)) (spP s) := by
 have hz := zd s
 unfold spec_pzParse.f
 have hsp : Ev (fun k => spec_l1Split.f k (up s) 58) ((spA 58 [] s).map up) := zea s (by omega) 58
 have hT : Ev (fun k => spec_pzParse.j0 k (up s) ((spA 58 [] s).map up) true) pbad := Ev.succ (by simp only [spec_pzParse.j0]; exact Ev.pos trivial (Ev.now _))
 refine Ev.bind hsp ?_
 unfold spP
 by_cases h120 : 120 < s.length
 ·rw [if_pos h120]
  exact Ev.pos (by omega) hT
 ·rw [if_neg h120]
  refine Ev.neg (by omega) ?_
  have hmem := zfa 58 s []
  match hq : spA 58 [] s with
  | [a, r] =>
   simp only
   rw [hq] at hT
   have hr0 : rdOf ByteArray.empty (List.map up [a, r]) 0 = up a := rfl
   have hr1 : rdOf ByteArray.empty (List.map up [a, r]) 1 = up r := rfl
   have hzr := zd r
   have hlr : r.length ≤ 1048576 := by have := hmem r (by rw [hq]; simp); simp only [List.length_nil] at this; omega
   have e3 : ((((List.map up [a, r]).length : Nat) : Int) != 2) = false := by simp
   rw [e3]
   refine Ev.succ ?_
   simp only [spec_pzParse.j0]
   rw [hr0, hr1]
   refine Ev.neg (by decide) (Ev.pos (by simp) (Ev.bind (zdb a) (Ev.pos (by simp) ?_)))
   by_cases hr : r = []
   ·rw [if_pos hr]
    subst hr
    have h5 := zih (up s) (l1R a) [] (by simp)
    rw [show L (up s) = s from L_mk s] at h5
    exact Ev.neg (by simp only [List.length_nil] at hzr; omega) h5
   ·rw [if_neg hr]
    have hpos := List.length_pos_iff.2 hr
    have hlen := zoa 44 r []
    have hs2 : Ev (fun k => spec_l1Split.f k (up r) 44) ((spA 44 [] r).map up) := zea r (by omega) 44
    have h5 := sp_l0 (up s) (spA 44 [] r) (by omega) (fun w hm => by have := zfa 44 r [] w hm; simp only [List.length_nil] at this; omega) (l1R a) (spA 44 [] r).length 0 [] (by omega) rfl
    rw [show L (up s) = s from L_mk s] at h5
    exact Ev.pos (by omega) (Ev.bind hs2 h5)
  | [] =>
   rw [hq] at hT
   exact hT
  | [_] =>
   rw [hq] at hT
   exact hT
  | x1 :: x2 :: x3 :: t =>
   rw [hq] at hT
   have e3 : ((((List.map up (x1 :: x2 :: x3 :: t)).length : Nat) : Int) != 2) = true := by simp; omega
   rw [e3]
   exact hT
theorem zoi (s : List UInt8) (n : Int) (cl : List S42) : (qfin s n cl).2.2 = false ∨ (pgood n cl = true ∧ ptx n cl = s ∧ qfin s n cl = (n, cl, true)) := by
 unfold qfin
 by_cases h : pgood n cl = true ∧ ptx n cl = s
 ·right; exact ⟨h.1, h.2, by rw [decide_eq_true h]⟩
 ·left; exact decide_eq_false h
theorem zxi (s : List UInt8) : (spP s).2.2 = false ∨ ∃ n l, pgood n l = true ∧ ptx n l = s ∧ spP s = (n, l, true) := by
 have key : ∀ n cl, (qfin s n cl).2.2 = false ∨ ∃ n' l, pgood n' l = true ∧ ptx n' l = s ∧ qfin s n cl = (n', l, true) := fun n cl => by
  rcases zoi s n cl with h | ⟨h1, h2, h3⟩
  ·exact .inl h
  ·exact .inr ⟨n, cl, h1, h2, h3⟩
 unfold spP
 split
 ·exact .inl rfl
 ·split
  ·split
   ·exact key _ _
   ·unfold qthen
    split
    ·exact .inl rfl
    ·exact key _ _
  ·exact .inl rfl
theorem zne {n : Int} {l : List S42} (h : pgood n l = true) : (ptx n l).length ≤ 120 := by
 have hn := (zc h).1
 have h6 := (zc h).2.1
 have h0 := zm n (by omega)
 have h1 := zfb (l.map ct) (fun x hx => by obtain ⟨y, hy, rfl⟩ := List.mem_map.1 hx; exact zoc (zz h y hy))
 rw [List.length_map] at h1
 unfold ptx
 simp only [List.length_append, List.length_cons, List.length_nil]
 omega
theorem zpi (n : Int) (l : List S42) (h : pgood n l = true) : spP (ptx n l) = (n, l, true) := by
 have hn := (zc h).1
 have hc : spA 58 [] (ptx n l) = [dd n, Go.Lib.join (l.map ct) [44]] := by
  unfold ptx
  have h1 := zu 58 (Go.Lib.join (l.map ct) [44]) (dd n) [] (zt n (by omega) 58 (by decide))
  have h2 := zmc 58 (Go.Lib.join (l.map ct) [44]) [] (zpg h)
  rw [h2] at h1
  simpa using h1
 have hC : ∀ x ∈ l, spC (ct x) = some x := fun x hx => by
  have hr := zz h x hx
  unfold spC
  rw [zkh x hr]
  simp only [zec _ hr.1, zec _ hr.2.1, zec _ hr.2.2.1, zec _ hr.2.2.2]
 have hq : qfin (ptx n l) n l = (n, l, true) := by unfold qfin; rw [decide_eq_true ⟨h, rfl⟩]
 unfold spP
 rw [if_neg (by have := zne h; omega), hc]
 simp only
 rw [zec n (by omega)]
 rcases zza h with ⟨rfl, h2⟩ | ⟨h2, h3⟩
 ·rw [if_pos h2]; exact hq
 ·rw [if_neg h2, h3, zlb l hC, qthen, List.nil_append]; exact hq
noncomputable def fpar (s : List UInt8) : Int × List S42 × Bool := imP s
theorem zjg (s : List UInt8) (hs : s.length ≤ 1048576) : Ev (fun k => spec_ParsePuzzle.f k (up s)) (fpar s) := by
 unfold spec_ParsePuzzle.f fpar
 refine Ev.bind (zvi s hs) ?_
 rcases zxi s with h | ⟨n, l, h1, rfl, h3⟩
 ·have e : imP s = pbad := by
   rcases zfh s with h2 | ⟨n, l, h1, rfl, h3⟩
   ·exact h2
   ·rw [zpi n l h1] at h; cases h
  rw [e]
  exact Ev.neg (by rw [h]; decide) (Ev.now _)
 ·rw [h3, zze n l h1]
  exact Ev.pos rfl (Ev.now _)
theorem zmd (s : List UInt8) (hs : s.length ≤ 1048576) : Ev (fun k => impl_ParsePuzzle.f k (up s)) (fpar s) := zsi s hs
theorem zxd (l : List Int) (hl : l.length ≤ 1000000) : ∀ (d i : Nat), i + d = l.length → Ev (fun k => laws_vSame.l0 k l l (l.length : Int) (i : Int)) true := by
 intro d
 induction d with
 | zero =>
  intro i h
  refine Ev.succ ?_
  simp only [laws_vSame.l0]
  exact Ev.neg (by omega) (Ev.now _)
 | succ d ih =>
  intro i h
  refine Ev.succ ?_
  simp only [laws_vSame.l0]
  rw [show (i : Int) + 1 = ((i + 1 : Nat) : Int) by omega, za (x := ((i + 1 : Nat) : Int)) (by omega) (by omega)]
  exact Ev.pos (by omega) (Ev.pos (by omega) (Ev.pos (by omega) (Ev.pos (by omega) (Ev.pos (by first | rfl | trivial) (ih (i + 1) (by omega))))))
theorem zod (l : List Int) (hl : l.length ≤ 1000000) : Ev (fun k => laws_vSame.f k l l) true := by
 unfold laws_vSame.f
 exact Ev.pos rfl (zxd l hl l.length 0 (by omega))
theorem zif (l : List Int) (x : Int) (hl : l.length ≤ 1000000) : ∀ (d i : Nat), i + d = l.length → Ev (fun k => laws_vHas.l0 k x l (l.length : Int) (i : Int)) (decide (x ∈ l.drop i)) := by
 intro d
 induction d with
 | zero =>
  intro i h
  refine Ev.succ ?_
  simp only [laws_vHas.l0]
  rw [List.drop_of_length_le (by omega)]
  exact Ev.neg (by omega) (Ev.const (by simp))
 | succ d ih =>
  intro i h
  refine Ev.succ ?_
  simp only [laws_vHas.l0]
  rw [zn (show i < l.length by omega), show (i : Int) + 1 = ((i + 1 : Nat) : Int) by omega, za (x := ((i + 1 : Nat) : Int)) (by omega) (by omega)]
  refine Ev.pos (by omega) (Ev.pos (by omega) (Ev.pos (by omega) (Ev.iff (fun c => ?_) (fun c => ?_))))
  ·rw [decide_eq_true (by rw [c]; simp)]; exact Ev.now _
  ·have := ih (i + 1) (by omega)
   rw [show decide (x ∈ rd l (i : Int) :: l.drop (i + 1)) = decide (x ∈ l.drop (i + 1)) from decide_eq_decide.2 (by rw [List.mem_cons]; exact ⟨fun h => h.resolve_left (fun e => c e.symm), .inr⟩)]
   exact this
theorem zfi (l : List Int) (x : Int) (hl : l.length ≤ 1000000) : Ev (fun k => laws_vHas.f k l x) (decide (x ∈ l)) := by
 unfold laws_vHas.f
 have := zif l x hl l.length 0 (by omega)
 rw [List.drop_zero] at this
 exact this
theorem zbf (n : Int) (l : List S42) (hl : l.length ≤ 4398046510976) : ∀ (d i : Nat), i + d = l.length → Ev (fun k => laws_vPuzzle.l0 k (l.length : Int) (i : Int) n l n l) true := by
 intro d
 induction d with
 | zero =>
  intro i h
  refine Ev.succ ?_
  simp only [laws_vPuzzle.l0]
  exact Ev.neg (by omega) (Ev.now _)
 | succ d ih =>
  intro i h
  refine Ev.succ ?_
  simp only [laws_vPuzzle.l0]
  rw [show (i : Int) + 1 = ((i + 1 : Nat) : Int) by omega, za (x := ((i + 1 : Nat) : Int)) (by omega) (by omega)]
  exact Ev.pos (by omega) (Ev.pos (by omega) (Ev.pos (by omega) (Ev.pos (by omega) (Ev.neg (by simp) (ih (i + 1) (by omega))))))
theorem zvc (n : Int) (l : List S42) (hl : l.length ≤ 4398046510976) : Ev (fun k => laws_vPuzzle.f k n l n l) true := by
 unfold laws_vPuzzle.f
 refine Ev.pos rfl ?_
 rw [show ((l.length : Int) != (l.length : Int)) = false by simp]
 refine Ev.succ ?_
 simp only [laws_vPuzzle.j0]
 exact Ev.neg (by decide) (zbf n l hl l.length 0 (by omega))
theorem zyf (l : List ByteArray) (hl : l.length ≤ 1000000) : ∀ (d i : Nat), i + d = l.length → Ev (fun k => laws_vTexts.l0 k l l (l.length : Int) (i : Int)) true := by
 intro d
 induction d with
 | zero =>
  intro i h
  refine Ev.succ ?_
  simp only [laws_vTexts.l0]
  exact Ev.neg (by omega) (Ev.now _)
 | succ d ih =>
  intro i h
  refine Ev.succ ?_
  simp only [laws_vTexts.l0]
  rw [show (i : Int) + 1 = ((i + 1 : Nat) : Int) by omega, za (x := ((i + 1 : Nat) : Int)) (by omega) (by omega)]
  exact Ev.pos (by omega) (Ev.pos (by omega) (Ev.pos (by omega) (Ev.pos (by omega) (Ev.pos (by first | rfl | trivial) (ih (i + 1) (by omega))))))
theorem zqi (l : List ByteArray) (hl : l.length ≤ 1000000) : Ev (fun k => laws_vTexts.f k l l) true := by
 unfold laws_vTexts.f
 exact Ev.pos rfl (zyf l hl l.length 0 (by omega))
theorem zgi (l : List UInt8) (hg : rgood l = true) (h8 : l.length ≤ 8) (k a b c : Int) (hc : cok (l.length : Int) k a b c = true) (hv : val k a b l = c) : Ev (fun r => impl_DoesFit.f r k a b c (up l)) (true, true) := by
 have := zic l k a b c (by omega)
 rw [if_pos ⟨by rw [hg, decide_eq_true h8]; rfl, hc⟩, hv] at this
 have e : (c == c) = true := by simp
 rw [e] at this
 exact this
theorem zug (n : Int) (hn : 1 ≤ n ∧ n ≤ 8) (l : List S42) (hl : l.length ≤ 1000000) (hc : l.all (cokS n) = true) : ∀ (d i : Nat) (b f : Int), i + d = l.length → 1 ≤ i → 0 ≤ b → b < l.length → ∃ r : Int, (0 ≤ r ∧ r < l.length) ∧ Ev (fun k => impl_BestClue.l0 k b f (l.length : Int) (i : Int) n l) (r, true) ∧ Ev (fun k => spec_BestClue.l0 k b f (l.length : Int) (i : Int) n l) (r, true) := by
 intro d
 induction d with
 | zero =>
  intro i b f hi h1 hb hb2
  refine ⟨b, ⟨hb, hb2⟩, Ev.succ ?_, Ev.succ ?_⟩
  ·simp only [impl_BestClue.l0]; exact Ev.neg (by omega) (Ev.now _)
  ·simp only [spec_BestClue.l0]; exact Ev.neg (by omega) (Ev.now _)
 | succ d ih =>
  intro i b f hi h1 hb hb2
  obtain ⟨r, hr, e1, e2⟩ := ih (i + 1) (if cnt1 n l i < f then (i : Int) else b) (if cnt1 n l i < f then cnt1 n l i else f) (by omega) (by omega) (by split <;> omega) (by split <;> omega)
  refine ⟨r, hr, znc n hn l hl hc i (by omega) b f _ e1, zdc n hn l hl hc i (by omega) b f _ ?_⟩
  have e : (i = 0 ∨ cnt1 n l i < f) ↔ cnt1 n l i < f := ⟨fun h => h.resolve_left (by omega), .inr⟩
  simp only [e]
  exact e2
theorem zcc (n : Int) (l : List S42) (hl : l.length ≤ 4398046510976) : ∃ r : Int × Bool, (Ev (fun k => spec_BestClue.f k n l) r ∧ Ev (fun k => impl_BestClue.f k n l) r) ∧ r.2 = (pgood n l && decide ((l.length : Int) > 0)) ∧ (pgood n l = true → 0 < l.length → 0 ≤ r.1 ∧ r.1 < l.length) := by
 unfold spec_BestClue.f impl_BestClue.f
 by_cases hg : pgood n l = true
 ·have h := zc hg
  have sp := ze n l hl
  have im := zg n l (by omega)
  rw [hg] at sp im
  by_cases h0 : l.length = 0
  ·refine ⟨(0, false), ⟨Ev.bind sp (Ev.pos rfl (Ev.succ ?_)), Ev.bind im (Ev.pos rfl (Ev.succ ?_))⟩, by rw [hg]; simp [h0], fun _ h => by omega⟩
   ·simp only [spec_BestClue.j0]; exact Ev.pos (by simp [h0]) (Ev.now _)
   ·simp only [impl_BestClue.j0]; exact Ev.pos (by simp [h0]) (Ev.now _)
  ·have hcl := ztb n h.1 ((l.take (0 + 1)).drop 0)
   have h2 := two8 n.toNat (by omega)
   obtain ⟨r, hr, e1, e2⟩ := zug n h.1 l (by omega) h.2.2 (l.length - 1) 1 (0 : Int) (cnt1 n l 0) (by omega) (by omega) (by omega) (by omega)
   have hne : ((l.length : Int) == 0) = false := beq_eq_false_iff_ne.2 (by omega)
   obtain ⟨j, hj⟩ : ∃ j : Nat, n = j := ⟨n.toNat, by omega⟩
   refine ⟨(r, true), ⟨Ev.bind sp (Ev.pos rfl (Ev.succ ?_)), Ev.bind im (Ev.pos rfl (Ev.succ ?_))⟩, by rw [hg, decide_eq_true (show (l.length : Int) > 0 by omega)]; rfl, fun _ _ => hr⟩
   ·simp only [spec_BestClue.j0, hne]
    refine Ev.neg (by decide) ?_
    refine zdc n h.1 l (by omega) h.2.2 0 (by omega) 0 0 _ ?_
    rw [if_pos (.inl rfl), if_pos (.inl rfl)]
    exact e2
   ·simp only [impl_BestClue.j0, hne]
    refine Ev.neg (by decide) (Ev.pos (by omega) ?_)
    have hs : wrap64 (shl .i64 1 n + 1) = ((2 ^ n.toNat : Nat) : Int) + 1 := by
     rw [hj, zka j (by omega), Int.toNat_natCast]
     have : 2 ^ j ≤ 256 := two8 j (by omega)
     generalize 2 ^ j = q at this
     rw [za (by omega) (by omega)]
    rw [hs]
    refine znc n h.1 l (by omega) h.2.2 0 (by omega) 0 _ _ ?_
    have hlt : cnt1 n l 0 < ((2 ^ n.toNat : Nat) : Int) + 1 := by
     unfold cnt1
     generalize 2 ^ n.toNat = q at hcl
     omega
    rw [if_pos hlt, if_pos hlt]
    exact e1
 ·refine ⟨(0, false), ⟨Ev.bind (ze n l hl) (Ev.neg hg (Ev.succ ?_)), Ev.bind (zg n l (by omega)) (Ev.neg hg (Ev.succ ?_))⟩, by rw [Bool.eq_false_iff.2 hg]; rfl, fun h => absurd h hg⟩
  ·simp only [spec_BestClue.j0]; exact Ev.pos trivial (Ev.now _)
  ·simp only [impl_BestClue.j0]; exact Ev.pos trivial (Ev.now _)
theorem zme (n : Nat) : ∀ (d m : Nat), (sol n ([] : List S42) m d).length = d
 | 0, m => rfl
 | d + 1, m => by rw [sol, List.length_append, zme n d (m + 1), List.all_nil, if_pos rfl, List.length_singleton]; omega
theorem zgd (n : Nat) (a b : List S42) (h : ∀ x ∈ a, x ∈ b) : ∀ (d m : Nat), (sol n b m d).length ≤ (sol n a m d).length
 | 0, m => by simp [sol]
 | d + 1, m => by
  have := zgd n a b h d (m + 1)
  rw [sol, sol, List.length_append, List.length_append]
  by_cases hb : b.all (fitc (mk n m)) = true
  ·have ha : a.all (fitc (mk n m)) = true := List.all_eq_true.2 fun x hx => List.all_eq_true.1 hb x (h x hx)
   rw [if_pos hb, if_pos ha]; simp only [List.length_singleton]; omega
  ·rw [if_neg hb]; simp only [List.length_nil]; omega
theorem zsf (n : Nat) (cl : List S42) : ∀ (d m : Nat) (x : ByteArray), x ∈ sol n cl m d → ∃ q, m ≤ q ∧ q < m + d ∧ cl.all (fitc (mk n q)) = true ∧ x = up (mk n q)
 | 0, m, x, h => by simp [sol] at h
 | d + 1, m, x, h => by
  rw [sol, List.mem_append] at h
  rcases h with h | h
  ·split at h
   ·next e => exact ⟨m, by omega, by omega, e, by simpa using h⟩
   ·simp at h
  ·obtain ⟨q, h1, h2, h3, h4⟩ := zsf n cl d (m + 1) x h
   exact ⟨q, by omega, by omega, h3, h4⟩
theorem zse (n : Nat) (cl : List S42) : ∀ (d m : Nat), m + d ≤ 2 ^ n → (sol n cl m d).Pairwise (fun a b => Op.bytesLess a.toList b.toList = true)
 | 0, _, _ => by simp [sol]
 | d + 1, m, h => by
  rw [sol]
  refine List.pairwise_append.2 ⟨by split <;> simp, zse n cl d (m + 1) (by omega), fun a ha b hb => ?_⟩
  obtain ⟨q, h1, h2, _, rfl⟩ := zsf n cl d (m + 1) b hb
  split at ha
  ·rw [List.mem_singleton.1 ha, zi, zi, L_mk, L_mk]
   exact zwf n m q (by omega) (by omega)
  ·simp at ha
theorem zva (n : Int) (l : List S42) : ∀ (d i j : Nat), j < d → rd (lcs n l i d) (j : Int) = ((sols n (l.take (i + j))).length : Int)
 | 0, i, j, h => by omega
 | d + 1, i, 0, h => by simp [lcs, rd]
 | d + 1, i, j + 1, h => by
  have := zva n l d (i + 1) j (by omega)
  rw [show i + (j + 1) = i + 1 + j by omega, ← this]
  simp [lcs, rd]
theorem zuf (n : Int) (l : List S42) : ∀ (d a i : Nat), ((i : Int) ∈ ncs n l a d) ↔ (a ≤ i ∧ i < a + d ∧ ((sols n (l.eraseIdx i)).length : Int) = ((sols n l).length : Int))
 | 0, a, i => by simp [ncs]; omega
 | d + 1, a, i => by
  rw [ncs, List.mem_append, zuf n l d (a + 1) i]
  by_cases e : i = a
  ·subst e
   constructor
   ·rintro (h | h)
    ·split at h
     ·next c => exact ⟨by omega, by omega, c⟩
     ·simp at h
    ·omega
   ·rintro ⟨_, _, c⟩
    left; rw [if_pos c]; simp
  ·constructor
   ·rintro (h | ⟨h1, h2, h3⟩)
    ·split at h
     ·have := List.mem_singleton.1 h; omega
     ·simp at h
    ·exact ⟨by omega, by omega, h3⟩
   ·rintro ⟨h1, h2, h3⟩
    right; exact ⟨by omega, by omega, h3⟩
theorem zvf : ∀ (o : List UInt8), List.zipWith g8 o o = o
 | [] => rfl
 | a :: o => by rw [List.zipWith_cons_cons, zvf o]; unfold g8; rw [if_pos rfl]
theorem zsg (rows : List ByteArray) (h : rows.length = 1) : up (sureF (L (rdOf ByteArray.empty rows 0)) rows) = rdOf ByteArray.empty rows 0 := by
 match rows, h with
 | [r], _ =>
  have e : rdOf ByteArray.empty [r] 0 = r := rfl
  rw [e, zs, zvf]
  exact (up_L r).symm
theorem zzg (rows : List ByteArray) (n : Nat) (hr : ∀ r ∈ rows, (L r).length = n) (hp : 0 < rows.length) (r : ByteArray) (h : r ∈ rows) (i : Nat) (hi : i < n) (hi2 : i < (L r).length) :
  (sureF (L (rdOf ByteArray.empty rows 0)) rows)[i]? = some 63 ∨ (sureF (L (rdOf ByteArray.empty rows 0)) rows)[i]? = some (L r)[i] := by
 have e0 : rdOf ByteArray.empty rows 0 = rows[0] := zr hp
 have h0 : (L rows[0]).length = n := hr _ (List.getElem_mem hp)
 have hb : (L rows[0])[i]? = some (L rows[0])[i] := List.getElem?_eq_getElem (by omega)
 have hg := zqa n i hi rows _ _ h0 hr hb
 rw [e0, hg]
 by_cases ha : rows.all (same8 i (L rows[0])[i]) = true
 ·right
  rw [if_pos ha]
  have := List.all_eq_true.1 ha r h
  unfold same8 at this
  rw [List.getElem?_eq_getElem hi2] at this
  have h2 : some (L r)[i] = some (L rows[0])[i] := by simpa using this
  exact h2.symm
 ·left; rw [if_neg ha]
theorem zxg (n q i : Nat) (h : i < (mk n q).length) : ((mk n q)[i]).toNat < 128 := by
 have := List.all_eq_true.1 (zwe n q) _ (List.getElem_mem h)
 unfold sgn at this
 rcases (Bool.or_eq_true _ _).mp this with e | e
 ·rw [eq_of_beq e]; decide
 ·rw [eq_of_beq e]; decide
theorem gs_j7 (s : List UInt8) (hs : s.length ≤ 1048576) : Ev (fun k => laws_FnRowsGuessedOfAll.j7 k (up s)) true := by
 have im := zmd s hs
 have sp := zjg s hs
 refine Ev.succ ?_
 simp only [laws_FnRowsGuessedOfAll.j7]
 rcases zfh s with h | ⟨n, l, h1, h2, h3⟩
 ·have e : fpar s = pbad := h
  rw [e] at im sp
  exact Ev.bind im (Ev.bind sp (Ev.neg (by simp) (Ev.bind (zvc _ _ (by simp [pbad])) (Ev.pos rfl (Ev.neg (by simp [pbad]) (Ev.now _))))))
 ·have e : fpar s = (n, l, true) := h3
  rw [e] at im sp
  have h6 := (zc h1).2.1
  have pt := zmf n l (by omega)
  unfold fptx at pt
  rw [if_pos h1, h2] at pt
  exact Ev.bind im (Ev.bind sp (Ev.neg (by simp) (Ev.bind (zvc n l (by omega)) (Ev.pos rfl (Ev.pos rfl (Ev.bind pt (Ev.pos rfl (Ev.const (by simp)))))))))
theorem gs_l3 (n : Int) (l : List S42) (s : ByteArray) (b : Int) (hg : pgood n l = true) (hb : 0 < l.length → 0 ≤ b ∧ b < l.length) (h7 : Ev (fun k => laws_FnRowsGuessedOfAll.j7 k s) true) : ∀ (d i : Nat), i + d = l.length →
  Ev (fun k => laws_FnRowsGuessedOfAll.l3 k s ((sols n l).length : Int) (ncs n l 0 l.length) (lcs n l 0 (l.length + 1)) b (up (ptx n l)) (l.length : Int) (i : Int) n l) true := by
 have hp := zc hg
 intro d
 induction d with
 | zero =>
  intro i hi
  refine Ev.succ ?_
  simp only [laws_FnRowsGuessedOfAll.l3]
  have hx := zne hg
  have im := zmd (ptx n l) (by omega)
  have e : fpar (ptx n l) = (n, l, true) := zze n l hg
  rw [e] at im
  exact Ev.neg (by omega) (Ev.bind im (Ev.pos rfl (Ev.bind (zvc n l (by omega)) (Ev.pos rfl h7))))
 | succ d ih =>
  intro i hi
  have hlt : i < l.length := by omega
  refine Ev.succ ?_
  simp only [laws_FnRowsGuessedOfAll.l3]
  have dc := zgb n l (i : Int) (by omega)
  have hd : dcl n l (i : Int) = (n, l.eraseIdx i, true) := by
   unfold dcl
   rw [if_pos ⟨hg, by omega, by omega⟩, Int.toNat_natCast]
  rw [hd] at dc
  have hle := List.length_eraseIdx_le l i
  have hg2 : pgood n (l.eraseIdx i) = true := by
   have h1 : (l.eraseIdx i).all (cokS n) = true := zhg hp.2.2 i
   unfold pgood
   rw [decide_eq_true hp.1, decide_eq_true (show (l.eraseIdx i).length ≤ 6 by omega), h1]; rfl
  have ct := zbb n (l.eraseIdx i) (by omega)
  rw [if_pos hg2] at ct
  have hw : wrap64 ((i : Int) + 1) = ((i + 1 : Nat) : Int) := by rw [za (by omega) (by omega)]; omega
  have hbb := hb (by omega)
  have ih' := ih (i + 1) (by omega)
  have q1 : i < l.length + 1 := by omega
  have q2 : i + 1 < l.length + 1 := by omega
  have q3 : l.length ≤ 1000000 := by omega
  have hl1 := lcs_l n l (l.length + 1) 0
  have r1 : (i : Int) < (l.length : Int) := by omega
  have r2 : 0 ≤ ((i + 1 : Nat) : Int) := by omega
  have r3 : ((i + 1 : Nat) : Int) < ((lcs n l 0 (l.length + 1)).length : Int) := by rw [hl1]; omega
  have r4 : 0 ≤ (i : Int) := by omega
  have r5 : (i : Int) < ((lcs n l 0 (l.length + 1)).length : Int) := by rw [hl1]; omega
  have r6 : ¬ b < 0 := by omega
  have r7 : ¬ b ≥ (l.length : Int) := by omega
  have hh := zfi (ncs n l 0 l.length) (i : Int) (Nat.le_trans (ncs_l n l l.length 0) q3)
  have hm := zuf n l l.length 0 i
  have hdec : decide ((i : Int) ∈ ncs n l 0 l.length) = (((sols n (l.eraseIdx i)).length : Int) == ((sols n l).length : Int)) := by
   rw [Bool.eq_iff_iff, decide_eq_true_eq, beq_iff_eq, hm]
   exact ⟨fun h => h.2.2, fun h => ⟨Nat.zero_le _, (Nat.zero_add l.length).symm ▸ hlt, h⟩⟩
  rw [hdec] at hh
  have g1 := zva n l (l.length + 1) 0 i q1
  have g2 := zva n l (l.length + 1) 0 (i + 1) q2
  rw [Nat.zero_add] at g1 g2
  have hmore := zgd n.toNat (l.take i) (l.take (i + 1)) (fun x hx => by rw [List.take_add_one]; exact List.mem_append_left _ hx) (2 ^ n.toNat) 0
  have hle2 : ¬ ((sols n (l.take (i + 1))).length : Int) > ((sols n (l.take i)).length : Int) := Int.not_lt.mpr (Int.ofNat_le.mpr hmore)
  rw [hw, g1, g2]
  exact Ev.pos r1 (Ev.bind dc (Ev.bind ct (Ev.pos rfl (Ev.pos rfl (Ev.bind hh (Ev.neg (by rw [bne_self_eq_false]; decide) (Ev.pos r2 (Ev.pos r3 (Ev.pos r4 (Ev.pos r5 (Ev.neg hle2 (Ev.neg r6 (Ev.neg r7 ih')))))))))))))
theorem gs_l2 (n : Int) (l : List S42) (s : ByteArray) (al : List ByteArray) (x9 : Int) (x25 x29 : List Int) (x33 : Int) (x37 : ByteArray) (S R : List UInt8) (x375 : List ByteArray) (x376 x377 : Int) (hR : ∀ i (h : i < R.length), R[i].toNat < 128) (hS : S.length = R.length) (hl : R.length ≤ 1000)
  (hf : ∀ i (h : i < R.length), S[i]? = some 63 ∨ S[i]? = some R[i]) (h : Ev (fun k => laws_FnRowsGuessedOfAll.l0 k s al x9 (up S) x25 x29 x33 x37 x375 x376 (wrap64 (x377 + 1)) n l) true) : ∀ (d i : Nat), i + d = R.length →
  Ev (fun k => laws_FnRowsGuessedOfAll.l2 k s al x9 (up S) x25 x29 x33 x37 (up R) x375 x376 x377 n l (i : Int) (up R)) true := by
 have sS := zd S
 have sR := zd R
 intro d
 induction d with
 | zero =>
  intro i hi
  refine Ev.succ ?_
  simp only [laws_FnRowsGuessedOfAll.l2]
  exact Ev.neg (by omega) h
 | succ d ih =>
  intro i hi
  have hlt : i < R.length := by omega
  have bR : bt (up R) (i : Int) = (R[i].toNat : Int) := by
   have := zab (up R) i (by rw [L_mk]; exact hlt)
   simpa only [L_mk] using this
  have bS : bt (up S) (i : Int) = (S[i].toNat : Int) := by
   have := zab (up S) i (by rw [L_mk]; omega)
   simpa only [L_mk] using this
  have h128 := hR i hlt
  have ih' := ih (i + 1) (by omega)
  rw [show ((i + 1 : Nat) : Int) = (i : Int) + 1 by omega] at ih'
  refine Ev.succ ?_
  simp only [laws_FnRowsGuessedOfAll.l2]
  rw [bR, bS]
  refine Ev.pos (by omega) (Ev.pos (by omega) (Ev.pos (by omega) (Ev.pos (by omega) (Ev.iff (fun _ => ih') (fun hn => Ev.pos (by omega) (Ev.pos ?_ ih'))))))
  have hSi : S[i]? = some S[i] := List.getElem?_eq_getElem (by omega)
  rcases hf i hlt with e | e
  ·rw [hSi, Option.some.injEq] at e
   exact absurd (by rw [e]; rfl) hn
  ·rw [hSi, Option.some.injEq] at e
   rw [e]
theorem gs_l1 (n : Int) (l : List S42) (s : ByteArray) (al : List ByteArray) (x9 : Int) (x17 : ByteArray) (x25 x29 : List Int) (x33 : Int) (x37 : ByteArray) (R : List UInt8) (x375 : List ByteArray) (x376 x377 : Int) (hg : rgood R = true) (h8 : R.length ≤ 8) (hn : (R.length : Int) = n) (hl : l.length ≤ 6) (hc : l.all (cokS n) = true) (hf : l.all (fitc R) = true)
  (h : Ev (fun k => laws_FnRowsGuessedOfAll.l2 k s al x9 x17 x25 x29 x33 x37 (up R) x375 x376 x377 n l 0 (up R)) true) : ∀ (d i : Nat), i + d = l.length →
  Ev (fun k => laws_FnRowsGuessedOfAll.l1 k s al x9 x17 x25 x29 x33 x37 (up R) x375 x376 x377 l (l.length : Int) (i : Int) n l) true := by
 intro d
 induction d with
 | zero =>
  intro i hi
  refine Ev.succ ?_
  simp only [laws_FnRowsGuessedOfAll.l1]
  exact Ev.neg (by omega) h
 | succ d ih =>
  intro i hi
  have hlt : i < l.length := by omega
  have h1 := List.all_eq_true.1 hc _ (List.getElem_mem hlt)
  have h2 := List.all_eq_true.1 hf _ (List.getElem_mem hlt)
  unfold cokS at h1
  unfold fitc at h2
  rw [beq_iff_eq] at h2
  refine Ev.succ ?_
  simp only [laws_FnRowsGuessedOfAll.l1]
  rw [zv hlt, za (x := (i : Int) + 1) (by omega) (by omega)]
  have fy := zgi R hg h8 l[i].f0 l[i].f1 l[i].f2 l[i].f3 (by rw [hn]; exact h1) h2
  exact Ev.pos (by omega) (Ev.pos (by omega) (Ev.pos (by omega) (Ev.bind fy (Ev.pos rfl (Ev.pos rfl (ih (i + 1) (by omega)))))))
theorem gs_l0 (n : Int) (l : List S42) (s : ByteArray) (x9 : Int) (x25 x29 : List Int) (x33 : Int) (x37 : ByteArray) (x17 : ByteArray) (hg : pgood n l = true) (A : List ByteArray) (S : List UInt8) (hA : ∀ x ∈ A, ∃ q, l.all (fitc (mk n.toNat q)) = true ∧ x = up (mk n.toNat q)) (hris : A.Pairwise (fun a b => Op.bytesLess a.toList b.toList = true)) (hAl : A.length ≤ 1000)
  (h17 : 0 < A.length → x17 = up S ∧ S.length = n.toNat ∧ ∀ r ∈ A, ∀ (j : Nat) (h : j < (L r).length), j < n.toNat → S[j]? = some 63 ∨ S[j]? = some (L r)[j])
  (h : Ev (fun k => laws_FnRowsGuessedOfAll.l3 k s x9 x25 x29 x33 x37 (l.length : Int) 0 n l) true) : ∀ (d i : Nat), i + d = A.length →
  Ev (fun k => laws_FnRowsGuessedOfAll.l0 k s A x9 x17 x25 x29 x33 x37 A (A.length : Int) (i : Int) n l) true := by
 have hp := zc hg
 intro d
 induction d with
 | zero =>
  intro i hi
  refine Ev.succ ?_
  simp only [laws_FnRowsGuessedOfAll.l0]
  exact Ev.neg (by omega) h
 | succ d ih =>
  intro i hi
  have hlt : i < A.length := by omega
  have hmem := List.getElem_mem hlt
  obtain ⟨q, hfit, hrow⟩ := hA _ hmem
  have hlen := zq n.toNat q
  have hgood := zjf n.toNat q (by omega)
  obtain ⟨hS, hSl, hSf⟩ := h17 (by omega)
  have hw : wrap64 ((i : Int) + 1) = ((i + 1 : Nat) : Int) := by rw [za (by omega) (by omega)]; omega
  have ih' := ih (i + 1) (by omega)
  rw [← hw] at ih'
  have hj3 : Ev (fun k => laws_FnRowsGuessedOfAll.j3 k s A x9 x17 x25 x29 x33 x37 (up (mk n.toNat q)) A (A.length : Int) (i : Int) false n l) true := by
   refine Ev.succ ?_
   simp only [laws_FnRowsGuessedOfAll.j3]
   refine Ev.neg (by decide) ?_
   refine gs_l1 n l s _ _ _ _ _ _ _ (mk n.toNat q) _ _ _ hgood (by omega) (by rw [hlen]; omega) hp.2.1 hp.2.2 hfit ?_ l.length 0 (by omega)
   rw [hS] at ih' ⊢
   refine gs_l2 n l s _ _ _ _ _ _ S (mk n.toNat q) _ _ _ (fun j hj => zxg _ _ _ hj) (by omega) (by omega) (fun j hj => ?_) ih' (mk n.toNat q).length 0 (by omega)
   have := hSf _ hmem j (by rw [hrow, L_mk]; exact hj) (by omega)
   simp only [hrow, L_mk] at this
   exact this
  have hrowI : impl_IsRow.f (up (mk n.toNat q)) = some true := by
   unfold impl_IsRow.f
   rw [zja _ (by rw [zb]; omega), L_mk, hgood]; rfl
  refine Ev.succ ?_
  simp only [laws_FnRowsGuessedOfAll.l0]
  rw [zr hlt, hrow, hrowI, zd]
  refine Ev.pos (by omega) (Ev.pos (by omega) (Ev.pos (by omega) (Ev.bind (Ev.const rfl) (Ev.pos rfl (Ev.pos (by omega) (Ev.iff (fun hi0 => ?_) (fun _ => hj3)))))))
  have hw2 : wrap64 ((i : Int) - 1) = ((i - 1 : Nat) : Int) := by rw [za (by omega) (by omega)]; omega
  rw [hw2, zr (show i - 1 < A.length by omega)]
  have hless := List.pairwise_iff_getElem.1 hris (i - 1) i (by omega) hlt (by omega)
  rw [hrow] at hless
  rw [hless]
  exact Ev.pos (by omega) (Ev.pos (by omega) hj3)
theorem gs_j1 (n : Int) (l : List S42) (s : ByteArray) (x17 : ByteArray) (b : Int) (hg : pgood n l = true) (hb : 0 < l.length → 0 ≤ b ∧ b < l.length) (h17 : 0 < (sols n l).length → x17 = up (sureF (L (rdOf ByteArray.empty (sols n l) 0)) (sols n l))) (h7 : Ev (fun k => laws_FnRowsGuessedOfAll.j7 k s) true) :
  Ev (fun k => laws_FnRowsGuessedOfAll.j1 k s (sols n l) ((sols n l).length : Int) x17 (ncs n l 0 l.length) (lcs n l 0 (l.length + 1)) b (up (ptx n l)) false n l) true := by
 have hp := zc hg
 have h2 := two8 n.toNat (by omega)
 refine Ev.succ ?_
 simp only [laws_FnRowsGuessedOfAll.j1]
 refine Ev.neg (by decide) ?_
 have hl3 := gs_l3 n l s b hg hb h7 l.length 0 (Nat.zero_add _)
 have hAl : (sols n l).length ≤ 1000 := Nat.le_trans (ztb n hp.1 l) (Nat.le_trans h2 (by decide))
 have hall : ∀ r ∈ sols n l, (L r).length = n.toNat := fun r hr => zta n.toNat l _ _ r hr
 refine gs_l0 n l s _ _ _ _ _ _ hg (sols n l) (sureF (L (rdOf ByteArray.empty (sols n l) 0)) (sols n l)) (fun x hx => ?_) (zse n.toNat l (2 ^ n.toNat) 0 (by rw [Nat.zero_add]; exact Nat.le_refl _)) hAl (fun hpos => ⟨h17 hpos, ?_, fun r hr j hj hj2 => zzg (sols n l) n.toNat hall hpos r hr j hj2 hj⟩) hl3 (sols n l).length 0 (Nat.zero_add _)
 ·obtain ⟨q, _, _, h3, h4⟩ := zsf n.toNat l (2 ^ n.toNat) 0 x hx
  exact ⟨q, h3, h4⟩
 ·have e0 : rdOf ByteArray.empty (sols n l) 0 = (sols n l)[0] := zr hpos
  exact zx n.toNat _ _ (by rw [e0]; exact hall _ (List.getElem_mem _)) hall
theorem gs_j0 (n : Int) (l : List S42) (s : ByteArray) (F U : ByteArray) (three : Bool) (b : Int) (hg : pgood n l = true) (hb : 0 < l.length → 0 ≤ b ∧ b < l.length) (h3 : three = decide (((sols n l).length : Int) > 0)) (hF : three = true → F = rdOf ByteArray.empty (sols n l) 0) (hU : three = true → U = up (sureF (L (rdOf ByteArray.empty (sols n l) 0)) (sols n l))) (h7 : Ev (fun k => laws_FnRowsGuessedOfAll.j7 k s) true) :
  Ev (fun k => laws_FnRowsGuessedOfAll.j0 k s (sols n l) true ((sols n l).length : Int) F three U (((sols n l).length : Int) == 1) (ncs n l 0 l.length) (lcs n l 0 (l.length + 1)) b (up (ptx n l)) false n l) true := by
 have hp := zc hg
 have hl1 := lcs_l n l (l.length + 1) 0
 have r0 : 0 < l.length + 1 := by omega
 have r1 : l.length < l.length + 1 := by omega
 have hsh : shl .i64 1 n = ((2 ^ n.toNat : Nat) : Int) := by
  have := zka n.toNat (by omega)
  rwa [show ((n.toNat : Nat) : Int) = n by omega] at this
 have hw : wrap64 ((l.length : Int) + 1) = (l.length : Int) + 1 := za (by omega) (by omega)
 have z1 : ((lcs n l 0 (l.length + 1)).length : Int) = (l.length : Int) + 1 := by rw [hl1]; omega
 have z2 : 0 < ((lcs n l 0 (l.length + 1)).length : Int) := by rw [hl1]; omega
 have z3 : (l.length : Int) < ((lcs n l 0 (l.length + 1)).length : Int) := by rw [hl1]; omega
 have z4 : 0 ≤ n := by omega
 have z5 : 0 ≤ (l.length : Int) := by omega
 have g1 : rd (lcs n l 0 (l.length + 1)) 0 = ((2 ^ n.toNat : Nat) : Int) := by
  have := zva n l (l.length + 1) 0 0 r0
  rw [Nat.zero_add, List.take_zero, show (sols n ([] : List S42)).length = 2 ^ n.toNat from zme _ _ _] at this
  exact this
 have g2 : rd (lcs n l 0 (l.length + 1)) (l.length : Int) = ((sols n l).length : Int) := by
  have := zva n l (l.length + 1) 0 l.length r1
  rw [Nat.zero_add, List.take_length] at this
  exact this
 refine Ev.succ ?_
 simp only [laws_FnRowsGuessedOfAll.j0]
 rw [g1, g2, hsh, hw]
 clear g1 g2 hsh hw hl1
 refine Ev.neg (by decide) (Ev.pos (by first | rfl | trivial) (Ev.pos (by first | rfl | trivial) ?_))
 have h17 : 0 < (sols n l).length → U = up (sureF (L (rdOf ByteArray.empty (sols n l) 0)) (sols n l)) := fun h => hU (by rw [h3]; exact decide_eq_true (Int.ofNat_lt.mpr h))
 have hj := gs_j1 n l s U b hg hb h17 h7
 by_cases hc : three = true
 ·have hpos : 0 < (sols n l).length := by rw [h3, decide_eq_true_eq] at hc; exact Int.ofNat_lt.mp hc
  have hpos2 : 0 < ((sols n l).length : Int) := Int.ofNat_lt.mpr hpos
  have hall : ∀ r ∈ sols n l, (L r).length = n.toNat := fun r hr => zta n.toNat l _ _ r hr
  have e0 : rdOf ByteArray.empty (sols n l) 0 = (sols n l)[0] := zr hpos
  have hSl : (sureF (L (rdOf ByteArray.empty (sols n l) 0)) (sols n l)).length = n.toNat := zx n.toNat _ _ (by rw [e0]; exact hall _ (List.getElem_mem _)) hall
  have hn : ((n.toNat : Nat) : Int) = n := Int.toNat_of_nonneg z4
  have hsz : ((U.size : Int) != n) = false := by rw [hU hc, zd, hSl, hn, bne_self_eq_false]
  rw [hsz]
  refine Ev.pos hc (Ev.pos hpos2 (Ev.pos (by rw [hF hc]) (Ev.neg (by rw [bne_self_eq_false]; decide) (Ev.pos z1 (Ev.pos z2 (Ev.pos z4 (Ev.pos rfl (Ev.pos z5 (Ev.pos z3 (Ev.pos rfl (Ev.iff (fun h1 => ?_) (fun _ => hj))))))))))))
  refine Ev.pos ?_ hj
  have h1' : (sols n l).length = 1 := Int.ofNat.inj (eq_of_beq h1)
  rw [hU hc, hF hc, zsg _ h1']
 ·have h0 : (sols n l).length = 0 := by
   rw [h3, decide_eq_true_eq] at hc
   exact Nat.eq_zero_of_not_pos fun h => hc (Int.ofNat_lt.mpr h)
  refine Ev.neg hc (Ev.neg (by rw [bne_self_eq_false]; decide) (Ev.pos z1 (Ev.pos z2 (Ev.pos z4 (Ev.pos rfl (Ev.pos z5 (Ev.pos z3 (Ev.pos rfl (Ev.neg (by rw [h0]; decide) hj)))))))))
theorem zed (n : Int) (l : List S42) (s : ByteArray) (hs : ¬ (s.size : Int) > 1048576) (S : List ByteArray) (ok : Bool) (C : Int) (F U : ByteArray) (three V : Bool) (NC LC : List Int) (b : Int) (bk : Bool) (T : ByteArray)
  (a1 : Ev (fun k => impl_Solutions.f k n l) (S, ok)) (a2 : Ev (fun k => spec_Solutions.f k n l) (S, ok)) (a3 : Ev (fun k => impl_CountSolutions.f k n l) (C, ok)) (a4 : Ev (fun k => spec_CountSolutions.f k n l) (C, ok))
  (a5 : Ev (fun k => impl_FirstSolution.f k n l) (F, three)) (a6 : Ev (fun k => spec_FirstSolution.f k n l) (F, three)) (a7 : Ev (fun k => impl_SureSigns.f k n l) (U, three)) (a8 : Ev (fun k => spec_SureSigns.f k n l) (U, three))
  (a9 : Ev (fun k => impl_IsSolved.f k n l) (V, ok)) (a10 : Ev (fun k => spec_IsSolved.f k n l) (V, ok)) (a11 : Ev (fun k => impl_NeedlessClues.f k n l) (NC, ok)) (a12 : Ev (fun k => spec_NeedlessClues.f k n l) (NC, ok))
  (a13 : Ev (fun k => impl_LeftByClues.f k n l) (LC, ok)) (a14 : Ev (fun k => spec_LeftByClues.f k n l) (LC, ok)) (a15 : Ev (fun k => impl_BestClue.f k n l) (b, bk)) (a16 : Ev (fun k => spec_BestClue.f k n l) (b, bk)) (a17 : Ev (fun k => impl_PuzzleText.f k n l) (T, ok)) (a18 : Ev (fun k => spec_PuzzleText.f k n l) (T, ok))
  (a19 : Ev (fun k => impl_IsPuzzle.f k n l) ok) (a20 : Ev (fun k => spec_IsPuzzle.f k n l) ok) (hS : S.length ≤ 1000000) (hN : NC.length ≤ 1000000) (hL : LC.length ≤ 1000000) (h3 : three = (ok && decide (C > 0))) (hb : bk = (ok && decide ((l.length : Int) > 0)))
  (h : Ev (fun k => laws_FnRowsGuessedOfAll.j0 k s S ok C F three U V NC LC b T false n l) true) : Ev (fun k => laws_FnRowsGuessedOfAll.f k n l s) true := by
 unfold laws_FnRowsGuessedOfAll.f
 refine Ev.neg hs (Ev.bind a1 (Ev.bind a2 (Ev.bind a3 (Ev.bind a4 (Ev.bind a5 (Ev.bind a6 (Ev.bind a7 (Ev.bind a8 (Ev.bind a9 (Ev.bind a10 (Ev.bind a11 (Ev.bind a12 (Ev.bind a13 (Ev.bind a14 (Ev.bind a15 (Ev.bind a16 (Ev.bind a17 (Ev.bind a18 ?_))))))))))))))))))
 refine Ev.neg (by simp) (Ev.bind (zqi S hS) (Ev.pos rfl (Ev.neg (by simp) (Ev.pos rfl (Ev.neg (by simp) (Ev.pos rfl (Ev.neg (by simp) (Ev.pos rfl (Ev.neg (by simp) (Ev.neg (by simp) (Ev.neg (by simp) (Ev.bind (zod NC hN) (Ev.pos rfl (Ev.neg (by simp) (Ev.bind (zod LC hL) (Ev.pos rfl (Ev.neg (by simp) (Ev.pos rfl (Ev.neg (by simp) (Ev.pos rfl (Ev.bind a19 (Ev.neg (by simp) (Ev.bind a19 (Ev.bind a20 (Ev.neg (by simp) (Ev.neg (by simp) ?_))))))))))))))))))))))))))
 have he : (ok != ok) = false := by simp
 simp only [he]
 cases ok with
 | true =>
  rw [Bool.true_and] at h3 hb
  exact Ev.pos rfl (Ev.neg (by rw [h3]; simp) (Ev.neg (by simp) (Ev.neg (by simp) (Ev.neg (by simp) (Ev.neg (by simp) (Ev.neg (by rw [hb]; simp) h))))))
 | false =>
  rw [Bool.false_and] at h3 hb
  exact Ev.neg (by decide) (Ev.neg (by rw [h3]; decide) (Ev.neg (by simp) (Ev.neg (by simp) (Ev.neg (by simp) (Ev.neg (by simp) (Ev.neg (by rw [hb]; decide) h))))))
theorem zwi (n : Int) (l : List S42) (hl : l.length ≤ 4398046510976) (s : ByteArray) (hs : ¬ (s.size : Int) > 1048576) : Ev (fun k => laws_FnRowsGuessedOfAll.f k n l s) true := by
 have a1 := zf n l hl
 have a2 := zya n l hl
 have a3 := zbb n l hl
 have a4 := zwd n l hl
 have a5 := zke n l hl
 have a6 := zje n l hl
 have a7 := zfg n l hl
 have a8 := zye n l hl
 have a9 := zpb n l hl
 have a10 := zvb n l hl
 have a11 := zni n l hl
 have a12 := zbi n l hl
 have a13 := zxh n l hl
 have a14 := zai n l hl
 obtain ⟨⟨b, bk⟩, ⟨a16, a15⟩, hb1, hb2⟩ := zcc n l hl
 have a17 := zmf n l hl
 have a18 := zuh n l hl
 have a19 : Ev (fun k => impl_IsPuzzle.f k n l) (pgood n l) := by
  unfold impl_IsPuzzle.f
  exact Ev.bind (zg n l (by omega)) (Ev.now _)
 have a20 : Ev (fun k => spec_IsPuzzle.f k n l) (pgood n l) := by
  unfold spec_IsPuzzle.f
  exact Ev.bind (ze n l hl) (Ev.now _)
 have hN := zli n l
 have hL := zdi n l
 have hsz := zoe s
 have h7 : Ev (fun k => laws_FnRowsGuessedOfAll.j7 k s) true := by
  have := gs_j7 (L s) (by omega)
  rwa [← up_L s] at this
 unfold fsol at a5 a6
 unfold fsure at a7 a8
 unfold ncr at a11 a12 hN
 unfold lcr at a13 a14 hL
 unfold fptx at a17 a18
 by_cases hg : pgood n l = true
 ·have hp := zc hg
  have h2 := two8 n.toNat (by omega)
  have hAl : (sols n l).length ≤ 1000000 := Nat.le_trans (ztb n hp.1 l) (Nat.le_trans h2 (by decide))
  simp only [hg, if_true] at a1 a2 a3 a4 a5 a6 a7 a8 a9 a10 a11 a12 a13 a14 a17 a18 a19 a20 hN hL hb1
  by_cases hc : ((sols n l).length : Int) = 0
  ·rw [if_pos hc] at a5 a6 a7 a8
   exact zed n l s hs _ _ _ _ _ _ _ _ _ _ _ _ a1 a2 a3 a4 a5 a6 a7 a8 a9 a10 a11 a12 a13 a14 a15 a16 a17 a18 a19 a20 hAl (Nat.le_trans hN (by decide)) (Nat.le_trans hL (by decide)) (by rw [hc]; rfl) hb1
    (gs_j0 n l s _ _ _ b hg (hb2 hg) (by rw [hc]; rfl) (fun h => by cases h) (fun h => by cases h) h7)
  ·rw [if_neg hc] at a5 a6 a7 a8
   have hpos : ((sols n l).length : Int) > 0 := Int.ofNat_lt.mpr (Nat.pos_of_ne_zero fun e => hc (by rw [e]; rfl))
   exact zed n l s hs _ _ _ _ _ _ _ _ _ _ _ _ a1 a2 a3 a4 a5 a6 a7 a8 a9 a10 a11 a12 a13 a14 a15 a16 a17 a18 a19 a20 hAl (Nat.le_trans hN (by decide)) (Nat.le_trans hL (by decide)) (by rw [decide_eq_true hpos]; rfl) hb1
    (gs_j0 n l s _ _ _ b hg (hb2 hg) (by rw [decide_eq_true hpos]) (fun _ => rfl) (fun _ => rfl) h7)
 ·have hg2 : pgood n l = false := Bool.eq_false_iff.2 hg
  simp only [hg2, Bool.false_eq_true, if_false] at a1 a2 a3 a4 a5 a6 a7 a8 a9 a10 a11 a12 a13 a14 a17 a18 a19 a20 hN hL hb1
  refine zed n l s hs _ _ _ _ _ _ _ _ _ _ _ _ a1 a2 a3 a4 a5 a6 a7 a8 a9 a10 a11 a12 a13 a14 a15 a16 a17 a18 a19 a20 (by simp) (by simp) (by simp) rfl hb1 (Ev.succ ?_)
  simp only [laws_FnRowsGuessedOfAll.j0]
  exact Ev.neg (by decide) (Ev.neg (by decide) h7)
theorem FnRowsGuessedOfAll : StatFnRowsGuessedOfAll := by
 intro n l s _ hl _ _
 refine Ev.get ?_
 by_cases hs : (s.size : Int) > 1048576
 ·unfold laws_FnRowsGuessedOfAll.f
  exact Ev.pos hs (Ev.now _)
 ·exact zwi n l (by omega) s hs

end Go.Proofs.YtfaakdokcldnkaaGreatDoor.Pure
