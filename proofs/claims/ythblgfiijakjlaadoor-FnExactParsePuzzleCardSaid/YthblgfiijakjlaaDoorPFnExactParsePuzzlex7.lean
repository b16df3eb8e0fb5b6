-- Laid by xprint, a program of this session that runs over the kit's print.
import Derived.Test.YthblgfiijakjlaaDoorPFnExactParsePuzzlex0
import Derived.Test.YthblgfiijakjlaaDoorPFnExactParsePuzzlex5
import Derived.Test.YthblgfiijakjlaaDoorPFnExactParsePuzzlex6
namespace Go.Proofs.YthblgfiijakjlaaDoor.PFnExactParsePuzzle
open Go.RowKit Go.Proofs.YthblgfiijakjlaaDoorW.PrintWords Go.Proofs.YthblgfiijakjlaaDoorW.PrintLast Go.Proofs.YthblgfiijakjlaaDoorW.PrintMore Go.Proofs.YthblgfiijakjlaaDoor.Sq
attribute [local go_sem] max2_int min2_int max_two min_two max_three min_three max_four min_four   -- for this text's walks alone
set_option linter.unusedVariables false
set_option linter.unusedSimpArgs false

/-! ### impl_ParsePuzzle: function 5 -/
mutual
def impl_ParsePuzzle.j2 : Nat → ByteArray → Int → List (S40) → Option (Int × (List (S40)) × Bool)
  | 0, _, _, _ => none
  | k + 1, x0, x210000, x210001 => (impl_isPuzzle.f k x210000 x210001).bind fun t234 => (if t234 = true then ((impl_puzzleText.f k x210000 x210001).bind fun t235 => (if t235.toList = x0.toList then (some (x210000, x210001, true)) else (some (0, ([] : List (S40)), false)))) else (some (0, ([] : List (S40)), false)))
def impl_ParsePuzzle.l0 : Nat → ByteArray → ByteArray → List ByteArray → Int → Int → Int → List (S40) → Option (Int × (List (S40)) × Bool)
  | 0, _, _, _, _, _, _, _ => none
  | k + 1, x0, x5, x34, x35, x36, x210000, x210001 => if x36 < x35 then (if 0 ≤ x36 then (if x36 < (x34.length : Int) then (if x5.toList = ([] : List UInt8) then (impl_ParsePuzzle.j2 k x0 x210000 x210001) else ((strings_Split.f (rdOf ByteArray.empty x34 x36) (⟨#[46]⟩ : ByteArray)).bind fun t217 => (impl_ParsePuzzle.l1 k x0 x5 (([] : List Int)) x34 x35 x36 t217 (t217.length : Int) 0 x210000 x210001))) else (none)) else (none)) else (impl_ParsePuzzle.j2 k x0 x210000 x210001)
def impl_ParsePuzzle.l1 : Nat → ByteArray → ByteArray → List Int → List ByteArray → Int → Int → List ByteArray → Int → Int → Int → List (S40) → Option (Int × (List (S40)) × Bool)
  | 0, _, _, _, _, _, _, _, _, _, _, _ => none
  | k + 1, x0, x5, x12, x34, x35, x36, x44, x45, x46, x210000, x210001 => if x46 < x45 then (if 0 ≤ x46 then (if x46 < (x44.length : Int) then ((strconv_Atoi.f (rdOf ByteArray.empty x44 x46)).bind fun bt221 => (if bt221.2.isNone = true then (if x12.length < 17592186044416 then (impl_ParsePuzzle.l1 k x0 x5 (x12 ++ [bt221.1]) x34 x35 x36 x44 x45 (wrap64 (x46 + 1)) x210000 x210001) else (none)) else (some (0, ([] : List (S40)), false)))) else (none)) else (none)) else (if (x12.length : Int) = 4 then (if 0 < (x12.length : Int) then (if 1 < (x12.length : Int) then (if 2 < (x12.length : Int) then (if 3 < (x12.length : Int) then (if x210001.length < 4398046511104 then (impl_ParsePuzzle.l0 k x0 x5 x34 x35 (wrap64 (x36 + 1)) x210000 (x210001 ++ [(⟨rd x12 0, rd x12 1, rd x12 2, rd x12 3⟩ : S40)])) else (none)) else (none)) else (none)) else (none)) else (none)) else (some (0, ([] : List (S40)), false)))
end
def impl_ParsePuzzle.f (k : Nat) (a0 : ByteArray) : Option (Int × (List (S40)) × Bool) := (strings_Cut.f a0 (⟨#[58]⟩ : ByteArray)).bind fun bt203 => ((strconv_Atoi.f bt203.1).bind fun bt206 => (if bt206.2.isNone = true then ((strings_Split.f bt203.2.1 (⟨#[44]⟩ : ByteArray)).bind fun t210 => (impl_ParsePuzzle.l0 k a0 bt203.2.1 t210 (t210.length : Int) 0 bt206.1 ([] : List (S40)))) else (some (0, ([] : List (S40)), false))))
theorem impl_ParsePuzzle.mono_l : ∀ k, (∀ y0 y1 y2, LeO (impl_ParsePuzzle.j2 k y0 y1 y2) (impl_ParsePuzzle.j2 (k + 1) y0 y1 y2)) ∧ (∀ y0 y1 y2 y3 y4 y5 y6, LeO (impl_ParsePuzzle.l0 k y0 y1 y2 y3 y4 y5 y6) (impl_ParsePuzzle.l0 (k + 1) y0 y1 y2 y3 y4 y5 y6)) ∧ (∀ y0 y1 y2 y3 y4 y5 y6 y7 y8 y9 y10, LeO (impl_ParsePuzzle.l1 k y0 y1 y2 y3 y4 y5 y6 y7 y8 y9 y10) (impl_ParsePuzzle.l1 (k + 1) y0 y1 y2 y3 y4 y5 y6 y7 y8 y9 y10))
  | 0 => ⟨fun _ _ _ r h => by simp [impl_ParsePuzzle.j2] at h, fun _ _ _ _ _ _ _ r h => by simp [impl_ParsePuzzle.l0] at h, fun _ _ _ _ _ _ _ _ _ _ _ r h => by simp [impl_ParsePuzzle.l1] at h⟩
  | k + 1 => by
    obtain ⟨ih0, ih1, ih2⟩ := impl_ParsePuzzle.mono_l k
    refine ⟨?_, ?_, ?_⟩
    · intro y0 y1 y2
      unfold impl_ParsePuzzle.j2
      repeat' first
      | (with_reducible exact ih0 _ _ _)
      | (with_reducible exact ih1 _ _ _ _ _ _ _)
      | (with_reducible exact ih2 _ _ _ _ _ _ _ _ _ _ _)
      | (with_reducible exact impl_isPuzzle.mono _ _ _)
      | (with_reducible exact impl_puzzleText.mono _ _ _)
      | (with_reducible exact LeO.refl _)
      | (with_reducible exact LeO.none _)
      | (with_reducible refine LeO.ite ?_ ?_)
      | (with_reducible refine LeO.bind ?_ (fun _ => ?_))
      | exact ih0 _ _ _
      | exact ih1 _ _ _ _ _ _ _
      | exact ih2 _ _ _ _ _ _ _ _ _ _ _
      | exact impl_isPuzzle.mono _ _ _
      | exact impl_puzzleText.mono _ _ _
      | exact LeO.none _
      | refine LeO.ite ?_ ?_
      | refine LeO.bind ?_ (fun _ => ?_)
    · intro y0 y1 y2 y3 y4 y5 y6
      unfold impl_ParsePuzzle.l0
      repeat' first
      | (with_reducible exact ih0 _ _ _)
      | (with_reducible exact ih1 _ _ _ _ _ _ _)
      | (with_reducible exact ih2 _ _ _ _ _ _ _ _ _ _ _)
      | (with_reducible exact impl_isPuzzle.mono _ _ _)
      | (with_reducible exact impl_puzzleText.mono _ _ _)
      | (with_reducible exact LeO.refl _)
      | (with_reducible exact LeO.none _)
      | (with_reducible refine LeO.ite ?_ ?_)
      | (with_reducible refine LeO.bind ?_ (fun _ => ?_))
      | exact ih0 _ _ _
      | exact ih1 _ _ _ _ _ _ _
      | exact ih2 _ _ _ _ _ _ _ _ _ _ _
      | exact impl_isPuzzle.mono _ _ _
      | exact impl_puzzleText.mono _ _ _
      | exact LeO.none _
      | refine LeO.ite ?_ ?_
      | refine LeO.bind ?_ (fun _ => ?_)
    · intro y0 y1 y2 y3 y4 y5 y6 y7 y8 y9 y10
      unfold impl_ParsePuzzle.l1
      repeat' first
      | (with_reducible exact ih0 _ _ _)
      | (with_reducible exact ih1 _ _ _ _ _ _ _)
      | (with_reducible exact ih2 _ _ _ _ _ _ _ _ _ _ _)
      | (with_reducible exact impl_isPuzzle.mono _ _ _)
      | (with_reducible exact impl_puzzleText.mono _ _ _)
      | (with_reducible exact LeO.refl _)
      | (with_reducible exact LeO.none _)
      | (with_reducible refine LeO.ite ?_ ?_)
      | (with_reducible refine LeO.bind ?_ (fun _ => ?_))
      | exact ih0 _ _ _
      | exact ih1 _ _ _ _ _ _ _
      | exact ih2 _ _ _ _ _ _ _ _ _ _ _
      | exact impl_isPuzzle.mono _ _ _
      | exact impl_puzzleText.mono _ _ _
      | exact LeO.none _
      | refine LeO.ite ?_ ?_
      | refine LeO.bind ?_ (fun _ => ?_)
theorem impl_ParsePuzzle.mono : ∀ a0 k, LeO (impl_ParsePuzzle.f k a0) (impl_ParsePuzzle.f (k + 1) a0) := by
  intro a0 k
  obtain ⟨ih0, ih1, ih2⟩ := impl_ParsePuzzle.mono_l k
  unfold impl_ParsePuzzle.f
  repeat' first
      | (with_reducible exact ih0 _ _ _)
      | (with_reducible exact ih1 _ _ _ _ _ _ _)
      | (with_reducible exact ih2 _ _ _ _ _ _ _ _ _ _ _)
      | (with_reducible exact impl_isPuzzle.mono _ _ _)
      | (with_reducible exact impl_puzzleText.mono _ _ _)
      | (with_reducible exact LeO.refl _)
      | (with_reducible exact LeO.none _)
      | (with_reducible refine LeO.ite ?_ ?_)
      | (with_reducible refine LeO.bind ?_ (fun _ => ?_))
      | exact ih0 _ _ _
      | exact ih1 _ _ _ _ _ _ _
      | exact ih2 _ _ _ _ _ _ _ _ _ _ _
      | exact impl_isPuzzle.mono _ _ _
      | exact impl_puzzleText.mono _ _ _
      | exact LeO.none _
      | refine LeO.ite ?_ ?_
      | refine LeO.bind ?_ (fun _ => ?_)
def impl_ParsePuzzle.T21 : Bool × List (List Nat × List Nat) := (true, [([], []), ([0], [0]), ([], []), ([2], [2]), ([3], [3]), ([], []), ([5], [5]), ([6], [6]), ([], []), ([8], [8]), ([9], [9]), ([], []), ([11], [11]), ([12], [12]), ([4, 7, 10, 13], [4, 7, 10, 13]), ([14], [14]), ([1, 15], [1, 15]), ([0, 1, 2, 3, 4, 5, 6, 7, 8, 9, 10, 11, 12, 13, 14, 15, 16], []), ([17, 16, 16, 0, 1, 2, 3, 4, 5, 6, 7, 8, 9, 10, 11, 12, 13, 14, 15, 16], [16, 17])])
def impl_ParsePuzzle.B21 : List Nat := [0, 1, 0, 4, 12, 0, 32, 96, 0, 256, 768, 0, 2048, 6144, 16380, 32764, 65535, 131071, 262143]
theorem impl_ParsePuzzle.tab21 : rtab .any (opsOf Tryd.f5 21) = impl_ParsePuzzle.T21 := by kernel_rfl
theorem impl_ParsePuzzle.bits21 : waitsOk impl_ParsePuzzle.T21.2 impl_ParsePuzzle.B21 = true := by kernel_rfl
set_option maxHeartbeats 8000000 in
set_option maxRecDepth 100000 in
theorem impl_ParsePuzzle.calls (k : Nat) (a0 : ByteArray) (r1 : Int) (r2 : List (S40)) (r3 : Bool) (w : World) (hm : Dr.Tab w) (h : impl_ParsePuzzle.f k a0 = some (r1, r2, r3)) :
  Calls Tryd.prog 5 #[.string a0] w fun e w' => ∃ v1_ : Value, e = .returned (.tuple #[.agg #[.int .i64 r1, v1_], .bool r3]) ∧ Kd.R k40 40 w' w.heap.size (fun _ => True) v1_ r2 ∧ Below w.heap.size w w' := by
 have hu24 := Tryd.underlying24
 have hu40 := Tryd.underlying40
 have hu33 := Tryd.underlying33
 have HB := Aside0.mk (Below.refl w.heap.size w)
 have HMM := Aside0.mk hm
 clear hm
 unfold impl_ParsePuzzle.f at h
 have H := h
 clear h
 replace H := Option.bind_eq_some_iff.mp H
 obtain ⟨⟨t203, t204, t205⟩, A20, H⟩ := H
 (try dsimp only at H)
 have A2 := Aside0.mk A20
 clear A20
 replace H := Option.bind_eq_some_iff.mp H
 obtain ⟨⟨t206, t207⟩, A30, H⟩ := H
 (try dsimp only at H)
 have A3 := Aside0.mk A30
 clear A30
 rcases t207 with _ | q208
 ·rw [if_pos (show (none : Option Int).isNone = true by rfl)] at H
  try simp only [errW_none, errW_some]
  replace H := Option.bind_eq_some_iff.mp H
  obtain ⟨t210, A40, H⟩ := H
  (try dsimp only at H)
  have A4 := Aside0.mk A40
  clear A40
  have HC5 := Aside0.mk H
  clear H
  go_enter Tryd.func5, Tryd.ntmps5
  go_upto_block 0 with (first | ((with_reducible refine gate_dst (N := 2) rfl ?_); refine bx 2 24 #[.int .i64 0, .slice none 0 0] ?_; intro gb202 hg w6 hbox hb; have BK202 := hbox; have GW202 := gs hg; have GE202 := gs hg; replace HB := bs hb; clear hb hbox hg) | ((with_reducible refine gate_callee (f := 10) rfl ?_); refine gl (some 19) Tryd.func10 #[.string a0, .string (⟨#[58]⟩ : ByteArray)] ?_; (with_reducible refine (strings_Cut.calls a0 (⟨#[58]⟩ : ByteArray) t203 t204 t205 _ ?side1 A2.out).mono ?_); (case side1 => first | exact HMM.out | exact Dr.Tab.below HMM.out bw | (repeat (first | exact HMM.out | apply Dr.Tab.drewN | apply Dr.Tab.drew | apply Dr.Tab.alloc))); rintro e w7 ⟨rfl, hb⟩; refine ⟨_, rfl, ?_⟩; replace BK202 := nk BK202 hb; replace HB := bs hb; (try clear hb)) | ((with_reducible refine gate_callee (f := 11) rfl ?_); refine gl (some 25) Tryd.func11 #[.string t203] ?_; (with_reducible refine (strconv_Atoi.calls t203 t206 none _ ?side1 A3.out).mono ?_); (case side1 => first | exact HMM.out | exact Dr.Tab.below HMM.out bw | (repeat (first | exact HMM.out | apply Dr.Tab.drewN | apply Dr.Tab.drew | apply Dr.Tab.alloc))); rintro e w8 ⟨q_, rfl, hb⟩; refine ⟨_, rfl, ?_⟩; replace BK202 := nk BK202 hb; replace HB := bs hb; (try clear hb); (try simp only [Option.map_none, Option.map_some, errW_none, errW_some])) | ((with_reducible refine gate_dst (N := 9) rfl ?_); refine bx 9 24 #[.int .i64 0, .slice none 0 0] ?_; intro gb209 hg w9 hbox hb; have BK209 := hbox; have GW209 := gs hg; have GE209 := gs hg; replace HB := bs hb; have NB202_209 := nl BK202 hg; have NB209_202 := ng BK202 hg; replace BK202 := nk BK202 hb; clear hb hbox hg; have hnb10 := NB209_202.out; have hnc10 := NB202_209.out; have hcz11_0 := bc BK209 0 (.int .i64 0); have hcz11_1 := bc BK209 1 (.slice none 0 0); have hfz11_0 := blk_frozen BK209.out 0; have hfz11_1 := blk_frozen BK209.out 1) | ((with_reducible refine gate_callee (f := 12) rfl ?_); refine gl (some 34) Tryd.func12 #[.string t204, .string (⟨#[44]⟩ : ByteArray)] ?_; (with_reducible refine (strings_Split.calls t204 (⟨#[44]⟩ : ByteArray) t210 _ ?side1 A4.out).mono ?_); (case side1 => first | exact HMM.out | exact Dr.Tab.below HMM.out bw | (repeat (first | exact HMM.out | apply Dr.Tab.drewN | apply Dr.Tab.drew | apply Dr.Tab.alloc))); rintro e w12 ⟨v211, rfl, ho0, hb⟩; refine ⟨_, rfl, ?_⟩; have HO212 := Aside0.mk (Kd.R_lower ho0 (below_size bw)); replace BK202 := Aside0.mk (blk_below (g := gb202) (o := .cells #[.int .i64 0, .slice none 0 0] 24 (0, 0)) (by (with_reducible repeat (first | refine blk_drewN ?_ _ | refine blk_drew ?_ | refine blk_alloc ?_ _)); refine blk_far ?_ NB202_209.out _; (with_reducible repeat (first | refine blk_drewN ?_ _ | refine blk_drew ?_ | refine blk_alloc ?_ _)); refine blk_far ?_ NB202_209.out _; (with_reducible repeat (first | refine blk_drewN ?_ _ | refine blk_drew ?_ | refine blk_alloc ?_ _)); exact BK202.out) hb); replace BK209 := Aside0.mk (blk_below (g := gb209) (o := .cells #[.int .i64 t206, .slice none 0 0] 24 (0, 0)) (by (with_reducible repeat (first | refine blk_drewN ?_ _ | refine blk_drew ?_ | refine blk_alloc ?_ _)); refine blk_put (cs := #[.int .i64 t206, .slice none 0 0]) ?_ 1 _ rfl; (with_reducible repeat (first | refine blk_drewN ?_ _ | refine blk_drew ?_ | refine blk_alloc ?_ _)); refine blk_put (cs := #[.int .i64 0, .slice none 0 0]) ?_ 0 _ rfl; (with_reducible repeat (first | refine blk_drewN ?_ _ | refine blk_drew ?_ | refine blk_alloc ?_ _)); exact BK209.out) hb); replace HB := bs hb; (try clear hb); (try clear ho0); obtain ⟨Ao13, co13, eo13⟩ := Kd.R_slice HO212.out; subst eo13))
  (try simp only [Act.put, List.setIfInBounds_toArray, List.set_cons_zero, List.set_cons_succ])
  go_cut [] (fun wc => ∃ (kq : Nat) (x203000_4 : Int) (x210001_4 : List (S40)) (u210001 : Value), Aside0 (impl_ParsePuzzle.j2 kq a0 t206 x210001_4 = some (r1, r2, r3)) ∧ Aside0 (kq ≤ k) ∧ Aside0 (Kd.R k40 40 wc w.heap.size (fun _ => True) u210001 x210001_4) ∧ Aside0 (wc.heap[gb202]? = some (.cells #[.int .i64 x203000_4, (.slice none 0 0)] 24 (0, 0))) ∧ Aside0 (wc.heap[gb209]? = some (.cells #[.int .i64 t206, u210001] 24 (0, 0))) ∧ Aside0 (Below w.heap.size w wc))
  case first =>
   have H := HC5.out
   clear HC5
   have H' := Aside0.mk H
   clear H
   go_wp2
   go_loopg [36] k (fun kq v36 w' => ∃ (x36_1 : Int) (x203000_1 : Int) (x210001_1 : List (S40)) (u210001 : Value), v36 = .int .i64 x36_1 ∧ Aside0 (impl_ParsePuzzle.l0 kq a0 t204 t210 (t210.length : Int) x36_1 t206 x210001_1 = some (r1, r2, r3)) ∧ Aside0 (kq ≤ k) ∧ Aside0 (Kd.R Kd.string 9 w' w.heap.size (fun _ => True) (.slice Ao13 t210.length co13) t210) ∧ Aside0 (Kd.R k40 40 w' w.heap.size (fun _ => True) u210001 x210001_1) ∧ Aside0 (w'.heap[gb202]? = some (.cells #[.int .i64 x203000_1, (.slice none 0 0)] 24 (0, 0))) ∧ Aside0 (w'.heap[gb209]? = some (.cells #[.int .i64 t206, u210001] 24 (0, 0))) ∧ Aside0 (Below w.heap.size w w'))
   case atStart => exact ⟨(0), (0), (([] : List (S40))), (.slice none 0 0), (rs), H', ⟨Nat.le_refl _⟩, ⟨pr HO212⟩, ⟨by first | exact Kd.R_nil _ _ _ _ _ | exact Kd.N_nil _ _ _ _ _ | exact Kd.V_nil _ _ _ _ _ | exact Kd.Q_nil _ _ _ _ _ | exact Kd.S_nil _ _ _ _ _⟩, ⟨pk BK202⟩, ⟨pk BK209⟩, ⟨bw⟩⟩
   case round =>
    clear H'
    try clear c1
    try clear p2
    try clear q2
    try clear c5
    try clear c10
    try clear c11
    try clear c12
    try clear hcz11_0
    try clear hcz11_1
    try clear hfz11_0
    try clear hfz11_1
    try clear q208
    obtain ⟨x36_1, x203000_1, x210001_1, u210001, rfl, HA, HK1, HO_34, HO_210001, BK202, BK209, HB⟩ := hrel
    cases gk with
    | zero => exact absurd HA.out (by simp [impl_ParsePuzzle.l0])
    | succ k1 =>
     have H := HA.out
     clear HA
     simp only [impl_ParsePuzzle.l0] at H
     by_cases c14 : x36_1 < (t210.length : Int)
     ·rw [if_pos c14] at H
      have c14b0 : decide (x36_1 < (t210.length : Int)) = true := decide_eq_true c14
      clear c14
      (first | rw [c14b0] | rw [@decide_eq_true _ _ (of_decide_eq_true c14b1)] | rw [@decide_eq_false _ _ (of_decide_eq_false c14b1)] | (simp only [i64_w, i32_w]; rw [c14b0]) | skip)
      by_cases c15 : 0 ≤ x36_1
      ·rw [if_pos c15] at H
       have c15b0 : decide (0 ≤ x36_1) = true := decide_eq_true c15
       clear c15
       by_cases c16 : x36_1 < (t210.length : Int)
       ·rw [if_pos c16] at H
        have c16b0 : decide (x36_1 < (t210.length : Int)) = true := decide_eq_true c16
        clear c16
        by_cases c17 : t204.toList = ([] : List UInt8)
        ·rw [if_pos c17] at H
         have c17b0 : (t204.toList == ([] : List UInt8)) = true := beq_iff_eq.mpr c17
         have c17b1 : (t204.toList != ([] : List UInt8)) = false := bne_eq_false_iff_eq.mpr c17
         clear c17
         have H' := Aside0.mk H
         clear H
         have p213 : 0 ≤ (x36_1 : Int) := of_decide_eq_true (by first | (with_reducible assumption) | assumption)
         have q213 : x36_1 < (t210.length : Int) := of_decide_eq_true (by first | (with_reducible assumption) | assumption)
         obtain ⟨ad213, e213, hx213_0⟩ := Kd.at_string (Kd.R_reads' HO_34.out).2.2 x36_1 p213 q213
         cases e213
         replace p213 := eq_true p213
         replace q213 := eq_true q213
         go_wp2
         go_meet
         case rel => exact ⟨_, (x203000_1), (x210001_1), (u210001), H', ⟨by have := HK1.out; first | omega | exact Nat.le_refl _⟩, ⟨pr HO_210001⟩, ⟨pk BK202⟩, ⟨pk BK209⟩, ⟨bw⟩⟩
        ·rw [if_neg c17] at H
         have c17b0 : (t204.toList == ([] : List UInt8)) = false := beq_eq_false_iff_ne.mpr c17
         have c17b1 : (t204.toList != ([] : List UInt8)) = true := bne_iff_ne.mpr c17
         obtain ⟨y214, hy214⟩ : ∃ y_ : List Int, y_ = (([] : List Int)) := ⟨_, rfl⟩
         replace H : ((strings_Split.f (rdOf ByteArray.empty t210 x36_1) (⟨#[46]⟩ : ByteArray)).bind fun t217 => (impl_ParsePuzzle.l1 k1 a0 t204 y214 t210 (t210.length : Int) x36_1 t217 (t217.length : Int) 0 t206 x210001_1)) = some (r1, r2, r3) := by first | (rw [hy214]; with_reducible exact H) | (have H2_ := (Option.bind_some _ _).symm.trans H; rw [hy214]; with_reducible exact H2_) | (have H2_ := (Option.bind_some _ _).symm.trans H; with_reducible exact H2_) | with_reducible exact H | (rw [hy214]; exact H) | exact H
         have Ny214 := Aside0.mk hy214
         clear hy214
         replace H := Option.bind_eq_some_iff.mp H
         obtain ⟨t217, A180, H⟩ := H
         (try dsimp only at H)
         have A18 := Aside0.mk A180
         clear A180
         have H' := Aside0.mk H
         clear H
         have p213 : 0 ≤ (x36_1 : Int) := of_decide_eq_true (by first | (with_reducible assumption) | assumption)
         have q213 : x36_1 < (t210.length : Int) := of_decide_eq_true (by first | (with_reducible assumption) | assumption)
         obtain ⟨ad213, e213, hx213_0⟩ := Kd.at_string (Kd.R_reads' HO_34.out).2.2 x36_1 p213 q213
         cases e213
         replace p213 := eq_true p213
         replace q213 := eq_true q213
         go_wp2_with (first | ((with_reducible refine gate_dst (N := 42) rfl ?_); refine Kd.R_lit (Kd.int .i64) _ 3 ?hg (N := 42) ?hd (xs := ([] : List Int)) (inner := []) (ok := fun _ => True) (okp := fun _ => True) ?hr ?hp (fun _ hk => hk) trivial (Below.refl _ _) (Nat.le_refl _) (by simp) ?_; (case hd => rfl); (case hg => rfl); (case hr => first | (go_simp; done) | (go_simp; rfl)); (case hp => exact (Reps.none _ _)); intro v215 w19 ho20 hb hg_ hnew_; clear hg_ hnew_; (first | rw [← Ny214.out] at ho20 | (simp only [Int.reduceToNat] at ho20; rw [← Ny214.out] at ho20)); replace HO_34 := Aside0.mk (Kd.R_below (pr HO_34) hb); replace HO_210001 := Aside0.mk (Kd.R_below (pr HO_210001) hb); have HO216 := Aside0.mk (Kd.R_lower ho20 (below_size bw)); replace BK202 := nk BK202 hb; replace BK209 := nk BK209 hb; replace HB := bs hb; clear hb ho20) | ((with_reducible refine gate_callee (f := 12) rfl ?_); refine gl (some 44) Tryd.func12 #[.string (rdOf ByteArray.empty t210 x36_1), .string (⟨#[46]⟩ : ByteArray)] ?_; (with_reducible refine (strings_Split.calls (rdOf ByteArray.empty t210 x36_1) (⟨#[46]⟩ : ByteArray) t217 _ ?side1 A18.out).mono ?_); (case side1 => first | exact HMM.out | exact Dr.Tab.below HMM.out bw | (repeat (first | exact HMM.out | apply Dr.Tab.drewN | apply Dr.Tab.drew | apply Dr.Tab.alloc))); rintro e w21 ⟨v218, rfl, ho0, hb⟩; refine ⟨_, rfl, ?_⟩; replace HO_210001 := Aside0.mk (Kd.R_below (pr HO_210001) hb); replace HO216 := Aside0.mk (Kd.R_below (pr HO216) hb); have HO219 := Aside0.mk (Kd.R_lower (Kd.R_new' ho0 (Kd.R_lt (pr HO_34))) (below_size bw)); replace HO_34 := Aside0.mk (Kd.R_elder' (pr HO_34) (Kd.R_base ho0) hb); replace BK202 := nk BK202 hb; replace BK209 := nk BK209 hb; replace HB := bs hb; (try clear hb); (try clear ho0); obtain ⟨Ao22, co22, eo22⟩ := Kd.R_slice HO219.out; subst eo22))
         go_loopg [12, 46] k1 (fun kq v12 v46 w' => ∃ (x12_2 : List Int) (x46_2 : Int) (x203000_2 : Int), v46 = .int .i64 x46_2 ∧ Aside0 (impl_ParsePuzzle.l1 kq a0 t204 x12_2 t210 (t210.length : Int) x36_1 t217 (t217.length : Int) x46_2 t206 x210001_1 = some (r1, r2, r3)) ∧ Aside0 (kq ≤ k1) ∧ Aside0 (Kd.R (Kd.int .i64) 3 w' w.heap.size (fun _ => True) v12 x12_2) ∧ Aside0 (Kd.R Kd.string 9 w' w.heap.size (fun k_ => some k_ ≠ ((.slice Ao22 t217.length co22) : Value).ownBlock) (.slice (some ad213) t210.length co13) t210) ∧ Aside0 (Kd.R Kd.string 9 w' w.heap.size (fun k_ => some k_ ≠ ((.slice (some ad213) t210.length co13) : Value).ownBlock) (.slice Ao22 t217.length co22) t217) ∧ Aside0 (Kd.R k40 40 w' w.heap.size (fun _ => True) u210001 x210001_1) ∧ Aside0 (w'.heap[gb202]? = some (.cells #[.int .i64 x203000_2, (.slice none 0 0)] 24 (0, 0))) ∧ Aside0 (w'.heap[gb209]? = some (.cells #[.int .i64 t206, u210001] 24 (0, 0))) ∧ Aside0 (Below w.heap.size w w'))
         case atStart => exact ⟨(y214), (0), (x203000_1), (rs), H', ⟨Nat.le_refl _⟩, ⟨pr HO216⟩, ⟨by (with_reducible repeat (first | apply Kd.R_alloc | apply Kd.R_drewN | apply Kd.R_drew)); exact Kd.R_mono HO_34.out (fun _ hk => hk.2)⟩, ⟨by (with_reducible repeat (first | apply Kd.R_alloc | apply Kd.R_drewN | apply Kd.R_drew)); exact Kd.R_mono HO219.out (fun _ hk => hk.2)⟩, ⟨pr HO_210001⟩, ⟨pk BK202⟩, ⟨pk BK209⟩, ⟨bw⟩⟩
         case round =>
          clear H'
          try clear c1
          try clear p2
          try clear q2
          try clear hx2
          try clear c5
          try clear c10
          try clear c11
          try clear c12
          try clear c14
          try clear c14b0
          try clear c15
          try clear c15b0
          try clear c16
          try clear c16b0
          try clear c17
          try clear c17b0
          try clear c17b1
          try clear q20
          try clear p21
          try clear q21
          try clear hx21
          try clear hcz11_0
          try clear hcz11_1
          try clear hfz11_0
          try clear hfz11_1
          try clear hx213_0
          try clear p2
          try clear p213
          try clear q2
          try clear q208
          try clear q213
          obtain ⟨x12_2, x46_2, x203000_2, rfl, HA, HK2, HO_12, HO_34, HO_44, HO_210001, BK202, BK209, HB⟩ := hrel
          cases gk with
          | zero => exact absurd HA.out (by simp [impl_ParsePuzzle.l1])
          | succ k2 =>
           have H := HA.out
           clear HA
           simp only [impl_ParsePuzzle.l1] at H
           by_cases c23 : x46_2 < (t217.length : Int)
           ·rw [if_pos c23] at H
            have c23b0 : decide (x46_2 < (t217.length : Int)) = true := decide_eq_true c23
            clear c23
            by_cases c24 : 0 ≤ x46_2
            ·rw [if_pos c24] at H
             have c24b0 : decide (0 ≤ x46_2) = true := decide_eq_true c24
             clear c24
             by_cases c25 : x46_2 < (t217.length : Int)
             ·rw [if_pos c25] at H
              have c25b0 : decide (x46_2 < (t217.length : Int)) = true := decide_eq_true c25
              clear c25
              replace H := Option.bind_eq_some_iff.mp H
              obtain ⟨⟨t221, t222⟩, A260, H⟩ := H
              (try dsimp only at H)
              have A26 := Aside0.mk A260
              clear A260
              rcases t222 with _ | q223
              ·rw [if_pos (show (none : Option Int).isNone = true by rfl)] at H
               try simp only [errW_none, errW_some]
               by_cases c27 : x12_2.length < 17592186044416
               ·rw [if_pos c27] at H
                have LMc27 := Aside0.mk c27
                clear c27
                obtain ⟨y224, hy224⟩ : ∃ y_ : List Int, y_ = (x12_2 ++ [t221]) := ⟨_, rfl⟩
                replace H : (impl_ParsePuzzle.l1 k2 a0 t204 y224 t210 (t210.length : Int) x36_1 t217 (t217.length : Int) (wrap64 (x46_2 + 1)) t206 x210001_1) = some (r1, r2, r3) := by first | (rw [hy224]; with_reducible exact H) | (have H2_ := (Option.bind_some _ _).symm.trans H; rw [hy224]; with_reducible exact H2_) | (have H2_ := (Option.bind_some _ _).symm.trans H; with_reducible exact H2_) | with_reducible exact H | (rw [hy224]; exact H) | exact H
                have Ny224 := Aside0.mk hy224
                clear hy224
                have H' := Aside0.mk H
                clear H
                have p220 : 0 ≤ (x46_2 : Int) := of_decide_eq_true (by first | (with_reducible assumption) | assumption)
                have q220 : x46_2 < (t217.length : Int) := of_decide_eq_true (by first | (with_reducible assumption) | assumption)
                obtain ⟨ad220, e220, hx220_0⟩ := Kd.at_string (Kd.R_reads' HO_44.out).2.2 x46_2 p220 q220
                cases e220
                replace p220 := eq_true p220
                replace q220 := eq_true q220
                go_wp2_with (first | ((with_reducible refine gate_callee (f := 11) rfl ?_); refine gl (some 52) Tryd.func11 #[.string (rdOf ByteArray.empty t217 x46_2)] ?_; (with_reducible refine (strconv_Atoi.calls (rdOf ByteArray.empty t217 x46_2) t221 none _ ?side1 A26.out).mono ?_); (case side1 => first | exact HMM.out | exact Dr.Tab.below HMM.out bw | (repeat (first | exact HMM.out | apply Dr.Tab.drewN | apply Dr.Tab.drew | apply Dr.Tab.alloc))); rintro e w28 ⟨q_, rfl, hb⟩; refine ⟨_, rfl, ?_⟩; replace HO_12 := Aside0.mk (Kd.R_below (pr HO_12) hb); replace HO_34 := Aside0.mk (Kd.R_below (pr HO_34) hb); replace HO_44 := Aside0.mk (Kd.R_below (pr HO_44) hb); replace HO_210001 := Aside0.mk (Kd.R_below (pr HO_210001) hb); replace BK202 := nk BK202 hb; replace BK209 := nk BK209 hb; replace HB := bs hb; (try clear hb); (try simp only [Option.map_none, Option.map_some, errW_none, errW_some])) | ((with_reducible refine gate_builtin (b := .append) (xs := #[.tmp 58, .tmp 60]) rfl ?_); at_builtin; refine Kd.R_append (Kd.int .i64) (w0 := w) w.heap.size rfl (.tmp 58) (.tmp 60) 38 3 (.int .i64 0) 8 rfl Tryd.underlying38 info3 rfl (by decide) (by omega) u12 x12_2 t221 [.int .i64 t221] (fun _ => True) (fun _ => False) rfl rfl ?aP (fun _ hk => hk.elim) ?aF ?aO ?aB ?aS ?aL ?_; (case aP => exact rfl); (case aB => exact bw); (case aF => exact (fun _ _ => trivial)); (case aO => exact (pr HO_12)); (case aS => exact (below_size bw)); (case aL => have := LMc27.out; omega); intro v225 w29 ho hb hg hat; rw [← Ny224.out] at ho; have n0_ := Aside0.mk (Kd.R_over' (pr HO_34) (Kd.R_typed (pr HO_12)) (by decide) hg); have n1_ := Aside0.mk (Kd.R_over' (pr HO_44) (Kd.R_typed (pr HO_12)) (by decide) hg); have n2_ := Aside0.mk (Kd.R_over' (pr HO_210001) (Kd.R_typed (pr HO_12)) (by decide) hg); have n3_ := Aside0.mk (blk_grown (pk BK202) hg (Kd.R_ne HO_12.out BK202.out (by decide))); have n4_ := Aside0.mk (blk_grown (pk BK209) hg (Kd.R_ne HO_12.out BK209.out (by decide))); have n5_ := Aside0.mk (hb); have n6_ := Aside0.mk (ho); clear HO_34; clear HO_44; clear HO_210001; clear BK202; clear BK209; clear HB; clear HO_12; have HO_34 := n0_; have HO_44 := n1_; have HO_210001 := n2_; have BK202 := n3_; have BK209 := n4_; have HB := n5_; have HO226 := n6_; clear n0_ n1_ n2_ n3_ n4_ n5_ n6_; clear ho hb hg hat))
                go_roundg k2
                case measure => have := HK1.out; have := HK2.out; omega
                case rel => exact ⟨(y224), (wrap64 (x46_2 + 1)), (x203000_2), (rs), H', ⟨by have := HK1.out; have := HK2.out; omega⟩, ⟨pr HO226⟩, ⟨pr HO_34⟩, ⟨pr HO_44⟩, ⟨pr HO_210001⟩, ⟨pk BK202⟩, ⟨pk BK209⟩, ⟨bw⟩⟩
               ·rw [if_neg c27] at H
                exact absurd H (by simp)
              ·rw [if_neg (show ¬ (some q223).isNone = true by simp)] at H
               try simp only [errW_none, errW_some]
               simp only [Option.some.injEq, Prod.mk.injEq] at H
               obtain ⟨rfl, rfl, rfl⟩ := H
               have p220 : 0 ≤ (x46_2 : Int) := of_decide_eq_true (by first | (with_reducible assumption) | assumption)
               have q220 : x46_2 < (t217.length : Int) := of_decide_eq_true (by first | (with_reducible assumption) | assumption)
               obtain ⟨ad220, e220, hx220_0⟩ := Kd.at_string (Kd.R_reads' HO_44.out).2.2 x46_2 p220 q220
               cases e220
               replace p220 := eq_true p220
               replace q220 := eq_true q220
               go_wp2_with (first | ((with_reducible refine gate_callee (f := 11) rfl ?_); refine gl (some 52) Tryd.func11 #[.string (rdOf ByteArray.empty t217 x46_2)] ?_; (with_reducible refine (strconv_Atoi.calls (rdOf ByteArray.empty t217 x46_2) t221 (some q223) _ ?side1 A26.out).mono ?_); (case side1 => first | exact HMM.out | exact Dr.Tab.below HMM.out bw | (repeat (first | exact HMM.out | apply Dr.Tab.drewN | apply Dr.Tab.drew | apply Dr.Tab.alloc))); rintro e w30 ⟨q_, rfl, hb⟩; refine ⟨_, rfl, ?_⟩; replace HO_12 := Aside0.mk (Kd.R_below (pr HO_12) hb); replace HO_34 := Aside0.mk (Kd.R_below (pr HO_34) hb); replace HO_44 := Aside0.mk (Kd.R_below (pr HO_44) hb); replace HO_210001 := Aside0.mk (Kd.R_below (pr HO_210001) hb); replace BK202 := nk BK202 hb; replace BK209 := nk BK209 hb; replace HB := bs hb; (try clear hb); (try simp only [Option.map_none, Option.map_some, errW_none, errW_some]); have hnb31 := NB202_209.out; have hnc31 := NB209_202.out; have hcz32_0 := bc BK202 0 (.int .i64 x203000_2); have hcz32_1 := bc BK202 1 (.slice none 0 0); have hfz32_0 := blk_frozen BK202.out 0; have hfz32_1 := blk_frozen BK202.out 1))
               refine bodyPost_ret (results_ct rfl _ _ gb202 24 #[.int .i64 0, .slice none 0 0] (0, 0) _ rfl (by (with_reducible repeat (first | refine blk_drewN ?_ _ | refine blk_drew ?_ | refine blk_alloc ?_ _)); refine blk_put (cs := #[.int .i64 0, .slice none 0 0]) ?_ 1 _ rfl; (with_reducible repeat (first | refine blk_drewN ?_ _ | refine blk_drew ?_ | refine blk_alloc ?_ _)); refine blk_put (cs := #[.int .i64 x203000_2, .slice none 0 0]) ?_ 0 _ rfl; (with_reducible repeat (first | refine blk_drewN ?_ _ | refine blk_drew ?_ | refine blk_alloc ?_ _)); exact BK202.out) Tryd.underlying24 rfl (by kernel_rfl)) rfl ?_
               exact ⟨_, rs, by first | exact Kd.R_nil _ _ _ _ _ | exact Kd.N_nil _ _ _ _ _ | exact Kd.V_nil _ _ _ _ _ | exact Kd.Q_nil _ _ _ _ _ | exact Kd.S_nil _ _ _ _ _, bw⟩
             ·rw [if_neg c25] at H
              exact absurd H (by simp)
            ·rw [if_neg c24] at H
             exact absurd H (by simp)
           ·rw [if_neg c23] at H
            have c23b0 : decide (x46_2 < (t217.length : Int)) = false := decide_eq_false c23
            clear c23
            by_cases c33 : (x12_2.length : Int) = 4
            ·rw [if_pos c33] at H
             have c33b0 : ((x12_2.length : Int) == 4) = true := beq_iff_eq.mpr c33
             have c33b1 : ((x12_2.length : Int) != 4) = false := bne_eq_false_iff_eq.mpr c33
             clear c33
             by_cases c34 : 0 < (x12_2.length : Int)
             ·rw [if_pos c34] at H
              have c34b0 : decide (0 < (x12_2.length : Int)) = true := decide_eq_true c34
              have c34b1 : decide (0 < x12_2.length) = true := decide_eq_true (by omega)
              clear c34
              by_cases c35 : 1 < (x12_2.length : Int)
              ·rw [if_pos c35] at H
               have c35b0 : decide (1 < (x12_2.length : Int)) = true := decide_eq_true c35
               have c35b1 : decide (1 < x12_2.length) = true := decide_eq_true (by omega)
               clear c35
               by_cases c36 : 2 < (x12_2.length : Int)
               ·rw [if_pos c36] at H
                have c36b0 : decide (2 < (x12_2.length : Int)) = true := decide_eq_true c36
                have c36b1 : decide (2 < x12_2.length) = true := decide_eq_true (by omega)
                clear c36
                by_cases c37 : 3 < (x12_2.length : Int)
                ·rw [if_pos c37] at H
                 have c37b0 : decide (3 < (x12_2.length : Int)) = true := decide_eq_true c37
                 have c37b1 : decide (3 < x12_2.length) = true := decide_eq_true (by omega)
                 clear c37
                 by_cases c38 : x210001_1.length < 4398046511104
                 ·rw [if_pos c38] at H
                  have LMc38 := Aside0.mk c38
                  clear c38
                  obtain ⟨y231, hy231⟩ : ∃ y_ : List (S40), y_ = (x210001_1 ++ [(⟨rd x12_2 0, rd x12_2 1, rd x12_2 2, rd x12_2 3⟩ : S40)]) := ⟨_, rfl⟩
                  replace H : (impl_ParsePuzzle.l0 k2 a0 t204 t210 (t210.length : Int) (wrap64 (x36_1 + 1)) t206 y231) = some (r1, r2, r3) := by first | (rw [hy231]; with_reducible exact H) | (have H2_ := (Option.bind_some _ _).symm.trans H; rw [hy231]; with_reducible exact H2_) | (have H2_ := (Option.bind_some _ _).symm.trans H; with_reducible exact H2_) | with_reducible exact H | (rw [hy231]; exact H) | exact H
                  have Ny231 := Aside0.mk hy231
                  clear hy231
                  have H' := Aside0.mk H
                  clear H
                  obtain ⟨Ao39, co39, eo39⟩ := Kd.R_slice HO_12.out
                  subst eo39
                  try go_wp2
                  replace HO_12 := Aside0.mk (Kd.R_drew HO_12.out)
                  replace HO_34 := Aside0.mk (Kd.R_drew HO_34.out)
                  replace HO_44 := Aside0.mk (Kd.R_drew HO_44.out)
                  replace HO_210001 := Aside0.mk (Kd.R_drew HO_210001.out)
                  replace BK202 := Aside0.mk (blk_drew BK202.out)
                  replace BK209 := Aside0.mk (blk_drew BK209.out)
                  replace HB := Aside0.mk (below_drew1 HB.out)
                  have p227 : 0 ≤ (0 : Int) := (by omega)
                  have q227 : 0 < (x12_2.length : Int) := of_decide_eq_true (by first | (with_reducible assumption) | assumption)
                  obtain ⟨ad227, e227, hx227_0⟩ := Kd.at_int (Kd.R_reads' HO_12.out).2.2 0 p227 q227
                  cases e227
                  have qi227 : (0 < x12_2.length) = True := eq_true (by omega)
                  (try rw [show ((0 : Int)).toNat = 0 from rfl] at hx227_0)
                  (try rw [Addr.add_zero'] at hx227_0)
                  replace p227 := eq_true p227
                  replace q227 := eq_true q227
                  have p228 : 0 ≤ (1 : Int) := (by omega)
                  have q228 : 1 < (x12_2.length : Int) := of_decide_eq_true (by first | (with_reducible assumption) | assumption)
                  obtain ⟨ad228, e228, hx228_0⟩ := Kd.at_int (Kd.R_reads' HO_12.out).2.2 1 p228 q228
                  obtain rfl : ad227 = ad228 := (by injection e228)
                  (try simp only [show (1 : Int).toNat = 1 from rfl, Nat.reduceMul, Nat.reduceEqDiff, Go.Addr.add, ↓reduceIte] at hx228_0)
                  have qi228 : (1 < x12_2.length) = True := eq_true (by omega)
                  (try rw [show ((1 : Int)).toNat = 1 from rfl] at hx228_0)
                  replace p228 := eq_true p228
                  replace q228 := eq_true q228
                  have p229 : 0 ≤ (2 : Int) := (by omega)
                  have q229 : 2 < (x12_2.length : Int) := of_decide_eq_true (by first | (with_reducible assumption) | assumption)
                  obtain ⟨ad229, e229, hx229_0⟩ := Kd.at_int (Kd.R_reads' HO_12.out).2.2 2 p229 q229
                  obtain rfl : ad227 = ad229 := (by injection e229)
                  (try simp only [show (2 : Int).toNat = 2 from rfl, Nat.reduceMul, Nat.reduceEqDiff, Go.Addr.add, ↓reduceIte] at hx229_0)
                  have qi229 : (2 < x12_2.length) = True := eq_true (by omega)
                  (try rw [show ((2 : Int)).toNat = 2 from rfl] at hx229_0)
                  replace p229 := eq_true p229
                  replace q229 := eq_true q229
                  have p230 : 0 ≤ (3 : Int) := (by omega)
                  have q230 : 3 < (x12_2.length : Int) := of_decide_eq_true (by first | (with_reducible assumption) | assumption)
                  obtain ⟨ad230, e230, hx230_0⟩ := Kd.at_int (Kd.R_reads' HO_12.out).2.2 3 p230 q230
                  obtain rfl : ad227 = ad230 := (by injection e230)
                  (try simp only [show (3 : Int).toNat = 3 from rfl, Nat.reduceMul, Nat.reduceEqDiff, Go.Addr.add, ↓reduceIte] at hx230_0)
                  have qi230 : (3 < x12_2.length) = True := eq_true (by omega)
                  (try rw [show ((3 : Int)).toNat = 3 from rfl] at hx230_0)
                  replace p230 := eq_true p230
                  replace q230 := eq_true q230
                  refine start_ (n := 19) (S := fun w' => w'.cell? ⟨gb209, 0, none⟩ = some (.int .i64 t206) ∧ w'.cell? ⟨gb209, 1, none⟩ = some (u210001) ∧ w'.cell? ad227 = some (.int .i64 (rd x12_2 0)) ∧ w'.cell? ⟨ad227.block, ad227.off + 1, none⟩ = some (.int .i64 (rd x12_2 1)) ∧ w'.cell? ⟨ad227.block, ad227.off + 2, none⟩ = some (.int .i64 (rd x12_2 2)) ∧ w'.cell? ⟨ad227.block, ad227.off + 3, none⟩ = some (.int .i64 (rd x12_2 3))) (ds := [16, 18]) #[false, false, false, false, false, false, false, false, false, false, false, false, false, false, false, false, false, false, false] (by kernel_rfl) rfl rfl ⟨ec BK209, ec BK209, hx227_0, hx228_0, hx229_0, hx230_0⟩ (fun hHeld => ?_); refine with_tabW impl_ParsePuzzle.tab21 impl_ParsePuzzle.bits21 (fun HT_ HW_ => ?_)
                  generalize wr.drew = w40 at HO_12 HO_34 HO_44 HO_210001 BK202 BK209 HB hx227_0 hx228_0 hx229_0 hx230_0 hHeld ⊢
                  refine pu 0 (some 67) #[true, false, false, false, false, false, false, false, false, false, false, false, false, false, false, false, false, false, false] ?_
                  refine pu 2 (some 69) #[true, false, true, false, false, false, false, false, false, false, false, false, false, false, false, false, false, false, false] ?_
                  refine pu 3 (some 70) #[true, false, true, true, false, false, false, false, false, false, false, false, false, false, false, false, false, false, false] ?_
                  refine pu 5 (some 72) #[true, false, true, true, false, true, false, false, false, false, false, false, false, false, false, false, false, false, false] ?_
                  refine pu 6 (some 73) #[true, false, true, true, false, true, true, false, false, false, false, false, false, false, false, false, false, false, false] ?_
                  refine pu 8 (some 75) #[true, false, true, true, false, true, true, false, true, false, false, false, false, false, false, false, false, false, false] ?_
                  refine pu 9 (some 76) #[true, false, true, true, false, true, true, false, true, true, false, false, false, false, false, false, false, false, false] ?_
                  refine pu 11 (some 78) #[true, false, true, true, false, true, true, false, true, true, false, true, false, false, false, false, false, false, false] ?_
                  refine pu 12 (some 79) #[true, false, true, true, false, true, true, false, true, true, false, true, true, false, false, false, false, false, false] ?_
                  refine take_ (i := 1) (N := some 68) (v := ?_) (a' := ?_) #[true, true, true, true, false, true, true, false, true, true, false, true, true, false, false, false, false, false, false] rfl rfl (take_ofW HT_.out HW_.out (by kernel_rfl)) (fun _ _ _ h => h) (Or.inl ⟨by rfl, ?_⟩) hHeld ?_ ?_
                  rotate_left
                  ·rintro w' ⟨s0, s1, s2, s3, s4, s5⟩
                   go_simp
                   with_reducible rfl
                  rotate_left
                  ·simp only [Act.put, List.setIfInBounds_toArray, List.set_cons_zero, List.set_cons_succ, i64_w, i32_w]
                   rfl
                  refine take_ (i := 4) (N := some 71) (v := ?_) (a' := ?_) #[true, true, true, true, true, true, true, false, true, true, false, true, true, false, false, false, false, false, false] rfl rfl (take_ofW HT_.out HW_.out (by kernel_rfl)) (fun _ _ _ h => h) (Or.inl ⟨by rfl, ?_⟩) hHeld ?_ ?_
                  rotate_left
                  ·rintro w' ⟨s0, s1, s2, s3, s4, s5⟩
                   go_simp
                   with_reducible rfl
                  rotate_left
                  ·simp only [Act.put, List.setIfInBounds_toArray, List.set_cons_zero, List.set_cons_succ, i64_w, i32_w]
                   rfl
                  refine take_ (i := 7) (N := some 74) (v := ?_) (a' := ?_) #[true, true, true, true, true, true, true, true, true, true, false, true, true, false, false, false, false, false, false] rfl rfl (take_ofW HT_.out HW_.out (by kernel_rfl)) (fun _ _ _ h => h) (Or.inl ⟨by rfl, ?_⟩) hHeld ?_ ?_
                  rotate_left
                  ·rintro w' ⟨s0, s1, s2, s3, s4, s5⟩
                   go_simp
                   with_reducible rfl
                  rotate_left
                  ·simp only [Act.put, List.setIfInBounds_toArray, List.set_cons_zero, List.set_cons_succ, i64_w, i32_w]
                   rfl
                  refine take_ (i := 10) (N := some 77) (v := ?_) (a' := ?_) #[true, true, true, true, true, true, true, true, true, true, true, true, true, false, false, false, false, false, false] rfl rfl (take_ofW HT_.out HW_.out (by kernel_rfl)) (fun _ _ _ h => h) (Or.inl ⟨by rfl, ?_⟩) hHeld ?_ ?_
                  rotate_left
                  ·rintro w' ⟨s0, s1, s2, s3, s4, s5⟩
                   go_simp
                   with_reducible rfl
                  rotate_left
                  ·simp only [Act.put, List.setIfInBounds_toArray, List.set_cons_zero, List.set_cons_succ, i64_w, i32_w]
                   rfl
                  refine take_ (i := 13) (N := some 80) (v := ?_) (a' := ?_) #[true, true, true, true, true, true, true, true, true, true, true, true, true, true, false, false, false, false, false] rfl rfl (take_ofW HT_.out HW_.out (by kernel_rfl)) (fun _ _ _ h => h) (Or.inl ⟨by rfl, ?_⟩) hHeld ?_ ?_
                  rotate_left
                  ·rintro w' ⟨s0, s1, s2, s3, s4, s5⟩
                   go_simp
                   with_reducible rfl
                  rotate_left
                  ·simp only [Act.put, List.setIfInBounds_toArray, List.set_cons_zero, List.set_cons_succ, i64_w, i32_w]
                   rfl
                  refine pu 14 (some 81) #[true, true, true, true, true, true, true, true, true, true, true, true, true, true, true, false, false, false, false] ?_
                  refine one_ (i := 15) (N := some 82) #[true, true, true, true, true, true, true, true, true, true, true, true, true, true, true, true, false, false, false] rfl rfl (one_of HT_.out (by kernel_rfl)) (by decide) (fun K hK => ?_)
                  refine value_ (w1 := ?_) (v := ?_) (by rfl) rfl ?_ ?_
                  rotate_left 2
                  ·go_simp
                   constructor
                   ·rfl
                   ·rfl
                  refine hK.out _ _ ⟨(blk_cell (blk_alloc BK209.out _) 0).trans rfl, (blk_cell (blk_alloc BK209.out _) 1).trans rfl, (World.cell?_alloc_lt _ _ _ (World.block_lt_of_cell? _ _ (hHeld.2.2.1))).trans (hHeld.2.2.1), (World.cell?_alloc_lt _ _ _ (World.block_lt_of_cell? _ _ (hHeld.2.2.2.1))).trans (hHeld.2.2.2.1), (World.cell?_alloc_lt _ _ _ (World.block_lt_of_cell? _ _ (hHeld.2.2.2.2.1))).trans (hHeld.2.2.2.2.1), (World.cell?_alloc_lt _ _ _ (World.block_lt_of_cell? _ _ (hHeld.2.2.2.2.2))).trans (hHeld.2.2.2.2.2)⟩ (fun hHeld => ?_)
                  clear hK K
                  refine nm (some 82) ?_
                  refine last_ (i := 16) (N := some 83) #[true, true, true, true, true, true, true, true, true, true, true, true, true, true, true, true, true, false, false] rfl rfl (one_of HT_.out (by kernel_rfl)) (by decide) (fun K hK => ?_)
                  refine Kd.R_append_step k40 (w0 := w) w.heap.size (by rfl) (.tmp 68) (.tmp 82) 22 40 (.agg #[(.int .i64 0), (.int .i64 0), (.int .i64 0), (.int .i64 0)]) 32 rfl Tryd.underlying22 info40 rfl (by decide) (by omega) u210001 x210001_1 (⟨rd x12_2 0, rd x12_2 1, rd x12_2 2, rd x12_2 3⟩ : S40) [.int .i64 (rd x12_2 0), .int .i64 (rd x12_2 1), .int .i64 (rd x12_2 2), .int .i64 (rd x12_2 3)] (fun _ => True) (fun _ => False) rfl rfl ?aP (fun _ hk => hk.elim) ?aF ?aO ?aB ?aS ?aL ?_
                  (case aP => exact k40_mkM _ _ _ (⟨rd x12_2 0, rd x12_2 1, rd x12_2 2, rd x12_2 3⟩ : S40))
                  (case aB => exact bw)
                  (case aF => exact (fun _ _ => trivial))
                  (case aO => exact (pr HO_210001))
                  (case aS => exact (below_size bw))
                  (case aL => have := LMc38.out; omega)
                  intro v232 w41 ho hb hg hat
                  rw [← Ny231.out] at ho
                  have n0_ := Aside0.mk (Kd.R_over' (pr HO_12) (Kd.R_typed (pr HO_210001)) (by decide) hg)
                  have n1_ := Aside0.mk (Kd.R_over' (pr HO_34) (Kd.R_typed (pr HO_210001)) (by decide) hg)
                  have n2_ := Aside0.mk (Kd.R_over' (pr HO_44) (Kd.R_typed (pr HO_210001)) (by decide) hg)
                  have n3_ := Aside0.mk (blk_grown (pk BK202) hg (Kd.R_ne HO_210001.out BK202.out (by decide)))
                  have n4_ := Aside0.mk (blk_grown (pk BK209) hg (Kd.R_ne HO_210001.out BK209.out (by decide)))
                  have n5_ := Aside0.mk (hb)
                  have n6_ := Aside0.mk (ho)
                  clear HO_12
                  clear HO_34
                  clear HO_44
                  clear BK202
                  clear BK209
                  clear HB
                  clear HO_210001
                  have HO_12 := n0_
                  have HO_34 := n1_
                  have HO_44 := n2_
                  have BK202 := n3_
                  have BK209 := n4_
                  have HB := n5_
                  have HO233 := n6_
                  clear n0_ n1_ n2_ n3_ n4_ n5_ n6_
                  clear ho hb hg hat
                  obtain ⟨Ao42, co42, eo42⟩ := Kd.R_slice HO233.out
                  (first | subst eo42 | (injection eo42 with f1_ f2_ f3_; have f4_ := f1_.symm; have f5_ := f3_.symm; clear f1_ f2_ f3_; subst f4_; subst f5_))
                  refine hK.out _ _ ?_
                  clear hK K
                  refine nm (some 83) ?_
                  refine pu 17 (some 84) #[true, true, true, true, true, true, true, true, true, true, true, true, true, true, true, true, true, true, false] ?_
                  refine last_ (i := 18) (N := none) #[true, true, true, true, true, true, true, true, true, true, true, true, true, true, true, true, true, true, true] rfl rfl (one_of HT_.out (by kernel_rfl)) (by decide) (fun K hK => ?_)
                  have hs43 : w41.cell? ⟨gb209, 1, none⟩ = some (u210001) := ec BK209
                  have hfs43 := blk_frozen BK209.out 1
                  have hns43_0 := NB202_209.out
                  have hms43_0 := NB209_202.out
                  refine skip_ (w1 := ?_) (by rfl) rfl ?_ ?_
                  rotate_left
                  ·go_simp
                   rfl
                  refine hK.out _ _ ?_
                  clear hK K
                  refine done_ (done_of HT_.out (by kernel_rfl)) ?_
                  try go_wp2
                  go_roundg k2
                  case measure => have := HK1.out; have := HK2.out; omega
                  case rel => exact ⟨(wrap64 (x36_1 + 1)), (x203000_2), (y231), (.slice Ao42 y231.length co42), (rs), H', ⟨by have := HK1.out; have := HK2.out; omega⟩, ⟨by (with_reducible repeat (first | apply Kd.R_alloc | apply Kd.R_drewN | apply Kd.R_drew)); exact Kd.R_mono (Kd.R_far (p := ⟨gb209, 1, none⟩) (Kd.R_types HO_34.out BK209.out (by decide)) (fun _ hk => hk.2) (.slice Ao42 y231.length co42)) (fun _ hk => trivial)⟩, ⟨by (with_reducible repeat (first | apply Kd.R_alloc | apply Kd.R_drewN | apply Kd.R_drew)); exact Kd.R_mono (Kd.R_far (p := ⟨gb209, 1, none⟩) (Kd.R_types HO233.out BK209.out (by decide)) (fun _ hk => hk.2) (.slice Ao42 y231.length co42)) (fun _ hk => trivial)⟩, ⟨by (with_reducible repeat (first | refine blk_drewN ?_ _ | refine blk_drew ?_ | refine blk_alloc ?_ _)); refine blk_far ?_ NB202_209.out _; (with_reducible repeat (first | refine blk_drewN ?_ _ | refine blk_drew ?_ | refine blk_alloc ?_ _)); exact BK202.out⟩, ⟨by (with_reducible repeat (first | refine blk_drewN ?_ _ | refine blk_drew ?_ | refine blk_alloc ?_ _)); refine blk_put (cs := #[.int .i64 t206, u210001]) ?_ 1 _ rfl; (with_reducible repeat (first | refine blk_drewN ?_ _ | refine blk_drew ?_ | refine blk_alloc ?_ _)); exact BK209.out⟩, ⟨bw⟩⟩
                 ·rw [if_neg c38] at H
                  exact absurd H (by simp)
                ·rw [if_neg c37] at H
                 exact absurd H (by simp)
               ·rw [if_neg c36] at H
                exact absurd H (by simp)
              ·rw [if_neg c35] at H
               exact absurd H (by simp)
             ·rw [if_neg c34] at H
              exact absurd H (by simp)
            ·rw [if_neg c33] at H
             have c33b0 : ((x12_2.length : Int) == 4) = false := beq_eq_false_iff_ne.mpr c33
             have c33b1 : ((x12_2.length : Int) != 4) = true := bne_iff_ne.mpr c33
             simp only [Option.some.injEq, Prod.mk.injEq] at H
             obtain ⟨rfl, rfl, rfl⟩ := H
             obtain ⟨Ao44, co44, eo44⟩ := Kd.R_slice HO_12.out
             subst eo44
             have hnb45 := NB202_209.out
             have hnc45 := NB209_202.out
             have hcz46_0 : wr.cell? ⟨gb202, 0, none⟩ = some (.int .i64 x203000_2) := ec BK202
             have hcz46_1 : wr.cell? ⟨gb202, 1, none⟩ = some (.slice none 0 0) := ec BK202
             have hfz46_0 := blk_frozen BK202.out 0
             have hfz46_1 := blk_frozen BK202.out 1
             go_wp2
             refine bodyPost_ret (results_ct rfl _ _ gb202 24 #[.int .i64 0, .slice none 0 0] (0, 0) _ rfl (by (with_reducible repeat (first | refine blk_drewN ?_ _ | refine blk_drew ?_ | refine blk_alloc ?_ _)); refine blk_put (cs := #[.int .i64 0, .slice none 0 0]) ?_ 1 _ rfl; (with_reducible repeat (first | refine blk_drewN ?_ _ | refine blk_drew ?_ | refine blk_alloc ?_ _)); refine blk_put (cs := #[.int .i64 x203000_2, .slice none 0 0]) ?_ 0 _ rfl; (with_reducible repeat (first | refine blk_drewN ?_ _ | refine blk_drew ?_ | refine blk_alloc ?_ _)); exact BK202.out) Tryd.underlying24 rfl (by kernel_rfl)) rfl ?_
             exact ⟨_, rs, by first | exact Kd.R_nil _ _ _ _ _ | exact Kd.N_nil _ _ _ _ _ | exact Kd.V_nil _ _ _ _ _ | exact Kd.Q_nil _ _ _ _ _ | exact Kd.S_nil _ _ _ _ _, bw⟩
       ·rw [if_neg c16] at H
        exact absurd H (by simp)
      ·rw [if_neg c15] at H
       exact absurd H (by simp)
     ·rw [if_neg c14] at H
      have c14b0 : decide (x36_1 < (t210.length : Int)) = false := decide_eq_false c14
      clear c14
      (first | rw [c14b0] | rw [@decide_eq_true _ _ (of_decide_eq_true c14b1)] | rw [@decide_eq_false _ _ (of_decide_eq_false c14b1)] | (simp only [i64_w, i32_w]; rw [c14b0]) | skip)
      have H' := Aside0.mk H
      clear H
      go_wp2
      go_meet
      case rel => exact ⟨_, (x203000_1), (x210001_1), (u210001), H', ⟨by have := HK1.out; first | omega | exact Nat.le_refl _⟩, ⟨pr HO_210001⟩, ⟨pk BK202⟩, ⟨pk BK209⟩, ⟨bw⟩⟩
  case rest =>
   clear HC5
   try clear c1
   try clear c2
   try clear p2
   try clear q2
   try clear hx2
   try clear qi2
   try clear c3
   try clear c4
   try clear c5
   try clear p6
   try clear c10
   try clear c11
   try clear c12
   try clear c14
   try clear c14b0
   try clear c15
   try clear c15b0
   try clear c16
   try clear c16b0
   try clear c17
   try clear c17b0
   try clear c17b1
   try clear q20
   try clear p21
   try clear q21
   try clear hx21
   try clear p22
   try clear q22
   try clear hx22
   try clear qi22
   try clear c23
   try clear c23b0
   try clear p23
   try clear q23
   try clear hx23
   try clear qi23
   try clear c24
   try clear c24b0
   try clear c25
   try clear c25b0
   try clear c27
   try clear c31
   try clear c33
   try clear c33b0
   try clear c33b1
   try clear c34
   try clear c34b0
   try clear c34b1
   try clear c35
   try clear c35b0
   try clear c35b1
   try clear c36
   try clear c36b0
   try clear c36b1
   try clear c37
   try clear c37b0
   try clear c37b1
   try clear c38
   try clear c45
   try clear hcz11_0
   try clear hcz11_1
   try clear hcz32_0
   try clear hcz32_1
   try clear hcz46_0
   try clear hcz46_1
   try clear hfz11_0
   try clear hfz11_1
   try clear hfz32_0
   try clear hfz32_1
   try clear hfz46_0
   try clear hfz46_1
   try clear hx213_0
   try clear hx220_0
   try clear hx227_0
   try clear hx228_0
   try clear hx229_0
   try clear hx230_0
   try clear p2
   try clear p21
   try clear p213
   try clear p220
   try clear p227
   try clear p228
   try clear p229
   try clear p230
   try clear q2
   try clear q20
   try clear q208
   try clear q21
   try clear q213
   try clear q220
   try clear q223
   try clear q227
   try clear q228
   try clear q229
   try clear q230
   obtain ⟨kq, x203000_4, x210001_4, u210001, HA, HJ4, HO_210001, BK202, BK209, HB⟩ := hcut
   cases kq with
   | zero => exact absurd HA.out (by simp [impl_ParsePuzzle.j2])
   | succ kj4 =>
    have H := HA.out
    clear HA
    simp only [impl_ParsePuzzle.j2] at H
    replace H := Option.bind_eq_some_iff.mp H
    obtain ⟨t234, A470, H⟩ := H
    (try dsimp only at H)
    have A47 := Aside0.mk A470
    clear A470
    by_cases c48 : t234 = true
    ·subst c48
     rw [if_pos rfl] at H
     replace H := Option.bind_eq_some_iff.mp H
     obtain ⟨t235, A490, H⟩ := H
     (try dsimp only at H)
     have A49 := Aside0.mk A490
     clear A490
     by_cases c50 : t235.toList = a0.toList
     ·rw [if_pos c50] at H
      have c50b0 : (t235.toList == a0.toList) = true := beq_iff_eq.mpr c50
      have c50b1 : (t235.toList != a0.toList) = false := bne_eq_false_iff_eq.mpr c50
      clear c50
      simp only [Option.some.injEq, Prod.mk.injEq] at H
      obtain ⟨rfl, rfl, rfl⟩ := H
      have hnb51 := NB209_202.out
      have hnc51 := NB202_209.out
      have hcz52_0 : wc.cell? ⟨gb209, 0, none⟩ = some (.int .i64 t206) := ec BK209
      have hcz52_1 : wc.cell? ⟨gb209, 1, none⟩ = some (u210001) := ec BK209
      have hfz52_0 := blk_frozen BK209.out 0
      have hfz52_1 := blk_frozen BK209.out 1
      obtain ⟨Ao53, co53, eo53⟩ := Kd.R_slice HO_210001.out
      subst eo53
      go_wp2_with (first | ((with_reducible refine gate_callee (f := 13) rfl ?_); refine gl (some 87) Tryd.func13 #[.agg #[.int .i64 t206, .slice Ao53 x210001_4.length co53]] ?_; (with_reducible refine (impl_isPuzzle.calls kj4 t206 _ _ x210001_4 true _ ?side1 ?side2 A47.out).mono ?_); (case side1 => repeat (first | exact (Kd.R_reads' HO_210001.out).2.2 | (with_reducible refine Kd.C_alloc ?_ _) | (with_reducible refine Kd.C_drewN ?_ _) | (with_reducible refine Kd.C_drew ?_))); (case side2 => exact (Kd.R_reads' HO_210001.out).2.1); rintro e w54 ⟨rfl, hb⟩; refine ⟨_, rfl, ?_⟩; replace HO_210001 := Aside0.mk (Kd.R_below (pr HO_210001) hb); replace BK202 := nk BK202 hb; replace BK209 := nk BK209 hb; replace HB := bs hb; (try clear hb); have hcz55_0 := bc BK209 0 (.int .i64 t206); have hcz55_1 := bc BK209 1 (.slice Ao53 x210001_4.length co53); have hfz55_0 := blk_frozen BK209.out 0; have hfz55_1 := blk_frozen BK209.out 1) | (go_at_call 14; (with_reducible refine (impl_puzzleText.calls kj4 t206 _ _ x210001_4 t235 _ ?side1 ?side2 A49.out).mono ?_); (case side1 => repeat (first | exact (Kd.R_reads' HO_210001.out).2.2 | (with_reducible refine Kd.C_alloc ?_ _) | (with_reducible refine Kd.C_drewN ?_ _) | (with_reducible refine Kd.C_drew ?_))); (case side2 => exact (Kd.R_reads' HO_210001.out).2.1); rintro e w56 ⟨rfl, hb⟩; replace HO_210001 := Aside0.mk (Kd.R_below (pr HO_210001) hb); replace BK202 := nk BK202 hb; replace BK209 := nk BK209 hb; replace HB := bs hb; (try clear hb); have hcz57_0 := bc BK209 0 (.int .i64 t206); have hcz57_1 := bc BK209 1 (.slice Ao53 x210001_4.length co53); have hfz57_0 := blk_frozen BK209.out 0; have hfz57_1 := blk_frozen BK209.out 1; have hcz58_0 := bc BK202 0 (.int .i64 x203000_4); have hcz58_1 := bc BK202 1 (.slice none 0 0); have hfz58_0 := blk_frozen BK202.out 0; have hfz58_1 := blk_frozen BK202.out 1))
      refine bodyPost_ret (results_ct rfl _ _ gb202 24 #[.int .i64 t206, .slice Ao53 x210001_4.length co53] (0, 0) _ rfl (by (with_reducible repeat (first | refine blk_drewN ?_ _ | refine blk_drew ?_ | refine blk_alloc ?_ _)); refine blk_put (cs := #[.int .i64 t206, .slice none 0 0]) ?_ 1 _ rfl; (with_reducible repeat (first | refine blk_drewN ?_ _ | refine blk_drew ?_ | refine blk_alloc ?_ _)); refine blk_put (cs := #[.int .i64 x203000_4, .slice none 0 0]) ?_ 0 _ rfl; (with_reducible repeat (first | refine blk_drewN ?_ _ | refine blk_drew ?_ | refine blk_alloc ?_ _)); exact BK202.out) Tryd.underlying24 rfl (by kernel_rfl)) rfl ?_
      exact ⟨_, rs, by (with_reducible repeat (first | apply Kd.R_alloc | apply Kd.R_drewN | apply Kd.R_drew)); exact Kd.R_mono (Kd.R_far (p := ⟨gb202, 1, none⟩) (Kd.R_far (p := ⟨gb202, 0, none⟩) (Kd.R_types HO_210001.out BK202.out (by decide)) (fun _ hk => hk.2) (.int .i64 t206)) (fun _ hk => hk.2) (.slice Ao53 x210001_4.length co53)) (fun _ hk => trivial), bw⟩
     ·rw [if_neg c50] at H
      have c50b0 : (t235.toList == a0.toList) = false := beq_eq_false_iff_ne.mpr c50
      have c50b1 : (t235.toList != a0.toList) = true := bne_iff_ne.mpr c50
      simp only [Option.some.injEq, Prod.mk.injEq] at H
      obtain ⟨rfl, rfl, rfl⟩ := H
      have hnb59 := NB209_202.out
      have hnc59 := NB202_209.out
      have hcz60_0 : wc.cell? ⟨gb209, 0, none⟩ = some (.int .i64 t206) := ec BK209
      have hcz60_1 : wc.cell? ⟨gb209, 1, none⟩ = some (u210001) := ec BK209
      have hfz60_0 := blk_frozen BK209.out 0
      have hfz60_1 := blk_frozen BK209.out 1
      obtain ⟨Ao61, co61, eo61⟩ := Kd.R_slice HO_210001.out
      subst eo61
      go_wp2_with (first | ((with_reducible refine gate_callee (f := 13) rfl ?_); refine gl (some 87) Tryd.func13 #[.agg #[.int .i64 t206, .slice Ao61 x210001_4.length co61]] ?_; (with_reducible refine (impl_isPuzzle.calls kj4 t206 _ _ x210001_4 true _ ?side1 ?side2 A47.out).mono ?_); (case side1 => repeat (first | exact (Kd.R_reads' HO_210001.out).2.2 | (with_reducible refine Kd.C_alloc ?_ _) | (with_reducible refine Kd.C_drewN ?_ _) | (with_reducible refine Kd.C_drew ?_))); (case side2 => exact (Kd.R_reads' HO_210001.out).2.1); rintro e w62 ⟨rfl, hb⟩; refine ⟨_, rfl, ?_⟩; replace HO_210001 := Aside0.mk (Kd.R_below (pr HO_210001) hb); replace BK202 := nk BK202 hb; replace BK209 := nk BK209 hb; replace HB := bs hb; (try clear hb); have hcz63_0 := bc BK209 0 (.int .i64 t206); have hcz63_1 := bc BK209 1 (.slice Ao61 x210001_4.length co61); have hfz63_0 := blk_frozen BK209.out 0; have hfz63_1 := blk_frozen BK209.out 1) | (go_at_call 14; (with_reducible refine (impl_puzzleText.calls kj4 t206 _ _ x210001_4 t235 _ ?side1 ?side2 A49.out).mono ?_); (case side1 => repeat (first | exact (Kd.R_reads' HO_210001.out).2.2 | (with_reducible refine Kd.C_alloc ?_ _) | (with_reducible refine Kd.C_drewN ?_ _) | (with_reducible refine Kd.C_drew ?_))); (case side2 => exact (Kd.R_reads' HO_210001.out).2.1); rintro e w64 ⟨rfl, hb⟩; replace HO_210001 := Aside0.mk (Kd.R_below (pr HO_210001) hb); replace BK202 := nk BK202 hb; replace BK209 := nk BK209 hb; replace HB := bs hb; (try clear hb); have hcz65_0 := bc BK202 0 (.int .i64 x203000_4); have hcz65_1 := bc BK202 1 (.slice none 0 0); have hfz65_0 := blk_frozen BK202.out 0; have hfz65_1 := blk_frozen BK202.out 1))
      refine bodyPost_ret (results_ct rfl _ _ gb202 24 #[.int .i64 0, .slice none 0 0] (0, 0) _ rfl (by (with_reducible repeat (first | refine blk_drewN ?_ _ | refine blk_drew ?_ | refine blk_alloc ?_ _)); refine blk_put (cs := #[.int .i64 0, .slice none 0 0]) ?_ 1 _ rfl; (with_reducible repeat (first | refine blk_drewN ?_ _ | refine blk_drew ?_ | refine blk_alloc ?_ _)); refine blk_put (cs := #[.int .i64 x203000_4, .slice none 0 0]) ?_ 0 _ rfl; (with_reducible repeat (first | refine blk_drewN ?_ _ | refine blk_drew ?_ | refine blk_alloc ?_ _)); exact BK202.out) Tryd.underlying24 rfl (by kernel_rfl)) rfl ?_
      exact ⟨_, rs, by first | exact Kd.R_nil _ _ _ _ _ | exact Kd.N_nil _ _ _ _ _ | exact Kd.V_nil _ _ _ _ _ | exact Kd.Q_nil _ _ _ _ _ | exact Kd.S_nil _ _ _ _ _, bw⟩
    ·replace c48 := Bool.eq_false_iff.mpr c48
     subst c48
     rw [if_neg (show ¬ (false = true) by decide)] at H
     simp only [Option.some.injEq, Prod.mk.injEq] at H
     obtain ⟨rfl, rfl, rfl⟩ := H
     have hnb66 := NB209_202.out
     have hnc66 := NB202_209.out
     have hcz67_0 : wc.cell? ⟨gb209, 0, none⟩ = some (.int .i64 t206) := ec BK209
     have hcz67_1 : wc.cell? ⟨gb209, 1, none⟩ = some (u210001) := ec BK209
     have hfz67_0 := blk_frozen BK209.out 0
     have hfz67_1 := blk_frozen BK209.out 1
     obtain ⟨Ao68, co68, eo68⟩ := Kd.R_slice HO_210001.out
     subst eo68
     go_wp2_with (first | ((with_reducible refine gate_callee (f := 13) rfl ?_); refine gl (some 87) Tryd.func13 #[.agg #[.int .i64 t206, .slice Ao68 x210001_4.length co68]] ?_; (with_reducible refine (impl_isPuzzle.calls kj4 t206 _ _ x210001_4 false _ ?side1 ?side2 A47.out).mono ?_); (case side1 => repeat (first | exact (Kd.R_reads' HO_210001.out).2.2 | (with_reducible refine Kd.C_alloc ?_ _) | (with_reducible refine Kd.C_drewN ?_ _) | (with_reducible refine Kd.C_drew ?_))); (case side2 => exact (Kd.R_reads' HO_210001.out).2.1); rintro e w69 ⟨rfl, hb⟩; refine ⟨_, rfl, ?_⟩; replace HO_210001 := Aside0.mk (Kd.R_below (pr HO_210001) hb); replace BK202 := nk BK202 hb; replace BK209 := nk BK209 hb; replace HB := bs hb; (try clear hb); have hcz70_0 := bc BK202 0 (.int .i64 x203000_4); have hcz70_1 := bc BK202 1 (.slice none 0 0); have hfz70_0 := blk_frozen BK202.out 0; have hfz70_1 := blk_frozen BK202.out 1))
     refine bodyPost_ret (results_ct rfl _ _ gb202 24 #[.int .i64 0, .slice none 0 0] (0, 0) _ rfl (by (with_reducible repeat (first | refine blk_drewN ?_ _ | refine blk_drew ?_ | refine blk_alloc ?_ _)); refine blk_put (cs := #[.int .i64 0, .slice none 0 0]) ?_ 1 _ rfl; (with_reducible repeat (first | refine blk_drewN ?_ _ | refine blk_drew ?_ | refine blk_alloc ?_ _)); refine blk_put (cs := #[.int .i64 x203000_4, .slice none 0 0]) ?_ 0 _ rfl; (with_reducible repeat (first | refine blk_drewN ?_ _ | refine blk_drew ?_ | refine blk_alloc ?_ _)); exact BK202.out) Tryd.underlying24 rfl (by kernel_rfl)) rfl ?_
     exact ⟨_, rs, by first | exact Kd.R_nil _ _ _ _ _ | exact Kd.N_nil _ _ _ _ _ | exact Kd.V_nil _ _ _ _ _ | exact Kd.Q_nil _ _ _ _ _ | exact Kd.S_nil _ _ _ _ _, bw⟩
 ·rw [if_neg (show ¬ (some q208).isNone = true by simp)] at H
  try simp only [errW_none, errW_some]
  simp only [Option.some.injEq, Prod.mk.injEq] at H
  obtain ⟨rfl, rfl, rfl⟩ := H
  go_enter Tryd.func5, Tryd.ntmps5
  go_wp2_with (first | ((with_reducible refine gate_dst (N := 2) rfl ?_); refine bx 2 24 #[.int .i64 0, .slice none 0 0] ?_; intro gb202 hg w71 hbox hb; have BK202 := hbox; have GW202 := gs hg; have GE202 := gs hg; replace HB := bs hb; clear hb hbox hg) | ((with_reducible refine gate_callee (f := 10) rfl ?_); refine gl (some 19) Tryd.func10 #[.string a0, .string (⟨#[58]⟩ : ByteArray)] ?_; (with_reducible refine (strings_Cut.calls a0 (⟨#[58]⟩ : ByteArray) t203 t204 t205 _ ?side1 A2.out).mono ?_); (case side1 => first | exact HMM.out | exact Dr.Tab.below HMM.out bw | (repeat (first | exact HMM.out | apply Dr.Tab.drewN | apply Dr.Tab.drew | apply Dr.Tab.alloc))); rintro e w72 ⟨rfl, hb⟩; refine ⟨_, rfl, ?_⟩; replace BK202 := nk BK202 hb; replace HB := bs hb; (try clear hb)) | ((with_reducible refine gate_callee (f := 11) rfl ?_); refine gl (some 25) Tryd.func11 #[.string t203] ?_; (with_reducible refine (strconv_Atoi.calls t203 t206 (some q208) _ ?side1 A3.out).mono ?_); (case side1 => first | exact HMM.out | exact Dr.Tab.below HMM.out bw | (repeat (first | exact HMM.out | apply Dr.Tab.drewN | apply Dr.Tab.drew | apply Dr.Tab.alloc))); rintro e w73 ⟨q_, rfl, hb⟩; refine ⟨_, rfl, ?_⟩; replace BK202 := nk BK202 hb; replace HB := bs hb; (try clear hb); (try simp only [Option.map_none, Option.map_some, errW_none, errW_some]); have hcz74_0 := bc BK202 0 (.int .i64 0); have hcz74_1 := bc BK202 1 (.slice none 0 0); have hfz74_0 := blk_frozen BK202.out 0; have hfz74_1 := blk_frozen BK202.out 1))
  refine bodyPost_ret (results_ct rfl _ _ gb202 24 #[.int .i64 0, .slice none 0 0] (0, 0) _ rfl (by (with_reducible repeat (first | refine blk_drewN ?_ _ | refine blk_drew ?_ | refine blk_alloc ?_ _)); refine blk_put (cs := #[.int .i64 0, .slice none 0 0]) ?_ 1 _ rfl; (with_reducible repeat (first | refine blk_drewN ?_ _ | refine blk_drew ?_ | refine blk_alloc ?_ _)); refine blk_put (cs := #[.int .i64 0, .slice none 0 0]) ?_ 0 _ rfl; (with_reducible repeat (first | refine blk_drewN ?_ _ | refine blk_drew ?_ | refine blk_alloc ?_ _)); exact BK202.out) Tryd.underlying24 rfl (by kernel_rfl)) rfl ?_
  exact ⟨_, rs, by first | exact Kd.R_nil _ _ _ _ _ | exact Kd.N_nil _ _ _ _ _ | exact Kd.V_nil _ _ _ _ _ | exact Kd.Q_nil _ _ _ _ _ | exact Kd.S_nil _ _ _ _ _, bw⟩

end Go.Proofs.YthblgfiijakjlaaDoor.PFnExactParsePuzzle
