-- Laid by xprint, a program of this session that runs over the kit's print.
import Derived.Test.YtfaakdokcldnkaaGreatDoorPFnRowsGuessedOfAllx16
namespace Go.Proofs.YtfaakdokcldnkaaGreatDoor.PFnRowsGuessedOfAll
open Go.RowKit Go.Proofs.YtfaakdokcldnkaaGreatDoorW.PrintWords Go.Proofs.YtfaakdokcldnkaaGreatDoorW.PrintLast Go.Proofs.YtfaakdokcldnkaaGreatDoorW.PrintMore Go.Proofs.YtfaakdokcldnkaaGreatDoor.Sq
attribute [local go_sem] max2_int min2_int max_two min_two max_three min_three max_four min_four   -- for this text's walks alone
set_option linter.unusedVariables false
set_option linter.unusedSimpArgs false

/-! ### strconv_Atoi: function 47 -/
def strconv_Atoi.f (a0 : ByteArray) : Option (Int × Option Int) := if a0.size ≤ 281474976710656 then (match Lib.atoiAll a0.data.toList with | .ok v => some (v, none) | .range => some (Lib.atoiSat a0.data.toList, some 0) | _ => some (0, some 0)) else none
theorem strconv_Atoi.calls (a0 : ByteArray) (r1 : Int) (r2 : Option Int) (w : World) (hm : Dr.Tab w) (h : strconv_Atoi.f a0 = some (r1, r2)) :
  Calls Tryz.prog 47 #[.string a0] w fun e w' => ∃ q_ : Int, e = .returned (.tuple #[.int .i64 r1, errW (r2.map fun _ => q_)]) ∧ Below w.heap.size w w' := by
 unfold strconv_Atoi.f at h
 split at h
 ·next hs =>
  cases h0 : Lib.atoiAll a0.data.toList
  ·rename_i v
   rw [h0] at h
   simp only [Option.some.injEq, Prod.mk.injEq] at h
   obtain ⟨rfl, rfl⟩ := h
   have c : Calls Tryz.prog 47 #[.string a0] w _ := Any.strconv_Atoi_ok Tryz.laysC172 a0 (by omega) v h0 w
   exact c.mono fun e w' ⟨h1, h2⟩ => ⟨0, h1, by
    rcases h2 with rfl | ⟨t, rfl⟩
    ·exact Below.refl _ _
    exact Lib.bytesWorld_below _ _ _⟩
  ·rw [h0] at h
   simp only [Option.some.injEq, Prod.mk.injEq] at h
   obtain ⟨rfl, rfl⟩ := h
   obtain ⟨ev, hv, hev⟩ := hm.synt
   have c : Calls Tryz.prog 47 #[.string a0] w _ := Any.strconv_Atoi_syntax Tryz.laysC172 a0 hs h0 ev w hv hev
   exact c.mono fun e w' ⟨N, h1, _, _, h2⟩ => ⟨(N : Int), h1, h2⟩
  rw [h0] at h
  simp only [Option.some.injEq, Prod.mk.injEq] at h
  obtain ⟨rfl, rfl⟩ := h
  obtain ⟨ev, hv, hev⟩ := hm.rang
  have c : Calls Tryz.prog 47 #[.string a0] w _ := Any.strconv_Atoi_range Tryz.laysC172 a0 hs h0 ev w hv hev
  exact c.mono fun e w' ⟨N, h1, _, _, h2⟩ => ⟨(N : Int), h1, h2⟩
 cases h

/-! ### strings_Split: function 48 -/
def strings_Split.f (a0 : ByteArray) (a1 : ByteArray) : Option (List ByteArray) := if a0.size < 4294967281 ∧ 1 ≤ a1.size then some (Lib.splitB a1 0 (Lib.countB a0 a1) a0) else none
theorem strings_Split.calls (a0 : ByteArray) (a1 : ByteArray) (r : List ByteArray) (w : World) (hm : Dr.Tab w) (h : strings_Split.f a0 a1 = some r) :
  Calls Tryz.prog 48 #[.string a0, .string a1] w fun e w' => ∃ v1_ : Value, e = .returned v1_ ∧ Kd.R Kd.string 9 w' w.heap.size (fun _ => True) v1_ r ∧ Below w.heap.size w w' := by
 unfold strings_Split.f at h
 obtain ⟨m, hm⟩ := hm.max
 split at h
 ·next hc =>
  obtain rfl := Option.some.inj h
  have c : Calls Tryz.prog 48 #[.string a0, .string a1] w _ := Any.strings_Split { Tryz.laysM146 with } Tryz.laysM146.i9 a0 a1 m w hc.1 hm hc.2
  have hn := Lib.splitB_all a1 hc.2 0 _ a0 rfl
  have hle := Lib.countB_le a1 hc.2 a0.size a0 (Nat.le_refl _)
  rw [← hn] at c
  generalize Lib.splitB a1 0 (Lib.countB a0 a1) a0 = xs at c hn ⊢
  refine c.mono fun e w' ⟨h1, h2⟩ => ?_
  subst h2
  refine ⟨_, h1, ⟨fun _ _ => trivial, xs.map Value.string, ?_, ?_⟩, below_alloc (Below.refl _ _) _⟩
  ·have h3 := World.ownsRow_lit (base := w.heap.size) (e := 9) (size := 1) w ((xs.map Value.string).toArray) xs.length (Nat.le_refl _) (by simp [maxLen]; omega) (by simp)
   have h4 : (w.alloc (Obj.cells (List.map Value.string xs).toArray 9)).ownsRow w.heap.size 9 1 (Value.slice (some { block := w.heap.size, off := 0 }) xs.length xs.length) xs.length (List.map Value.string xs) := by simpa using h3
   exact h4
  exact Kd.reps_scalar xs
 cases h

/-! ### impl_ParsePuzzle: function 30 -/
mutual
def impl_ParsePuzzle.j2 : Nat → ByteArray → Int → List (S42) → Option (Int × (List (S42)) × Bool)
  | 0, _, _, _ => none
  | k + 1, x0, x413000, x413001 => (impl_isPuzzle.f k x413000 x413001).bind fun t437 => (if t437 = true then ((impl_puzzleText.f k x413000 x413001).bind fun t438 => (if t438.toList = x0.toList then (some (x413000, x413001, true)) else (some (0, ([] : List (S42)), false)))) else (some (0, ([] : List (S42)), false)))
def impl_ParsePuzzle.l0 : Nat → ByteArray → ByteArray → List ByteArray → Int → Int → Int → List (S42) → Option (Int × (List (S42)) × Bool)
  | 0, _, _, _, _, _, _, _ => none
  | k + 1, x0, x5, x34, x35, x36, x413000, x413001 => if x36 < x35 then (if 0 ≤ x36 then (if x36 < (x34.length : Int) then (if x5.toList = ([] : List UInt8) then (impl_ParsePuzzle.j2 k x0 x413000 x413001) else ((strings_Split.f (rdOf ByteArray.empty x34 x36) (⟨#[46]⟩ : ByteArray)).bind fun t420 => (impl_ParsePuzzle.l1 k x0 x5 (([] : List Int)) x34 x35 x36 t420 (t420.length : Int) 0 x413000 x413001))) else (none)) else (none)) else (impl_ParsePuzzle.j2 k x0 x413000 x413001)
def impl_ParsePuzzle.l1 : Nat → ByteArray → ByteArray → List Int → List ByteArray → Int → Int → List ByteArray → Int → Int → Int → List (S42) → Option (Int × (List (S42)) × Bool)
  | 0, _, _, _, _, _, _, _, _, _, _, _ => none
  | k + 1, x0, x5, x12, x34, x35, x36, x44, x45, x46, x413000, x413001 => if x46 < x45 then (if 0 ≤ x46 then (if x46 < (x44.length : Int) then ((strconv_Atoi.f (rdOf ByteArray.empty x44 x46)).bind fun bt424 => (if bt424.2.isNone = true then (if x12.length < 17592186044416 then (impl_ParsePuzzle.l1 k x0 x5 (x12 ++ [bt424.1]) x34 x35 x36 x44 x45 (wrap64 (x46 + 1)) x413000 x413001) else (none)) else (some (0, ([] : List (S42)), false)))) else (none)) else (none)) else (if (x12.length : Int) = 4 then (if 0 < (x12.length : Int) then (if 1 < (x12.length : Int) then (if 2 < (x12.length : Int) then (if 3 < (x12.length : Int) then (if x413001.length < 4398046511104 then (impl_ParsePuzzle.l0 k x0 x5 x34 x35 (wrap64 (x36 + 1)) x413000 (x413001 ++ [(⟨rd x12 0, rd x12 1, rd x12 2, rd x12 3⟩ : S42)])) else (none)) else (none)) else (none)) else (none)) else (none)) else (some (0, ([] : List (S42)), false)))
end
def impl_ParsePuzzle.f (k : Nat) (a0 : ByteArray) : Option (Int × (List (S42)) × Bool) := (strings_Cut.f a0 (⟨#[58]⟩ : ByteArray)).bind fun bt406 => ((strconv_Atoi.f bt406.1).bind fun bt409 => (if bt409.2.isNone = true then ((strings_Split.f bt406.2.1 (⟨#[44]⟩ : ByteArray)).bind fun t413 => (impl_ParsePuzzle.l0 k a0 bt406.2.1 t413 (t413.length : Int) 0 bt409.1 ([] : List (S42)))) else (some (0, ([] : List (S42)), false))))
theorem impl_ParsePuzzle.mono_l : ∀ k, (∀ y0 y1 y2, LeO (impl_ParsePuzzle.j2 k y0 y1 y2) (impl_ParsePuzzle.j2 (k + 1) y0 y1 y2)) ∧ (∀ y0 y1 y2 y3 y4 y5 y6, LeO (impl_ParsePuzzle.l0 k y0 y1 y2 y3 y4 y5 y6) (impl_ParsePuzzle.l0 (k + 1) y0 y1 y2 y3 y4 y5 y6)) ∧ (∀ y0 y1 y2 y3 y4 y5 y6 y7 y8 y9 y10, LeO (impl_ParsePuzzle.l1 k y0 y1 y2 y3 y4 y5 y6 y7 y8 y9 y10) (impl_ParsePuzzle.l1 (k + 1) y0 y1 y2 y3 y4 y5 y6 y7 y8 y9 y10))
  | 0 => ⟨fun _ _ _ r h => by simp [impl_ParsePuzzle.j2] at h, fun _ _ _ _ _ _ _ r h => by simp [impl_ParsePuzzle.l0] at h, fun _ _ _ _ _ _ _ _ _ _ _ r h => by simp [impl_ParsePuzzle.l1] at h⟩
  | k + 1 => by
    obtain ⟨ih0, ih1, ih2⟩ := impl_ParsePuzzle.mono_l k
    refine ⟨?q0, ?q1, ?q2⟩
    case' q0 => (intros; unfold impl_ParsePuzzle.j2)
    case' q1 => (intros; unfold impl_ParsePuzzle.l0)
    case' q2 => (intros; unfold impl_ParsePuzzle.l1)
    all_goals repeat' first
     | (with_reducible exact ih0 _ _ _)
     | (with_reducible exact ih1 _ _ _ _ _ _ _)
     | (with_reducible exact ih2 _ _ _ _ _ _ _ _ _ _ _)
     | (with_reducible exact impl_isPuzzle.mono _ _ _)
     | (with_reducible exact impl_puzzleText.mono _ _ _)
     | (with_reducible exact LeO.refl _)
     | (with_reducible exact LeO.none _)
     | (with_reducible refine LeO.ite ?_ ?_)
     | (with_reducible refine LeO.bind ?_ (fun _ => ?_))
     | exact ih0 _ _ _
     | exact ih1 _ _ _ _ _ _ _
     | exact ih2 _ _ _ _ _ _ _ _ _ _ _
     | exact impl_isPuzzle.mono _ _ _
     | exact impl_puzzleText.mono _ _ _
     | exact LeO.none _
     | refine LeO.ite ?_ ?_
     | refine LeO.bind ?_ (fun _ => ?_)
theorem impl_ParsePuzzle.mono : ∀ a0 k, LeO (impl_ParsePuzzle.f k a0) (impl_ParsePuzzle.f (k + 1) a0) := by
  intro a0 k
  obtain ⟨ih0, ih1, ih2⟩ := impl_ParsePuzzle.mono_l k
  unfold impl_ParsePuzzle.f
  repeat' first
      | (with_reducible exact ih0 _ _ _)
      | (with_reducible exact ih1 _ _ _ _ _ _ _)
      | (with_reducible exact ih2 _ _ _ _ _ _ _ _ _ _ _)
      | (with_reducible exact impl_isPuzzle.mono _ _ _)
      | (with_reducible exact impl_puzzleText.mono _ _ _)
      | (with_reducible exact LeO.refl _)
      | (with_reducible exact LeO.none _)
      | (with_reducible refine LeO.ite ?_ ?_)
      | (with_reducible refine LeO.bind ?_ (fun _ => ?_))
      | exact ih0 _ _ _
      | exact ih1 _ _ _ _ _ _ _
      | exact ih2 _ _ _ _ _ _ _ _ _ _ _
      | exact impl_isPuzzle.mono _ _ _
      | exact impl_puzzleText.mono _ _ _
      | exact LeO.none _
      | refine LeO.ite ?_ ?_
      | refine LeO.bind ?_ (fun _ => ?_)
def impl_ParsePuzzle.T21 : Bool × List (List Nat × List Nat) := (true, [([], []), ([0], [0]), ([], []), ([2], [2]), ([3], [3]), ([], []), ([5], [5]), ([6], [6]), ([], []), ([8], [8]), ([9], [9]), ([], []), ([11], [11]), ([12], [12]), ([4, 7, 10, 13], [4, 7, 10, 13]), ([14], [14]), ([1, 15], [1, 15]), ([0, 1, 2, 3, 4, 5, 6, 7, 8, 9, 10, 11, 12, 13, 14, 15, 16], []), ([17, 16, 16, 0, 1, 2, 3, 4, 5, 6, 7, 8, 9, 10, 11, 12, 13, 14, 15, 16], [16, 17])])
def impl_ParsePuzzle.B21 : List Nat := [0, 1, 0, 4, 12, 0, 32, 96, 0, 256, 768, 0, 2048, 6144, 16380, 32764, 65535, 131071, 262143]
theorem impl_ParsePuzzle.tab21 : rtab .any (opsOf Tryz.f30 21) = impl_ParsePuzzle.T21 := by kernel_rfl
theorem impl_ParsePuzzle.bits21 : waitsOk impl_ParsePuzzle.T21.2 impl_ParsePuzzle.B21 = true := by kernel_rfl
set_option maxHeartbeats 8000000 in
set_option maxRecDepth 100000 in
theorem impl_ParsePuzzle.calls (k : Nat) (a0 : ByteArray) (r1 : Int) (r2 : List (S42)) (r3 : Bool) (w : World) (hm : Dr.Tab w) (h : impl_ParsePuzzle.f k a0 = some (r1, r2, r3)) :
  Calls Tryz.prog 30 #[.string a0] w fun e w' => ∃ v1_ : Value, e = .returned (.tuple #[.agg #[.int .i64 r1, v1_], .bool r3]) ∧ Kd.R k42 42 w' w.heap.size (fun _ => True) v1_ r2 ∧ Below w.heap.size w w' := by
 have hu24 := Tryz.underlying24
 have hu42 := Tryz.underlying42
 have hu60 := Tryz.underlying60
 have HB := Aside0.mk (Below.refl w.heap.size w)
 have HMM := Aside0.mk hm
 clear hm
 unfold impl_ParsePuzzle.f at h
 have H := h
 clear h
 obtain ⟨⟨t406, t407, t408⟩, A2, H⟩ := ob H
 (try dsimp only at H)
 obtain ⟨⟨t409, t410⟩, A3, H⟩ := ob H
 (try dsimp only at H)
 rcases t410 with _ | q411
 ·rw [if_pos (show (none : Option Int).isNone = true by rfl)] at H
  try simp only [errW_none, errW_some]
  obtain ⟨t413, A4, H⟩ := ob H
  (try dsimp only at H)
  have HC5 := Aside0.mk H
  clear H
  go_enter Tryz.func30, Tryz.ntmps30
  go_upto_block 0 with (first | ((with_reducible refine gd 2 ?_); refine bx 2 24 #[.int .i64 0, .slice none 0 0] ?_; intro gb405 hg w6 hbox hb; have BK405 := hbox; have GW405 := gs hg; have GE405 := gs hg; replace HB := bs hb; clear hb hbox hg) | ((with_reducible refine gc 46 ?_); refine gl (some 19) Tryz.func46 #[.string a0, .string (⟨#[58]⟩ : ByteArray)] ?_; (with_reducible refine (strings_Cut.calls a0 (⟨#[58]⟩ : ByteArray) t406 t407 t408 _ ?_ A2.out).mono ?_); exact Dr.mm HMM; rintro e w7 ⟨rfl, hb⟩; refine ⟨_, rfl, ?_⟩; replace BK405 := nk BK405 hb; replace HB := bs hb; (try clear hb)) | ((with_reducible refine gc 47 ?_); refine gl (some 25) Tryz.func47 #[.string t406] ?_; (with_reducible refine (strconv_Atoi.calls t406 t409 none _ ?_ A3.out).mono ?_); exact Dr.mm HMM; rintro e w8 ⟨q_, rfl, hb⟩; refine ⟨_, rfl, ?_⟩; replace BK405 := nk BK405 hb; replace HB := bs hb; (try clear hb); (try simp only [Option.map_none, Option.map_some, errW_none, errW_some])) | ((with_reducible refine gd 9 ?_); refine bx 9 24 #[.int .i64 0, .slice none 0 0] ?_; intro gb412 hg w9 hbox hb; have BK412 := hbox; have GW412 := gs hg; have GE412 := gs hg; replace HB := bs hb; have ⟨NB405_412, NB412_405⟩ := nn BK405 hg; replace BK405 := nk BK405 hb; clear hb hbox hg; have hnb10 := nb NB412_405; obtain ⟨hcz11_0, hcz11_1, hfz11_0, hfz11_1⟩ := z2 BK412) | ((with_reducible refine gc 48 ?_); refine gl (some 34) Tryz.func48 #[.string t407, .string (⟨#[44]⟩ : ByteArray)] ?_; (with_reducible refine (strings_Split.calls t407 (⟨#[44]⟩ : ByteArray) t413 _ ?_ A4.out).mono ?_); exact Dr.mm HMM; rintro e w12 ⟨v414, rfl, ho0, hb⟩; refine ⟨_, rfl, ?_⟩; have HO415 := Aside0.mk (Kd.R_lower ho0 (below_size bw)); replace BK405 := nf BK405 hb; replace BK412 := Aside0.mk (blk_below (g := gb412) (o := .cells #[.int .i64 t409, .slice none 0 0] 24 (0, 0)) (pz BK412) hb); replace HB := bs hb; (try clear hb); (try clear ho0); obtain ⟨Ao13, co13, eo13⟩ := Kd.R_slice HO415.out; subst eo13))
  (try simp only [Act.put, List.setIfInBounds_toArray, List.set_cons_zero, List.set_cons_succ])
  go_cut [] (fun wc => ∃ (kq : Nat) (x406000_4 : Int) (x413001_4 : List (S42)) (u413001 : Value), Aside0 (impl_ParsePuzzle.j2 kq a0 t409 x413001_4 = some (r1, r2, r3)) ∧ Aside0 (kq ≤ k) ∧ Aside0 (Kd.R k42 42 wc w.heap.size (fun _ => True) u413001 x413001_4) ∧ Aside0 (wc.heap[gb405]? = some (.cells #[.int .i64 x406000_4, (.slice none 0 0)] 24 (0, 0))) ∧ Aside0 (wc.heap[gb412]? = some (.cells #[.int .i64 t409, u413001] 24 (0, 0))) ∧ Aside0 (Below w.heap.size w wc))
  case first =>
   have H := HC5.out
   clear HC5
   have H' := Aside0.mk H
   clear H
   go_wp2
   go_loopg [36] k (fun kq v36 w' => ∃ (x36_1 : Int) (x406000_1 : Int) (x413001_1 : List (S42)) (u413001 : Value), v36 = .int .i64 x36_1 ∧ Aside0 (impl_ParsePuzzle.l0 kq a0 t407 t413 (t413.length : Int) x36_1 t409 x413001_1 = some (r1, r2, r3)) ∧ Aside0 (kq ≤ k) ∧ Aside0 (Kd.R Kd.string 9 w' w.heap.size (fun _ => True) (.slice Ao13 t413.length co13) t413) ∧ Aside0 (Kd.R k42 42 w' w.heap.size (fun _ => True) u413001 x413001_1) ∧ Aside0 (w'.heap[gb405]? = some (.cells #[.int .i64 x406000_1, (.slice none 0 0)] 24 (0, 0))) ∧ Aside0 (w'.heap[gb412]? = some (.cells #[.int .i64 t409, u413001] 24 (0, 0))) ∧ Aside0 (Below w.heap.size w w'))
   case atStart => exact ⟨(0), (0), (([] : List (S42))), (.slice none 0 0), (rs), H', ⟨Nat.le_refl _⟩, ⟨pr HO415⟩, ⟨by first | exact Kd.R_nil _ _ _ _ _ | exact Kd.N_nil _ _ _ _ _ | exact Kd.V_nil _ _ _ _ _ | exact Kd.Q_nil _ _ _ _ _ | exact Kd.S_nil _ _ _ _ _⟩, ⟨pk BK405⟩, ⟨pk BK412⟩, ⟨bw⟩⟩
   case round =>
    clear H'
    try clear c1
    try clear p2
    try clear c3
    try clear c4
    try clear q4
    try clear c10
    try clear hcz11_0
    try clear hcz11_1
    try clear hfz11_0
    try clear hfz11_1
    try clear q411
    obtain ⟨x36_1, x406000_1, x413001_1, u413001, rfl, HA, HK1, HO_34, HO_413001, BK405, BK412, HB⟩ := hrel
    cases gk with
    | zero => exact absurd HA.out (by simp [impl_ParsePuzzle.l0])
    | succ k1 =>
     have H := HA.out
     clear HA
     simp only [impl_ParsePuzzle.l0] at H
     by_cases c14 : x36_1 < (t413.length : Int)
     ·rw [if_pos c14] at H
      have c14b0 := decide_eq_true c14
      clear c14
      (first | rw [c14b0] | rw [@decide_eq_true _ _ (of_decide_eq_true c14b1)] | rw [@decide_eq_false _ _ (of_decide_eq_false c14b1)] | (simp only [i64_w, i32_w]; rw [c14b0]) | skip)
      obtain ⟨c15, H⟩ := oi H
      have c15b0 := decide_eq_true c15
      clear c15
      obtain ⟨c16, H⟩ := oi H
      have c16b0 := decide_eq_true c16
      clear c16
      by_cases c17 : t407.toList = ([] : List UInt8)
      ·rw [if_pos c17] at H
       have c17b0 : (t407.toList == ([] : List UInt8)) = true := beq_iff_eq.mpr c17
       have c17b1 : (t407.toList != ([] : List UInt8)) = false := bne_eq_false_iff_eq.mpr c17
       clear c17
       have H' := Aside0.mk H
       clear H
       have p416 : 0 ≤ (x36_1 : Int) := of_decide_eq_true asm
       have q416 : x36_1 < (t413.length : Int) := of_decide_eq_true asm
       obtain ⟨ad416, e416, hx416_0⟩ := Kd.at_string (Kd.R_reads' HO_34.out).2.2 x36_1 p416 q416
       cases e416
       replace p416 := eq_true p416
       replace q416 := eq_true q416
       go_wp2
       go_meet
       case rel => exact ⟨_, (x406000_1), (x413001_1), (u413001), H', ⟨by have := HK1.out; first | omega | exact Nat.le_refl _⟩, ⟨pr HO_413001⟩, ⟨pk BK405⟩, ⟨pk BK412⟩, ⟨bw⟩⟩
      rw [if_neg c17] at H
      have c17b0 : (t407.toList == ([] : List UInt8)) = false := beq_eq_false_iff_ne.mpr c17
      have c17b1 : (t407.toList != ([] : List UInt8)) = true := bne_iff_ne.mpr c17
      obtain ⟨y417, hy417⟩ : ∃ y_ : List Int, y_ = (([] : List Int)) := ⟨_, rfl⟩
      replace H : ((strings_Split.f (rdOf ByteArray.empty t413 x36_1) (⟨#[46]⟩ : ByteArray)).bind fun t420 => (impl_ParsePuzzle.l1 k1 a0 t407 y417 t413 (t413.length : Int) x36_1 t420 (t420.length : Int) 0 t409 x413001_1)) = some (r1, r2, r3) := by first | (rw [hy417]; with_reducible exact H) | (have H2_ := (Option.bind_some _ _).symm.trans H; rw [hy417]; with_reducible exact H2_) | (have H2_ := (Option.bind_some _ _).symm.trans H; with_reducible exact H2_) | with_reducible exact H | (rw [hy417]; exact H) | exact H
      have Ny417 := Aside0.mk hy417
      clear hy417
      obtain ⟨t420, A18, H⟩ := ob H
      (try dsimp only at H)
      have H' := Aside0.mk H
      clear H
      have p416 : 0 ≤ (x36_1 : Int) := of_decide_eq_true asm
      have q416 : x36_1 < (t413.length : Int) := of_decide_eq_true asm
      obtain ⟨ad416, e416, hx416_0⟩ := Kd.at_string (Kd.R_reads' HO_34.out).2.2 x36_1 p416 q416
      cases e416
      replace p416 := eq_true p416
      replace q416 := eq_true q416
      go_wp2_with (first | ((with_reducible refine gd 42 ?_); refine Kd.R_lit (Kd.int .i64) _ 3 ?hg (N := 42) ?hd (xs := ([] : List Int)) (inner := []) (ok := fun _ => True) (okp := fun _ => True) ?hr ?hp (fun _ hk => hk) trivial (Below.refl _ _) (Nat.le_refl _) (by simp) ?_; (case hd => rfl); (case hg => rfl); (case hr => first | (go_simp; done) | (go_simp; rfl)); (case hp => exact (Reps.none _ _)); intro v418 w19 ho20 hb hg_ hnew_; clear hg_ hnew_; (first | rw [← Ny417.out] at ho20 | (simp only [Int.reduceToNat] at ho20; rw [← Ny417.out] at ho20)); replace HO_34 := rl HO_34 hb; replace HO_413001 := rl HO_413001 hb; have HO419 := Aside0.mk (Kd.R_lower ho20 (below_size bw)); replace BK405 := nk BK405 hb; replace BK412 := nk BK412 hb; replace HB := bs hb; clear hb ho20) | ((with_reducible refine gc 48 ?_); refine gl (some 44) Tryz.func48 #[.string (rdOf ByteArray.empty t413 x36_1), .string (⟨#[46]⟩ : ByteArray)] ?_; (with_reducible refine (strings_Split.calls (rdOf ByteArray.empty t413 x36_1) (⟨#[46]⟩ : ByteArray) t420 _ ?_ A18.out).mono ?_); exact Dr.mm HMM; rintro e w21 ⟨v421, rfl, ho0, hb⟩; refine ⟨_, rfl, ?_⟩; replace HO_413001 := rl HO_413001 hb; replace HO419 := rl HO419 hb; have HO422 := Aside0.mk (Kd.R_lower (Kd.R_new' ho0 (Kd.R_lt (pr HO_34))) (below_size bw)); replace HO_34 := re HO_34 ho0 hb; replace BK405 := nk BK405 hb; replace BK412 := nk BK412 hb; replace HB := bs hb; (try clear hb); (try clear ho0); obtain ⟨Ao22, co22, eo22⟩ := Kd.R_slice HO422.out; subst eo22))
      go_loopg [12, 46] k1 (fun kq v12 v46 w' => ∃ (x12_2 : List Int) (x46_2 : Int) (x406000_2 : Int), v46 = .int .i64 x46_2 ∧ Aside0 (impl_ParsePuzzle.l1 kq a0 t407 x12_2 t413 (t413.length : Int) x36_1 t420 (t420.length : Int) x46_2 t409 x413001_1 = some (r1, r2, r3)) ∧ Aside0 (kq ≤ k1) ∧ Aside0 (Kd.R (Kd.int .i64) 3 w' w.heap.size (fun _ => True) v12 x12_2) ∧ Aside0 (Kd.R Kd.string 9 w' w.heap.size (fun k_ => some k_ ≠ ((.slice Ao22 t420.length co22) : Value).ownBlock) (.slice (some ad416) t413.length co13) t413) ∧ Aside0 (Kd.R Kd.string 9 w' w.heap.size (fun k_ => some k_ ≠ ((.slice (some ad416) t413.length co13) : Value).ownBlock) (.slice Ao22 t420.length co22) t420) ∧ Aside0 (Kd.R k42 42 w' w.heap.size (fun _ => True) u413001 x413001_1) ∧ Aside0 (w'.heap[gb405]? = some (.cells #[.int .i64 x406000_2, (.slice none 0 0)] 24 (0, 0))) ∧ Aside0 (w'.heap[gb412]? = some (.cells #[.int .i64 t409, u413001] 24 (0, 0))) ∧ Aside0 (Below w.heap.size w w'))
      case atStart => exact ⟨(y417), (0), (x406000_1), (rs), H', ⟨Nat.le_refl _⟩, ⟨pr HO419⟩, ⟨by (with_reducible repeat (first | apply Kd.R_alloc | apply Kd.R_drewN | apply Kd.R_drew)); exact Kd.R_mono HO_34.out (fun _ hk => hk.2)⟩, ⟨by (with_reducible repeat (first | apply Kd.R_alloc | apply Kd.R_drewN | apply Kd.R_drew)); exact Kd.R_mono HO422.out (fun _ hk => hk.2)⟩, ⟨pr HO_413001⟩, ⟨pk BK405⟩, ⟨pk BK412⟩, ⟨bw⟩⟩
      case round =>
       clear H'
       try clear c1
       try clear p2
       try clear c3
       try clear c4
       try clear p4
       try clear q4
       try clear hx4
       try clear c10
       try clear c14
       try clear c14b0
       try clear c15
       try clear c15b0
       try clear c16
       try clear c16b0
       try clear c17
       try clear c17b0
       try clear c17b1
       try clear hcz11_0
       try clear hcz11_1
       try clear hfz11_0
       try clear hfz11_1
       try clear hx416_0
       try clear p2
       try clear p416
       try clear q4
       try clear q411
       try clear q416
       obtain ⟨x12_2, x46_2, x406000_2, rfl, HA, HK2, HO_12, HO_34, HO_44, HO_413001, BK405, BK412, HB⟩ := hrel
       cases gk with
       | zero => exact absurd HA.out (by simp [impl_ParsePuzzle.l1])
       | succ k2 =>
        have H := HA.out
        clear HA
        simp only [impl_ParsePuzzle.l1] at H
        by_cases c23 : x46_2 < (t420.length : Int)
        ·rw [if_pos c23] at H
         have c23b0 := decide_eq_true c23
         clear c23
         obtain ⟨c24, H⟩ := oi H
         have c24b0 := decide_eq_true c24
         clear c24
         obtain ⟨c25, H⟩ := oi H
         have c25b0 := decide_eq_true c25
         clear c25
         obtain ⟨⟨t424, t425⟩, A26, H⟩ := ob H
         (try dsimp only at H)
         rcases t425 with _ | q426
         ·rw [if_pos (show (none : Option Int).isNone = true by rfl)] at H
          try simp only [errW_none, errW_some]
          obtain ⟨c27, H⟩ := oi H
          have LMc27 := Aside0.mk c27
          clear c27
          obtain ⟨y427, hy427⟩ : ∃ y_ : List Int, y_ = (x12_2 ++ [t424]) := ⟨_, rfl⟩
          replace H : (impl_ParsePuzzle.l1 k2 a0 t407 y427 t413 (t413.length : Int) x36_1 t420 (t420.length : Int) (wrap64 (x46_2 + 1)) t409 x413001_1) = some (r1, r2, r3) := by first | (rw [hy427]; with_reducible exact H) | (have H2_ := (Option.bind_some _ _).symm.trans H; rw [hy427]; with_reducible exact H2_) | (have H2_ := (Option.bind_some _ _).symm.trans H; with_reducible exact H2_) | with_reducible exact H | (rw [hy427]; exact H) | exact H
          have Ny427 := Aside0.mk hy427
          clear hy427
          have H' := Aside0.mk H
          clear H
          have p423 : 0 ≤ (x46_2 : Int) := of_decide_eq_true asm
          have q423 : x46_2 < (t420.length : Int) := of_decide_eq_true asm
          obtain ⟨ad423, e423, hx423_0⟩ := Kd.at_string (Kd.R_reads' HO_44.out).2.2 x46_2 p423 q423
          cases e423
          replace p423 := eq_true p423
          replace q423 := eq_true q423
          go_wp2_with (first | ((with_reducible refine gc 47 ?_); refine gl (some 52) Tryz.func47 #[.string (rdOf ByteArray.empty t420 x46_2)] ?_; (with_reducible refine (strconv_Atoi.calls (rdOf ByteArray.empty t420 x46_2) t424 none _ ?_ A26.out).mono ?_); exact Dr.mm HMM; rintro e w28 ⟨q_, rfl, hb⟩; refine ⟨_, rfl, ?_⟩; replace HO_12 := rl HO_12 hb; replace HO_34 := rl HO_34 hb; replace HO_44 := rl HO_44 hb; replace HO_413001 := rl HO_413001 hb; replace BK405 := nk BK405 hb; replace BK412 := nk BK412 hb; replace HB := bs hb; (try clear hb); (try simp only [Option.map_none, Option.map_some, errW_none, errW_some])) | ((with_reducible refine gate_builtin (b := .append) (xs := #[.tmp 58, .tmp 60]) rfl ?_); at_builtin; refine Kd.R_append (Kd.int .i64) (w0 := w) w.heap.size rfl (.tmp 58) (.tmp 60) 34 3 (.int .i64 0) 8 rfl Tryz.underlying34 info3 rfl (by decide) (by omega) u12 x12_2 t424 [.int .i64 t424] (fun _ => True) (fun _ => False) rfl rfl ?aP (fun _ hk => hk.elim) ?aF ?aO ?aB ?aS ?aL ?_; (case aP => exact rfl); (case aB => exact bw); (case aF => exact (fun _ _ => trivial)); (case aO => exact (pr HO_12)); (case aS => exact (below_size bw)); (case aL => have := LMc27.out; omega); intro v428 w29 ho hb hg hat; rw [← Ny427.out] at ho; have n0_ := Aside0.mk (Kd.R_over' (pr HO_34) (Kd.R_typed (pr HO_12)) (by decide) hg); have n1_ := Aside0.mk (Kd.R_over' (pr HO_44) (Kd.R_typed (pr HO_12)) (by decide) hg); have n2_ := Aside0.mk (Kd.R_over' (pr HO_413001) (Kd.R_typed (pr HO_12)) (by decide) hg); have n3_ := Aside0.mk (blk_grown (pk BK405) hg (Kd.R_ne HO_12.out BK405.out (by decide))); have n4_ := Aside0.mk (blk_grown (pk BK412) hg (Kd.R_ne HO_12.out BK412.out (by decide))); have n5_ := Aside0.mk (hb); have n6_ := Aside0.mk (ho); clear HO_34; clear HO_44; clear HO_413001; clear BK405; clear BK412; clear HB; clear HO_12; have HO_34 := n0_; have HO_44 := n1_; have HO_413001 := n2_; have BK405 := n3_; have BK412 := n4_; have HB := n5_; have HO429 := n6_; clear n0_ n1_ n2_ n3_ n4_ n5_ n6_; clear ho hb hg hat))
          go_roundg k2
          case measure => have := HK1.out; have := HK2.out; omega
          case rel => exact ⟨(y427), (wrap64 (x46_2 + 1)), (x406000_2), (rs), H', ⟨by have := HK1.out; have := HK2.out; omega⟩, ⟨pr HO429⟩, ⟨pr HO_34⟩, ⟨pr HO_44⟩, ⟨pr HO_413001⟩, ⟨pk BK405⟩, ⟨pk BK412⟩, ⟨bw⟩⟩
         rw [if_neg (show ¬ (some q426).isNone = true by simp)] at H
         try simp only [errW_none, errW_some]
         simp only [Option.some.injEq, Prod.mk.injEq] at H
         obtain ⟨rfl, rfl, rfl⟩ := H
         have p423 : 0 ≤ (x46_2 : Int) := of_decide_eq_true asm
         have q423 : x46_2 < (t420.length : Int) := of_decide_eq_true asm
         obtain ⟨ad423, e423, hx423_0⟩ := Kd.at_string (Kd.R_reads' HO_44.out).2.2 x46_2 p423 q423
         cases e423
         replace p423 := eq_true p423
         replace q423 := eq_true q423
         go_wp2_with (first | ((with_reducible refine gc 47 ?_); refine gl (some 52) Tryz.func47 #[.string (rdOf ByteArray.empty t420 x46_2)] ?_; (with_reducible refine (strconv_Atoi.calls (rdOf ByteArray.empty t420 x46_2) t424 (some q426) _ ?_ A26.out).mono ?_); exact Dr.mm HMM; rintro e w30 ⟨q_, rfl, hb⟩; refine ⟨_, rfl, ?_⟩; replace HO_12 := rl HO_12 hb; replace HO_34 := rl HO_34 hb; replace HO_44 := rl HO_44 hb; replace HO_413001 := rl HO_413001 hb; replace BK405 := nk BK405 hb; replace HB := bs hb; (try clear hb); (try simp only [Option.map_none, Option.map_some, errW_none, errW_some]); obtain ⟨hcz31_0, hcz31_1, hfz31_0, hfz31_1⟩ := z2 BK405))
         refine bodyPost_ret (results_ct rfl _ _ gb405 24 #[.int .i64 0, .slice none 0 0] (0, 0) _ rfl (pz BK405) Tryz.underlying24 rfl (by kernel_rfl)) rfl ?_
         exact ⟨_, rs, by first | exact Kd.R_nil _ _ _ _ _ | exact Kd.N_nil _ _ _ _ _ | exact Kd.V_nil _ _ _ _ _ | exact Kd.Q_nil _ _ _ _ _ | exact Kd.S_nil _ _ _ _ _, bw⟩
        rw [if_neg c23] at H
        have c23b0 := decide_eq_false c23
        clear c23
        by_cases c32 : (x12_2.length : Int) = 4
        ·rw [if_pos c32] at H
         have c32b0 : ((x12_2.length : Int) == 4) = true := beq_iff_eq.mpr c32
         have c32b1 : ((x12_2.length : Int) != 4) = false := bne_eq_false_iff_eq.mpr c32
         clear c32
         obtain ⟨c33, H⟩ := oi H
         have c33b0 := decide_eq_true c33
         have c33b1 : decide (0 < x12_2.length) = true := decide_eq_true (by omega)
         clear c33
         obtain ⟨c34, H⟩ := oi H
         have c34b0 := decide_eq_true c34
         have c34b1 : decide (1 < x12_2.length) = true := decide_eq_true (by omega)
         clear c34
         obtain ⟨c35, H⟩ := oi H
         have c35b0 := decide_eq_true c35
         have c35b1 : decide (2 < x12_2.length) = true := decide_eq_true (by omega)
         clear c35
         obtain ⟨c36, H⟩ := oi H
         have c36b0 := decide_eq_true c36
         have c36b1 : decide (3 < x12_2.length) = true := decide_eq_true (by omega)
         clear c36
         obtain ⟨c37, H⟩ := oi H
         have LMc37 := Aside0.mk c37
         clear c37
         obtain ⟨y434, hy434⟩ : ∃ y_ : List (S42), y_ = (x413001_1 ++ [(⟨rd x12_2 0, rd x12_2 1, rd x12_2 2, rd x12_2 3⟩ : S42)]) := ⟨_, rfl⟩
         replace H : (impl_ParsePuzzle.l0 k2 a0 t407 t413 (t413.length : Int) (wrap64 (x36_1 + 1)) t409 y434) = some (r1, r2, r3) := by first | (rw [hy434]; with_reducible exact H) | (have H2_ := (Option.bind_some _ _).symm.trans H; rw [hy434]; with_reducible exact H2_) | (have H2_ := (Option.bind_some _ _).symm.trans H; with_reducible exact H2_) | with_reducible exact H | (rw [hy434]; exact H) | exact H
         have Ny434 := Aside0.mk hy434
         clear hy434
         have H' := Aside0.mk H
         clear H
         obtain ⟨Ao38, co38, eo38⟩ := Kd.R_slice HO_12.out
         subst eo38
         try go_wp2
         replace HO_12 := Aside0.mk (Kd.R_drew HO_12.out)
         replace HO_34 := Aside0.mk (Kd.R_drew HO_34.out)
         replace HO_44 := Aside0.mk (Kd.R_drew HO_44.out)
         replace HO_413001 := Aside0.mk (Kd.R_drew HO_413001.out)
         replace BK405 := Aside0.mk (blk_drew BK405.out)
         replace BK412 := Aside0.mk (blk_drew BK412.out)
         replace HB := Aside0.mk (below_drew1 HB.out)
         have p430 : 0 ≤ (0 : Int) := (by omega)
         have q430 : 0 < (x12_2.length : Int) := of_decide_eq_true asm
         obtain ⟨ad430, e430, hx430_0⟩ := Kd.at_int (Kd.R_reads' HO_12.out).2.2 0 p430 q430
         cases e430
         have qi430 : (0 < x12_2.length) = True := eq_true (by omega)
         (try rw [show ((0 : Int)).toNat = 0 from rfl] at hx430_0)
         (try rw [Addr.add_zero'] at hx430_0)
         replace p430 := eq_true p430
         replace q430 := eq_true q430
         have p431 : 0 ≤ (1 : Int) := (by omega)
         have q431 : 1 < (x12_2.length : Int) := of_decide_eq_true asm
         obtain ⟨ad431, e431, hx431_0⟩ := Kd.at_int (Kd.R_reads' HO_12.out).2.2 1 p431 q431
         obtain rfl : ad430 = ad431 := (by injection e431)
         (try simp only [show (1 : Int).toNat = 1 from rfl, Nat.reduceMul, Nat.reduceEqDiff, Go.Addr.add, ↓reduceIte] at hx431_0)
         have qi431 : (1 < x12_2.length) = True := eq_true (by omega)
         (try rw [show ((1 : Int)).toNat = 1 from rfl] at hx431_0)
         replace p431 := eq_true p431
         replace q431 := eq_true q431
         have p432 : 0 ≤ (2 : Int) := (by omega)
         have q432 : 2 < (x12_2.length : Int) := of_decide_eq_true asm
         obtain ⟨ad432, e432, hx432_0⟩ := Kd.at_int (Kd.R_reads' HO_12.out).2.2 2 p432 q432
         obtain rfl : ad430 = ad432 := (by injection e432)
         (try simp only [show (2 : Int).toNat = 2 from rfl, Nat.reduceMul, Nat.reduceEqDiff, Go.Addr.add, ↓reduceIte] at hx432_0)
         have qi432 : (2 < x12_2.length) = True := eq_true (by omega)
         (try rw [show ((2 : Int)).toNat = 2 from rfl] at hx432_0)
         replace p432 := eq_true p432
         replace q432 := eq_true q432
         have p433 : 0 ≤ (3 : Int) := (by omega)
         have q433 : 3 < (x12_2.length : Int) := of_decide_eq_true asm
         obtain ⟨ad433, e433, hx433_0⟩ := Kd.at_int (Kd.R_reads' HO_12.out).2.2 3 p433 q433
         obtain rfl : ad430 = ad433 := (by injection e433)
         (try simp only [show (3 : Int).toNat = 3 from rfl, Nat.reduceMul, Nat.reduceEqDiff, Go.Addr.add, ↓reduceIte] at hx433_0)
         have qi433 : (3 < x12_2.length) = True := eq_true (by omega)
         (try rw [show ((3 : Int)).toNat = 3 from rfl] at hx433_0)
         replace p433 := eq_true p433
         replace q433 := eq_true q433
         refine start_ (n := 19) (S := fun w' => w'.cell? ⟨gb412, 0, none⟩ = some (.int .i64 t409) ∧ w'.cell? ⟨gb412, 1, none⟩ = some (u413001) ∧ w'.cell? ad430 = some (.int .i64 (rd x12_2 0)) ∧ w'.cell? ⟨ad430.block, ad430.off + 1, none⟩ = some (.int .i64 (rd x12_2 1)) ∧ w'.cell? ⟨ad430.block, ad430.off + 2, none⟩ = some (.int .i64 (rd x12_2 2)) ∧ w'.cell? ⟨ad430.block, ad430.off + 3, none⟩ = some (.int .i64 (rd x12_2 3))) (ds := [16, 18]) (tb 19 0) (by kernel_rfl) rfl rfl ⟨ec BK412, ec BK412, hx430_0, hx431_0, hx432_0, hx433_0⟩ (fun hHeld => ?_); refine with_tabW impl_ParsePuzzle.tab21 impl_ParsePuzzle.bits21 (fun HT_ HW_ => ?_)
         generalize wr.drew = w39 at HO_12 HO_34 HO_44 HO_413001 BK405 BK412 HB hx430_0 hx431_0 hx432_0 hx433_0 hHeld ⊢
         refine pu 0 (some 67) (tb 19 1) ?_
         refine pu 2 (some 69) (tb 19 5) ?_
         refine pu 3 (some 70) (tb 19 13) ?_
         refine pu 5 (some 72) (tb 19 45) ?_
         refine pu 6 (some 73) (tb 19 109) ?_
         refine pu 8 (some 75) (tb 19 365) ?_
         refine pu 9 (some 76) (tb 19 877) ?_
         refine pu 11 (some 78) (tb 19 2925) ?_
         refine pu 12 (some 79) (tb 19 7021) ?_
         refine tk 1 (some 68) (tb 19 7023) hHeld ?_
         refine tk 4 (some 71) (tb 19 7039) hHeld ?_
         refine tk 7 (some 74) (tb 19 7167) hHeld ?_
         refine tk 10 (some 77) (tb 19 8191) hHeld ?_
         refine tk 13 (some 80) (tb 19 16383) hHeld ?_
         refine pu 14 (some 81) (tb 19 32767) ?_
         refine one_ (i := 15) (N := some 82) (tb 19 65535) rfl rfl (one_of HT_.out (by kernel_rfl)) (by decide) (fun K hK => ?_)
         refine value_ (w1 := ?_) (v := ?_) (by rfl) rfl ?_ ?_
         rotate_left 2
         ·go_simp
          constructor
          ·rfl
          rfl
         refine hK.out _ _ ⟨(blk_cell (blk_alloc BK412.out _) 0).trans rfl, (blk_cell (blk_alloc BK412.out _) 1).trans rfl, (World.cell?_alloc_lt _ _ _ (World.block_lt_of_cell? _ _ (hHeld.2.2.1))).trans (hHeld.2.2.1), (World.cell?_alloc_lt _ _ _ (World.block_lt_of_cell? _ _ (hHeld.2.2.2.1))).trans (hHeld.2.2.2.1), (World.cell?_alloc_lt _ _ _ (World.block_lt_of_cell? _ _ (hHeld.2.2.2.2.1))).trans (hHeld.2.2.2.2.1), (World.cell?_alloc_lt _ _ _ (World.block_lt_of_cell? _ _ (hHeld.2.2.2.2.2))).trans (hHeld.2.2.2.2.2)⟩ (fun hHeld => ?_)
         clear hK K
         refine nm (some 82) ?_
         refine last_ (i := 16) (N := some 83) (tb 19 131071) rfl rfl (one_of HT_.out (by kernel_rfl)) (by decide) (fun K hK => ?_)
         refine Kd.R_append_step k42 (w0 := w) w.heap.size (by rfl) (.tmp 68) (.tmp 82) 22 42 (.agg #[(.int .i64 0), (.int .i64 0), (.int .i64 0), (.int .i64 0)]) 32 rfl Tryz.underlying22 info42 rfl (by decide) (by omega) u413001 x413001_1 (⟨rd x12_2 0, rd x12_2 1, rd x12_2 2, rd x12_2 3⟩ : S42) [.int .i64 (rd x12_2 0), .int .i64 (rd x12_2 1), .int .i64 (rd x12_2 2), .int .i64 (rd x12_2 3)] (fun _ => True) (fun _ => False) rfl rfl ?aP (fun _ hk => hk.elim) ?aF ?aO ?aB ?aS ?aL ?_
         (case aP => exact k42_mkM _ _ _ (⟨rd x12_2 0, rd x12_2 1, rd x12_2 2, rd x12_2 3⟩ : S42))
         (case aB => exact bw)
         (case aF => exact (fun _ _ => trivial))
         (case aO => exact (pr HO_413001))
         (case aS => exact (below_size bw))
         (case aL => have := LMc37.out; omega)
         intro v435 w40 ho hb hg hat
         rw [← Ny434.out] at ho
         have n0_ := Aside0.mk (Kd.R_over' (pr HO_12) (Kd.R_typed (pr HO_413001)) (by decide) hg)
         have n1_ := Aside0.mk (Kd.R_over' (pr HO_34) (Kd.R_typed (pr HO_413001)) (by decide) hg)
         have n2_ := Aside0.mk (Kd.R_over' (pr HO_44) (Kd.R_typed (pr HO_413001)) (by decide) hg)
         have n3_ := Aside0.mk (blk_grown (pk BK405) hg (Kd.R_ne HO_413001.out BK405.out (by decide)))
         have n4_ := Aside0.mk (blk_grown (pk BK412) hg (Kd.R_ne HO_413001.out BK412.out (by decide)))
         have n5_ := Aside0.mk (hb)
         have n6_ := Aside0.mk (ho)
         clear HO_12
         clear HO_34
         clear HO_44
         clear BK405
         clear BK412
         clear HB
         clear HO_413001
         have HO_12 := n0_
         have HO_34 := n1_
         have HO_44 := n2_
         have BK405 := n3_
         have BK412 := n4_
         have HB := n5_
         have HO436 := n6_
         clear n0_ n1_ n2_ n3_ n4_ n5_ n6_
         clear ho hb hg hat
         obtain ⟨Ao41, co41, eo41⟩ := Kd.R_slice HO436.out
         (first | subst eo41 | (injection eo41 with f1_ f2_ f3_; have f4_ := f1_.symm; have f5_ := f3_.symm; clear f1_ f2_ f3_; subst f4_; subst f5_))
         refine hK.out _ _ ?_
         clear hK K
         refine nm (some 83) ?_
         refine pu 17 (some 84) (tb 19 262143) ?_
         refine last_ (i := 18) (N := none) (tb 19 524287) rfl rfl (one_of HT_.out (by kernel_rfl)) (by decide) (fun K hK => ?_)
         have hs42 : w40.cell? ⟨gb412, 1, none⟩ = some (u413001) := ec BK412
         have hfs42 := blk_frozen BK412.out 1
         have hns42_0 := NB405_412.out
         have hms42_0 := NB412_405.out
         refine skip_ (w1 := ?_) (by rfl) rfl ?_ ?_
         rotate_left
         ·go_simp
          rfl
         refine hK.out _ _ ?_
         clear hK K
         refine done_ (done_of HT_.out (by kernel_rfl)) ?_
         try go_wp2
         go_roundg k2
         case measure => have := HK1.out; have := HK2.out; omega
         case rel => exact ⟨(wrap64 (x36_1 + 1)), (x406000_2), (y434), (.slice Ao41 y434.length co41), (rs), H', ⟨by have := HK1.out; have := HK2.out; omega⟩, ⟨by (with_reducible repeat (first | apply Kd.R_alloc | apply Kd.R_drewN | apply Kd.R_drew)); exact Kd.R_mono (Kd.R_far (p := ⟨gb412, 1, none⟩) (Kd.R_types HO_34.out BK412.out (by decide)) (fun _ hk => hk.2) (.slice Ao41 y434.length co41)) (fun _ hk => trivial)⟩, ⟨by (with_reducible repeat (first | apply Kd.R_alloc | apply Kd.R_drewN | apply Kd.R_drew)); exact Kd.R_mono (Kd.R_far (p := ⟨gb412, 1, none⟩) (Kd.R_types HO436.out BK412.out (by decide)) (fun _ hk => hk.2) (.slice Ao41 y434.length co41)) (fun _ hk => trivial)⟩, ⟨pf BK405⟩, ⟨pz BK412⟩, ⟨bw⟩⟩
        rw [if_neg c32] at H
        have c32b0 : ((x12_2.length : Int) == 4) = false := beq_eq_false_iff_ne.mpr c32
        have c32b1 : ((x12_2.length : Int) != 4) = true := bne_iff_ne.mpr c32
        simp only [Option.some.injEq, Prod.mk.injEq] at H
        obtain ⟨rfl, rfl, rfl⟩ := H
        obtain ⟨Ao43, co43, eo43⟩ := Kd.R_slice HO_12.out
        subst eo43
        have hcz44_0 : wr.cell? ⟨gb405, 0, none⟩ = some (.int .i64 x406000_2) := ec BK405
        have hcz44_1 : wr.cell? ⟨gb405, 1, none⟩ = some (.slice none 0 0) := ec BK405
        have hfz44_0 := blk_frozen BK405.out 0
        have hfz44_1 := blk_frozen BK405.out 1
        go_wp2
        refine bodyPost_ret (results_ct rfl _ _ gb405 24 #[.int .i64 0, .slice none 0 0] (0, 0) _ rfl (pz BK405) Tryz.underlying24 rfl (by kernel_rfl)) rfl ?_
        exact ⟨_, rs, by first | exact Kd.R_nil _ _ _ _ _ | exact Kd.N_nil _ _ _ _ _ | exact Kd.V_nil _ _ _ _ _ | exact Kd.Q_nil _ _ _ _ _ | exact Kd.S_nil _ _ _ _ _, bw⟩
     rw [if_neg c14] at H
     have c14b0 := decide_eq_false c14
     clear c14
     (first | rw [c14b0] | rw [@decide_eq_true _ _ (of_decide_eq_true c14b1)] | rw [@decide_eq_false _ _ (of_decide_eq_false c14b1)] | (simp only [i64_w, i32_w]; rw [c14b0]) | skip)
     have H' := Aside0.mk H
     clear H
     go_wp2
     go_meet
     case rel => exact ⟨_, (x406000_1), (x413001_1), (u413001), H', ⟨by have := HK1.out; first | omega | exact Nat.le_refl _⟩, ⟨pr HO_413001⟩, ⟨pk BK405⟩, ⟨pk BK412⟩, ⟨bw⟩⟩
  case rest =>
   clear HC5
   try clear c1
   try clear c2
   try clear p2
   try clear c3
   try clear c4
   try clear p4
   try clear q4
   try clear hx4
   try clear qi4
   try clear p6
   try clear c10
   try clear c14
   try clear c14b0
   try clear c15
   try clear c15b0
   try clear c16
   try clear c16b0
   try clear c17
   try clear c17b0
   try clear c17b1
   try clear c23
   try clear c23b0
   try clear c24
   try clear c24b0
   try clear c25
   try clear c25b0
   try clear c27
   try clear c30
   try clear c32
   try clear c32b0
   try clear c32b1
   try clear c33
   try clear c33b0
   try clear c33b1
   try clear c34
   try clear c34b0
   try clear c34b1
   try clear c35
   try clear c35b0
   try clear c35b1
   try clear c36
   try clear c36b0
   try clear c36b1
   try clear c37
   try clear p41
   try clear q41
   try clear hx41
   try clear p42
   try clear q42
   try clear hx42
   try clear p43
   try clear q43
   try clear hx43
   try clear qi43
   try clear hcz11_0
   try clear hcz11_1
   try clear hcz31_0
   try clear hcz31_1
   try clear hcz44_0
   try clear hcz44_1
   try clear hfz11_0
   try clear hfz11_1
   try clear hfz31_0
   try clear hfz31_1
   try clear hfz44_0
   try clear hfz44_1
   try clear hx416_0
   try clear hx423_0
   try clear hx430_0
   try clear hx431_0
   try clear hx432_0
   try clear hx433_0
   try clear p2
   try clear p4
   try clear p416
   try clear p423
   try clear p430
   try clear p431
   try clear p432
   try clear p433
   try clear q4
   try clear q411
   try clear q416
   try clear q423
   try clear q426
   try clear q430
   try clear q431
   try clear q432
   try clear q433
   obtain ⟨kq, x406000_4, x413001_4, u413001, HA, HJ4, HO_413001, BK405, BK412, HB⟩ := hcut
   cases kq with
   | zero => exact absurd HA.out (by simp [impl_ParsePuzzle.j2])
   | succ kj4 =>
    have H := HA.out
    clear HA
    simp only [impl_ParsePuzzle.j2] at H
    obtain ⟨t437, A45, H⟩ := ob H
    (try dsimp only at H)
    by_cases c46 : t437 = true
    ·subst c46
     rw [if_pos rfl] at H
     obtain ⟨t438, A47, H⟩ := ob H
     (try dsimp only at H)
     by_cases c48 : t438.toList = a0.toList
     ·rw [if_pos c48] at H
      have c48b0 : (t438.toList == a0.toList) = true := beq_iff_eq.mpr c48
      have c48b1 : (t438.toList != a0.toList) = false := bne_eq_false_iff_eq.mpr c48
      clear c48
      simp only [Option.some.injEq, Prod.mk.injEq] at H
      obtain ⟨rfl, rfl, rfl⟩ := H
      have hnb49 := nb NB412_405
      have hcz50_0 : wc.cell? ⟨gb412, 0, none⟩ = some (.int .i64 t409) := ec BK412
      have hcz50_1 : wc.cell? ⟨gb412, 1, none⟩ = some (u413001) := ec BK412
      have hfz50_0 := blk_frozen BK412.out 0
      have hfz50_1 := blk_frozen BK412.out 1
      obtain ⟨Ao51, co51, eo51⟩ := Kd.R_slice HO_413001.out
      subst eo51
      go_wp2_with (first | ((with_reducible refine gc 33 ?_); refine gl (some 87) Tryz.func33 #[.agg #[.int .i64 t409, .slice Ao51 x413001_4.length co51]] ?_; (with_reducible refine (impl_isPuzzle.calls kj4 t409 _ _ x413001_4 true _ ?_ ?_ A45.out).mono ?_); exact rr HO_413001; exact rn HO_413001; rintro e w52 ⟨rfl, hb⟩; refine ⟨_, rfl, ?_⟩; replace HO_413001 := rl HO_413001 hb; replace BK405 := nk BK405 hb; replace BK412 := nk BK412 hb; replace HB := bs hb; (try clear hb); have hz53 := z2 BK412) | (go_at_call 40; (with_reducible refine (impl_puzzleText.calls kj4 t409 _ _ x413001_4 t438 _ ?_ ?_ A47.out).mono ?_); exact rr HO_413001; exact rn HO_413001; rintro e w54 ⟨rfl, hb⟩; replace HO_413001 := rl HO_413001 hb; replace BK405 := nk BK405 hb; replace BK412 := nk BK412 hb; replace HB := bs hb; (try clear hb); have hz55 := z2 BK412; have hz56 := z2 BK405))
      refine bodyPost_ret (results_ct rfl _ _ gb405 24 #[.int .i64 t409, .slice Ao51 x413001_4.length co51] (0, 0) _ rfl (pz BK405) Tryz.underlying24 rfl (by kernel_rfl)) rfl ?_
      exact ⟨_, rs, by (with_reducible repeat (first | apply Kd.R_alloc | apply Kd.R_drewN | apply Kd.R_drew)); exact Kd.R_mono (Kd.R_far (p := ⟨gb405, 1, none⟩) (Kd.R_far (p := ⟨gb405, 0, none⟩) (Kd.R_types HO_413001.out BK405.out (by decide)) (fun _ hk => hk.2) (.int .i64 t409)) (fun _ hk => hk.2) (.slice Ao51 x413001_4.length co51)) (fun _ hk => trivial), bw⟩
     rw [if_neg c48] at H
     have c48b0 : (t438.toList == a0.toList) = false := beq_eq_false_iff_ne.mpr c48
     have c48b1 : (t438.toList != a0.toList) = true := bne_iff_ne.mpr c48
     simp only [Option.some.injEq, Prod.mk.injEq] at H
     obtain ⟨rfl, rfl, rfl⟩ := H
     have hnb57 := nb NB412_405
     have hcz58_0 : wc.cell? ⟨gb412, 0, none⟩ = some (.int .i64 t409) := ec BK412
     have hcz58_1 : wc.cell? ⟨gb412, 1, none⟩ = some (u413001) := ec BK412
     have hfz58_0 := blk_frozen BK412.out 0
     have hfz58_1 := blk_frozen BK412.out 1
     obtain ⟨Ao59, co59, eo59⟩ := Kd.R_slice HO_413001.out
     subst eo59
     go_wp2_with (first | ((with_reducible refine gc 33 ?_); refine gl (some 87) Tryz.func33 #[.agg #[.int .i64 t409, .slice Ao59 x413001_4.length co59]] ?_; (with_reducible refine (impl_isPuzzle.calls kj4 t409 _ _ x413001_4 true _ ?_ ?_ A45.out).mono ?_); exact rr HO_413001; exact rn HO_413001; rintro e w60 ⟨rfl, hb⟩; refine ⟨_, rfl, ?_⟩; replace HO_413001 := rl HO_413001 hb; replace BK405 := nk BK405 hb; replace BK412 := nk BK412 hb; replace HB := bs hb; (try clear hb); have hz61 := z2 BK412) | (go_at_call 40; (with_reducible refine (impl_puzzleText.calls kj4 t409 _ _ x413001_4 t438 _ ?_ ?_ A47.out).mono ?_); exact rr HO_413001; exact rn HO_413001; rintro e w62 ⟨rfl, hb⟩; replace HO_413001 := rl HO_413001 hb; replace BK405 := nk BK405 hb; replace HB := bs hb; (try clear hb); have hz63 := z2 BK405))
     refine bodyPost_ret (results_ct rfl _ _ gb405 24 #[.int .i64 0, .slice none 0 0] (0, 0) _ rfl (pz BK405) Tryz.underlying24 rfl (by kernel_rfl)) rfl ?_
     exact ⟨_, rs, by first | exact Kd.R_nil _ _ _ _ _ | exact Kd.N_nil _ _ _ _ _ | exact Kd.V_nil _ _ _ _ _ | exact Kd.Q_nil _ _ _ _ _ | exact Kd.S_nil _ _ _ _ _, bw⟩
    replace c46 := Bool.eq_false_iff.mpr c46
    subst c46
    rw [if_neg (show ¬ (false = true) by decide)] at H
    simp only [Option.some.injEq, Prod.mk.injEq] at H
    obtain ⟨rfl, rfl, rfl⟩ := H
    have hnb64 := nb NB412_405
    have hcz65_0 : wc.cell? ⟨gb412, 0, none⟩ = some (.int .i64 t409) := ec BK412
    have hcz65_1 : wc.cell? ⟨gb412, 1, none⟩ = some (u413001) := ec BK412
    have hfz65_0 := blk_frozen BK412.out 0
    have hfz65_1 := blk_frozen BK412.out 1
    obtain ⟨Ao66, co66, eo66⟩ := Kd.R_slice HO_413001.out
    subst eo66
    go_wp2_with (first | ((with_reducible refine gc 33 ?_); refine gl (some 87) Tryz.func33 #[.agg #[.int .i64 t409, .slice Ao66 x413001_4.length co66]] ?_; (with_reducible refine (impl_isPuzzle.calls kj4 t409 _ _ x413001_4 false _ ?_ ?_ A45.out).mono ?_); exact rr HO_413001; exact rn HO_413001; rintro e w67 ⟨rfl, hb⟩; refine ⟨_, rfl, ?_⟩; replace HO_413001 := rl HO_413001 hb; replace BK405 := nk BK405 hb; replace HB := bs hb; (try clear hb); have hz68 := z2 BK405))
    refine bodyPost_ret (results_ct rfl _ _ gb405 24 #[.int .i64 0, .slice none 0 0] (0, 0) _ rfl (pz BK405) Tryz.underlying24 rfl (by kernel_rfl)) rfl ?_
    exact ⟨_, rs, by first | exact Kd.R_nil _ _ _ _ _ | exact Kd.N_nil _ _ _ _ _ | exact Kd.V_nil _ _ _ _ _ | exact Kd.Q_nil _ _ _ _ _ | exact Kd.S_nil _ _ _ _ _, bw⟩
 rw [if_neg (show ¬ (some q411).isNone = true by simp)] at H
 try simp only [errW_none, errW_some]
 simp only [Option.some.injEq, Prod.mk.injEq] at H
 obtain ⟨rfl, rfl, rfl⟩ := H
 go_enter Tryz.func30, Tryz.ntmps30
 go_wp2_with (first | ((with_reducible refine gd 2 ?_); refine bx 2 24 #[.int .i64 0, .slice none 0 0] ?_; intro gb405 hg w69 hbox hb; have BK405 := hbox; have GW405 := gs hg; have GE405 := gs hg; replace HB := bs hb; clear hb hbox hg) | ((with_reducible refine gc 46 ?_); refine gl (some 19) Tryz.func46 #[.string a0, .string (⟨#[58]⟩ : ByteArray)] ?_; (with_reducible refine (strings_Cut.calls a0 (⟨#[58]⟩ : ByteArray) t406 t407 t408 _ ?_ A2.out).mono ?_); exact Dr.mm HMM; rintro e w70 ⟨rfl, hb⟩; refine ⟨_, rfl, ?_⟩; replace BK405 := nk BK405 hb; replace HB := bs hb; (try clear hb)) | ((with_reducible refine gc 47 ?_); refine gl (some 25) Tryz.func47 #[.string t406] ?_; (with_reducible refine (strconv_Atoi.calls t406 t409 (some q411) _ ?_ A3.out).mono ?_); exact Dr.mm HMM; rintro e w71 ⟨q_, rfl, hb⟩; refine ⟨_, rfl, ?_⟩; replace BK405 := nk BK405 hb; replace HB := bs hb; (try clear hb); (try simp only [Option.map_none, Option.map_some, errW_none, errW_some]); have hz72 := z2 BK405))
 refine bodyPost_ret (results_ct rfl _ _ gb405 24 #[.int .i64 0, .slice none 0 0] (0, 0) _ rfl (pz BK405) Tryz.underlying24 rfl (by kernel_rfl)) rfl ?_
 exact ⟨_, rs, by first | exact Kd.R_nil _ _ _ _ _ | exact Kd.N_nil _ _ _ _ _ | exact Kd.V_nil _ _ _ _ _ | exact Kd.Q_nil _ _ _ _ _ | exact Kd.S_nil _ _ _ _ _, bw⟩

end Go.Proofs.YtfaakdokcldnkaaGreatDoor.PFnRowsGuessedOfAll
