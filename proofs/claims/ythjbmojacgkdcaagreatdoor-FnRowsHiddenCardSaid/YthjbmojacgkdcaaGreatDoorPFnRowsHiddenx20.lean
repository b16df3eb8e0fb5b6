-- Laid by xprint, a program of this session that runs over the kit's print.
import Derived.Test.YthjbmojacgkdcaaGreatDoorPFnRowsHiddenx21
namespace Go.Proofs.YthjbmojacgkdcaaGreatDoor.PFnRowsHidden
open Go.RowKit Go.Proofs.YthjbmojacgkdcaaGreatDoorW.PrintWords Go.Proofs.YthjbmojacgkdcaaGreatDoorW.PrintLast Go.Proofs.YthjbmojacgkdcaaGreatDoorW.PrintMore Go.Proofs.YthjbmojacgkdcaaGreatDoor.Sq
attribute [local go_sem] max2_int min2_int max_two min_two max_three min_three max_four min_four   -- for this text's walks alone
set_option linter.unusedVariables false
set_option linter.unusedSimpArgs false

attribute [local go_sem high] eqA37
/-! ### laws_FnRowsHidden: its contract -/
set_option maxHeartbeats 80000000 in
set_option maxRecDepth 100000 in
theorem laws_FnRowsHidden.r1
 {k : Nat}
 {A0 : Option Addr}
 {c0 : Nat}
 {l0 : List Int}
 {A1 : Option Addr}
 {c1 : Nat}
 {l1 : List Int}
 {r : Bool}
 {w : World}
 (HR1 : Aside0 (Kd.C (Kd.int IntKind.u8) w A1 (List.length l1) l1))
 (HC1 : Aside0 (List.length l1 ≤ c1))
 (HRT : Aside0 (r = true))
 (HMM : Aside0 (Dr.Tab w))
 {t660 : ByteArray}
 {t661 t662 t663 : Int}
 {t664 : List S37}
 {t667 : Bool}
 {t669 : Int}
 {t670 : List S37}
 {t673 : Bool}
 {gb668 : Nat}
 {Ao16 : Option Addr}
 {co16 gb674 : Nat}
 {Ao21 : Option Addr}
 {co21 : Nat}
 {wc : World}
 {u4 u12 u13 u14 u15 u16 u17 u18 u19 u20 u21 u22 u23 u24 u25 u26 u27 u28 u29 u30 u31 u33 u34 u35 u75 u88 u92 u93 u94 u95 u96 u97 u98 u99 u100 u101 u102 u103 u104 u105 u106 u107 u108 u109 u110 u111 u112 u113 u114 u115 u116 u117 u118 u119 u120 u121 u122 u123 u124 u125 u126 u127 u128 u129 u130 u131 u132 u133 u134 u135 u136 u137 u138 u139 u140 u141 u142 u143 u144 u145 u146 u147 u148 u149 u150 u151 u152 u153 u154 u155 u156 u157 u158 u159 u160 u161 u162 u163 u164 u165 u166 u167 u168 u169 u170 u171 u172 u173 u174 u175 u176 u177 u178 u179 u180 u181 u182 u183 u184 u185 u186 u187 u188 u189 u190 u191 u192 u193 u194 u195 u196 u197 u198 u199 u200 u201 u202 u203 u204 u205 u206 u207 u208 u209 u210 u211 u212 u213 u214 u215 u216 u217 u218 u219 u220 u221 u222 u223 u224 u225 u226 u227 u228 u229 u230 u231 u232 u233 u234 u235 u236 u237 u238 u239 u240 u241 u242 u243 u244 u245 u246 u247 u248 : Value}
 {kq : Nat}
 (HA : Aside0 (j3 kq l1 = some r))
 (HJ10 : Aside0 (kq ≤ k))
 (HB : Aside0 (Below (Array.size w.heap) w wc)) :
 Code.wp Tryz.prog (cdd Tryz.f3 [1, 1, 1, 1, 1, 1, 1]) (bodyPost Tryz.prog Tryz.f3 fun e w' => e = Ending.returned (Value.bool r) ∧ Below (Array.size w.heap) w w') { tmps := #[Value.slice A0 (List.length l0) c0, Value.slice A1 (List.length l1) c1, undef, undef, u4, Value.string t660, Value.int IntKind.i64 t661, Value.int IntKind.i64 t662, Value.pointer (some { block := gb668, off := 0 }), Value.bool t667, Value.pointer (some { block := gb674, off := 0 }), Value.bool t673, u12, u13, u14, u15, u16, u17, u18, u19, u20, u21, u22, u23, u24, u25, u26, u27, u28, u29, u30, u31, undef, u33, u34, u35, undef, undef, undef, undef, undef, undef, undef, undef, undef, undef, undef, undef, undef, undef, undef, undef, undef, undef, undef, undef, undef, undef, undef, undef, undef, undef, undef, undef, undef, undef, undef, undef, undef, undef, undef, undef, undef, Value.slice A0 (List.length l0) c0, Value.slice A1 (List.length l1) c1, u75, Value.tuple #[Value.string t660, Value.int IntKind.i64 t661, Value.int IntKind.i64 t662], Value.slice A0 (List.length l0) c0, Value.tuple #[Value.string t660, Value.int IntKind.i64 t661, Value.int IntKind.i64 t662], Value.string t660, Value.int IntKind.i64 t661, Value.int IntKind.i64 t662, Value.tuple #[Value.agg #[Value.int IntKind.i64 t663, Value.slice Ao16 (List.length t664) co16], Value.bool t667], Value.string t660, Value.int IntKind.i64 t661, Value.int IntKind.i64 t662, Value.tuple #[Value.agg #[Value.int IntKind.i64 t663, Value.slice Ao16 (List.length t664) co16], Value.bool t667], Value.agg #[Value.int IntKind.i64 t663, Value.slice Ao16 (List.length t664) co16], u88, Value.tuple #[Value.agg #[Value.int IntKind.i64 t669, Value.slice Ao21 (List.length t670) co21], Value.bool t673], Value.string t660, Value.int IntKind.i64 t661, u92, u93, u94, u95, u96, u97, u98, u99, u100, u101, u102, u103, u104, u105, u106, u107, u108, u109, u110, u111, u112, u113, u114, u115, u116, u117, u118, u119, u120, u121, u122, u123, u124, u125, u126, u127, u128, u129, u130, u131, u132, u133, u134, u135, u136, u137, u138, u139, u140, u141, u142, u143, u144, u145, u146, u147, u148, u149, u150, u151, u152, u153, u154, u155, u156, u157, u158, u159, u160, u161, u162, u163, u164, u165, u166, u167, u168, u169, u170, u171, u172, u173, u174, u175, u176, u177, u178, u179, u180, u181, u182, u183, u184, u185, u186, u187, u188, u189, u190, u191, u192, u193, u194, u195, u196, u197, u198, u199, u200, u201, u202, u203, u204, u205, u206, u207, u208, u209, u210, u211, u212, u213, u214, u215, u216, u217, u218, u219, u220, u221, u222, u223, u224, u225, u226, u227, u228, u229, u230, u231, u232, u233, u234, u235, u236, u237, u238, u239, u240, u241, u242, u243, u244, u245, u246, u247, u248, undef, undef, undef, undef, undef, undef, undef, undef, undef, undef, undef, undef, undef, undef, undef, undef, undef, undef, undef, undef, undef, undef, undef, undef, undef, undef, undef, undef, undef, undef, undef, undef, undef, undef, undef, undef, undef, undef, undef, undef, undef, undef, undef, undef, undef, undef, undef, undef, undef, undef, undef, undef, undef, undef, undef, undef, undef, undef, undef, undef, undef, undef, undef, undef, undef, undef, undef, undef, undef, undef, undef, undef, undef, undef, undef, undef, undef, undef, undef, undef, undef, undef, undef, undef, undef, undef, undef, undef, undef, undef, undef, undef, undef, undef, undef, undef, undef, undef, undef, undef, undef, undef, undef, undef, undef, undef, undef, undef, undef, undef, undef, undef, undef, undef, undef, undef, undef, undef, undef, undef, undef, undef, undef, undef, undef, undef, undef, undef, undef, undef, undef, undef, undef, undef, undef, undef, undef, undef, undef, undef, undef, undef, undef, undef, undef, undef, undef, undef, undef, undef, undef, undef, undef, undef, undef, undef, undef, undef, undef, undef, undef, undef, undef, undef, undef, undef, undef, undef, undef, undef, undef, undef, undef, undef, undef, undef, undef, undef, undef, undef, undef, undef, undef, undef, undef, undef, undef, undef, undef, undef, undef, undef, undef, undef, undef, undef, undef, undef, undef, undef, undef, undef, undef, undef, undef, undef, undef, undef, undef, undef, undef, undef, undef, undef, undef, undef, undef, undef, undef, undef, undef, undef, undef, undef, undef, undef, undef, undef, undef, undef, undef, undef, undef, undef, undef, undef, undef, undef], defers := [] } wc := by
 conv in cdd _ _ => whnf
 try dsimp only
 cases kq with
 | zero => exact absurd HA.out (by simp [laws_FnRowsHidden.j3])
 | succ kj10 =>
  have H := HA.out
  clear HA
  simp only [laws_FnRowsHidden.j3] at H
  replace H := ob H
  obtain ⟨⟨t706, t707⟩, A96, H⟩ := H
  (try dsimp only at H)
  replace H := ob H
  obtain ⟨⟨t711, t712, t715⟩, A97, H⟩ := H
  (try dsimp only at H)
  replace H := ob H
  obtain ⟨⟨t717, t718, t721⟩, A98, H⟩ := H
  (try dsimp only at H)
  replace H := ob H
  obtain ⟨⟨t723, t724⟩, A99, H⟩ := H
  (try dsimp only at H)
  have HC100 := Aside0.mk H
  clear H
  go_upto_region 44 with (first | ((with_reducible refine gc 15 ?_); refine gl (some 250) Tryz.func15 #[.slice A1 l1.length c1] ?_; (with_reducible refine (spec_DrawHarderPuzzle.calls kj10 _ _ l1 t706 t707 _ ?_ ?_ A96.out).mono ?_); exact cb HR1; exact HC1.out; rintro e w101 ⟨v708, rfl, ho0, hb⟩; refine ⟨_, rfl, ?_⟩; have HO709 := Aside0.mk (Kd.R_lower ho0 (below_size bw)); replace HB := bs hb; (try clear hb); (try clear ho0)) | ((with_reducible refine gd 36 ?_); (try (refine gate_guard (by rfl) ?_; dsimp only)); refine bx 36 28 #[.int .i64 0, .slice none 0 0] ?_; intro gb710 hg w102 hbox hb; replace HO709 := rl HO709 hb; have BK710 := hbox; have GW710 := gs hg; have GE710 := gs hg; replace HB := bs hb; clear hb hbox hg; obtain ⟨hcz103_0, hcz103_1, hfz103_0, hfz103_1⟩ := z2 BK710; obtain ⟨Ao104, co104, eo104⟩ := Kd.R_slice HO709.out; subst eo104) | ((with_reducible refine gc 16 ?_); refine gl (some 253) Tryz.func16 #[.agg #[.int .i64 t706, .slice Ao104 t707.length co104]] ?_; (with_reducible refine (impl_HarderPuzzle.calls kj10 t706 _ _ t707 t711 t712 t715 _ ?side1 ?side2 ?side3 A97.out).mono ?_); (case side1 => exact Dr.mm HMM); (case side2 => refine (Kd.R_reads' (e := 37) (base := w.heap.size) (ok := fun k_ => True) (n := t707.length) (c := co104) ?_).2.2; exact (qf HO709)); (case side3 => exact rn HO709); rintro e w105 ⟨v713, rfl, ho0, hb⟩; refine ⟨_, rfl, ?_⟩; have HO714 := Aside0.mk (Kd.R_lower (Kd.R_new' ho0 (Kd.R_lt (qf HO709))) (below_size bw)); replace HO709 := Aside0.mk (Kd.R_elder' (qf HO709) (Kd.R_base ho0) hb); replace BK710 := Aside0.mk (blk_below (g := gb710) (o := .cells #[.int .i64 t706, .slice Ao104 t707.length co104] 28 (0, 0)) (pz BK710) hb); replace HB := bs hb; (try clear hb); (try clear ho0)) | ((with_reducible refine gd 37 ?_); (try (refine gate_guard (by rfl) ?_; dsimp only)); refine bx 37 28 #[.int .i64 0, .slice none 0 0] ?_; intro gb716 hg w106 hbox hb; replace HO709 := rl HO709 hb; replace HO714 := rl HO714 hb; have BK716 := hbox; have GW716 := gs hg; have GE716 := gs hg; replace HB := bs hb; have ⟨NB710_716, NB716_710⟩ := nn BK710 hg; replace BK710 := nk BK710 hb; clear hb hbox hg; have hnb107 := nb NB716_710; obtain ⟨hcz108_0, hcz108_1, hfz108_0, hfz108_1⟩ := z2 BK716; obtain ⟨Ao109, co109, eo109⟩ := Kd.R_slice HO714.out; subst eo109; obtain ⟨hcz110_0, hcz110_1, hfz110_0, hfz110_1⟩ := z2 BK710) | ((with_reducible refine gc 17 ?_); refine gl (some 258) Tryz.func17 #[.agg #[.int .i64 t706, .slice Ao104 t707.length co104]] ?_; (with_reducible refine (spec_HarderPuzzle.calls kj10 t706 _ _ t707 t717 t718 t721 _ ?side1 ?side2 A98.out).mono ?_); (case side1 => refine (Kd.R_reads' (e := 37) (base := w.heap.size) (ok := fun k_ => (True ∧ some k_ ≠ (.slice Ao109 t712.length co109 : Value).ownBlock)) (n := t707.length) (c := co104) ?_).2.2; exact (qf HO709)); (case side2 => exact rn HO709); rintro e w111 ⟨v719, rfl, ho0, hb⟩; refine ⟨_, rfl, ?_⟩; have HO720 := Aside0.mk (Kd.R_lower (Kd.R_new' (Kd.R_new' ho0 (Kd.R_lt (qf HO709))) (Kd.R_lt (qf HO714))) (below_size bw)); replace HO709 := Aside0.mk (Kd.R_elder' (qf HO709) (Kd.R_base ho0) hb); replace HO714 := Aside0.mk (Kd.R_elder' (qf HO714) (Kd.R_base ho0) hb); replace BK710 := nf BK710 hb; replace BK716 := Aside0.mk (blk_below (g := gb716) (o := .cells #[.int .i64 t711, .slice Ao109 t712.length co109] 28 (0, 0)) (pz BK716) hb); replace HB := bs hb; (try clear hb); (try clear ho0)) | ((with_reducible refine gd 39 ?_); (try (refine gate_guard (by rfl) ?_; dsimp only)); refine bx 39 28 #[.int .i64 0, .slice none 0 0] ?_; intro gb722 hg w112 hbox hb; replace HO709 := rl HO709 hb; replace HO714 := rl HO714 hb; replace HO720 := rl HO720 hb; have BK722 := hbox; have GW722 := gs hg; have GE722 := gs hg; replace HB := bs hb; have ⟨NB710_722, NB722_710⟩ := nn BK710 hg; replace BK710 := nk BK710 hb; have ⟨NB716_722, NB722_716⟩ := nn BK716 hg; replace BK716 := nk BK716 hb; clear hb hbox hg; have hnb113 := nb NB722_710; have hnb114 := nb NB722_716; obtain ⟨hcz115_0, hcz115_1, hfz115_0, hfz115_1⟩ := z2 BK722; obtain ⟨Ao116, co116, eo116⟩ := Kd.R_slice HO720.out; subst eo116; obtain ⟨hcz117_0, hcz117_1, hfz117_0, hfz117_1⟩ := z2 BK710) | ((with_reducible refine gc 18 ?_); refine gl (some 263) Tryz.func18 #[.agg #[.int .i64 t706, .slice Ao104 t707.length co104]] ?_; (with_reducible refine (impl_IsSolved.calls kj10 t706 _ _ t707 t723 t724 _ ?side1 ?side2 ?side3 A99.out).mono ?_); (case side1 => exact Dr.mm HMM); (case side2 => refine (Kd.R_reads' (e := 37) (base := w.heap.size) (ok := fun k_ => ((True ∧ some k_ ≠ (.slice Ao109 t712.length co109 : Value).ownBlock) ∧ some k_ ≠ (.slice Ao116 t718.length co116 : Value).ownBlock)) (n := t707.length) (c := co104) ?_).2.2; exact (qf HO709)); (case side3 => exact rn HO709); rintro e w118 ⟨rfl, hb⟩; refine ⟨_, rfl, ?_⟩; replace HO709 := Aside0.mk (Kd.R_below (qf HO709) hb); replace HO714 := Aside0.mk (Kd.R_below (qf HO714) hb); replace HO720 := Aside0.mk (Kd.R_below (qf HO720) hb); replace BK710 := nf BK710 hb; replace BK716 := nf BK716 hb; replace BK722 := Aside0.mk (blk_below (g := gb722) (o := .cells #[.int .i64 t717, .slice Ao116 t718.length co116] 28 (0, 0)) (pz BK722) hb); replace HB := bs hb; (try clear hb)))
  (try simp only [Act.put, List.setIfInBounds_toArray, List.set_cons_zero, List.set_cons_succ])
  go_cut [211, 217, 218, 219, 220, 221, 222, 223, 224, 225, 226, 227, 228, 240, 241, 242, 243, 244, 245, 246, 247, 252, 253, 254, 255, 256, 257, 258, 259, 260, 261, 262, 263, 264, 265, 282] from 9999 (fun _ _ _ _ _ _ _ _ _ _ _ _ _ _ _ _ _ _ _ _ _ _ _ _ _ _ _ _ _ _ _ _ _ _ _ v282 wc => ∃ (kq : Nat) (x282_99 : Bool), v282 = .bool x282_99 ∧ Aside0 (laws_FnRowsHidden.j4 kq l1 t715 x282_99 t706 t707 t711 t712 = some r) ∧ Aside0 (kq ≤ kj10) ∧ Aside0 (Kd.R k37 37 wc w.heap.size (fun k_ => some k_ ≠ ((.slice Ao109 t712.length co109) : Value).ownBlock) (.slice Ao104 t707.length co104) t707) ∧ Aside0 (Kd.R k37 37 wc w.heap.size (fun k_ => some k_ ≠ ((.slice Ao104 t707.length co104) : Value).ownBlock) (.slice Ao109 t712.length co109) t712) ∧ Aside0 (wc.heap[gb710]? = some (.cells #[.int .i64 t706, (.slice Ao104 t707.length co104)] 28 (0, 0))) ∧ Aside0 (wc.heap[gb716]? = some (.cells #[.int .i64 t711, (.slice Ao109 t712.length co109)] 28 (0, 0))) ∧ Aside0 (Below w.heap.size w wc))
  case first =>
   rename_i J2_ K2_ hJ2_ hM2_
   have H := HC100.out
   clear HC100
   replace H := ofl HRT H
   obtain ⟨c119, H⟩ := H
   have c119b0 : (t715 != t721) = false := by simpa using c119
   (try (have c119b1 : decide (t715 = t721) = true := by simpa using c119))
   (try (have c119b2 : (t715 == t721) = true := by simpa using c119))
   clear c119
   (first | rw [c119b0] | rw [@decide_eq_true _ _ (of_decide_eq_true c119b1)] | rw [@decide_eq_false _ _ (of_decide_eq_false c119b1)] | (simp only [i64_w, i32_w]; rw [c119b0]) | skip)
   replace H := ob H
   obtain ⟨t725, A120, H⟩ := H
   (try dsimp only at H)
   replace H := ofr HRT H
   obtain ⟨c121, H⟩ := H
   subst c121
   by_cases c122 : t724 = true
   ·subst c122
    rw [if_pos rfl] at H
    have H' := Aside0.mk H
    clear H
    have hnb123 := nb NB716_710
    have hnb124 := nb NB716_722
    obtain ⟨hcz125_0, hcz125_1, hfz125_0, hfz125_1⟩ := z2 BK716
    have hnb126 := nb NB722_710
    obtain ⟨hcz127_0, hcz127_1, hfz127_0, hfz127_1⟩ := z2 BK722
    go_wp2_with (first | (go_at_call 8; (with_reducible refine (laws_vPuzzle.calls kj10 t711 _ _ t712 t717 _ _ t718 true _ ?_ ?_ ?_ ?_ A120.out).mono ?_); exact rr HO714; exact rn HO714; exact rr HO720; exact rn HO720; rintro e w128 ⟨rfl, hb⟩; replace HO709 := rl HO709 hb; replace HO714 := rl HO714 hb; replace HO720 := rl HO720 hb; replace BK710 := nk BK710 hb; replace BK716 := nk BK716 hb; replace HB := bs hb; (try clear hb)))
    go_meet
    case rel => exact ⟨_, ((t715 != t723)), (rs), H', ⟨by have := HJ10.out; first | omega | exact Nat.le_refl _⟩, ⟨by (with_reducible repeat (first | apply Kd.R_alloc | apply Kd.R_drewN | apply Kd.R_drew)); exact Kd.R_mono HO709.out (fun _ hk => hk.1.2)⟩, ⟨by (with_reducible repeat (first | apply Kd.R_alloc | apply Kd.R_drewN | apply Kd.R_drew)); exact Kd.R_mono HO714.out (fun _ hk => hk.1.2)⟩, ⟨pk BK710⟩, ⟨pk BK716⟩, ⟨bw⟩⟩
   replace c122 := Bool.eq_false_iff.mpr c122
   subst c122
   rw [if_neg (show ¬ (false = true) by decide)] at H
   have H' := Aside0.mk H
   clear H
   have hnb129 := nb NB716_710
   have hnb130 := nb NB716_722
   obtain ⟨hcz131_0, hcz131_1, hfz131_0, hfz131_1⟩ := z2 BK716
   have hnb132 := nb NB722_710
   obtain ⟨hcz133_0, hcz133_1, hfz133_0, hfz133_1⟩ := z2 BK722
   go_wp2_with (first | (go_at_call 8; (with_reducible refine (laws_vPuzzle.calls kj10 t711 _ _ t712 t717 _ _ t718 true _ ?_ ?_ ?_ ?_ A120.out).mono ?_); exact rr HO714; exact rn HO714; exact rr HO720; exact rn HO720; rintro e w134 ⟨rfl, hb⟩; replace HO709 := rl HO709 hb; replace HO714 := rl HO714 hb; replace HO720 := rl HO720 hb; replace BK710 := nk BK710 hb; replace BK716 := nk BK716 hb; replace HB := bs hb; (try clear hb)))
   go_meet
   case rel => exact ⟨_, ((t715 != false)), (rs), H', ⟨by have := HJ10.out; first | omega | exact Nat.le_refl _⟩, ⟨by (with_reducible repeat (first | apply Kd.R_alloc | apply Kd.R_drewN | apply Kd.R_drew)); exact Kd.R_mono HO709.out (fun _ hk => hk.1.2)⟩, ⟨by (with_reducible repeat (first | apply Kd.R_alloc | apply Kd.R_drewN | apply Kd.R_drew)); exact Kd.R_mono HO714.out (fun _ hk => hk.1.2)⟩, ⟨pk BK710⟩, ⟨pk BK716⟩, ⟨bw⟩⟩
  case rest =>
   clear HC100
   repeat (first|clear c15|clear c16|clear c17|clear c18|clear c107|clear c113|clear c114|clear c119|clear c119b0|clear c119b1|clear c119b2|clear c123|clear c124|clear c126|clear c129|clear c130|clear c132|clear hcz103_0|clear hcz103_1|clear hcz108_0|clear hcz108_1|clear hcz110_0|clear hcz110_1|clear hcz115_0|clear hcz115_1|clear hcz117_0|clear hcz117_1|clear hcz125_0|clear hcz125_1|clear hcz127_0|clear hcz127_1|clear hcz131_0|clear hcz131_1|clear hcz133_0|clear hcz133_1|clear hfz103_0|clear hfz103_1|clear hfz108_0|clear hfz108_1|clear hfz110_0|clear hfz110_1|clear hfz115_0|clear hfz115_1|clear hfz117_0|clear hfz117_1|clear hfz125_0|clear hfz125_1|clear hfz127_0|clear hfz127_1|clear hfz131_0|clear hfz131_1|clear hfz133_0|clear hfz133_1)
   obtain ⟨kq, x282_99, rfl, HA, HJ99, HO_711001, HO_717001, BK710, BK716, HB⟩ := hcut
   cases kq with
   | zero => exact absurd HA.out (by simp [laws_FnRowsHidden.j4])
   | succ kj99 =>
    have H := HA.out
    clear HA
    simp only [laws_FnRowsHidden.j4] at H
    by_cases c135 : x282_99 = true
    ·subst c135
     rw [if_pos rfl] at H
     exact absurd (Option.some.inj H) (by rw [HRT.out]; decide)
    replace c135 := Bool.eq_false_iff.mpr c135
    subst c135
    rw [if_neg (show ¬ (false = true) by decide)] at H
    have HC136 := Aside0.mk H
    clear H
    go_upto_if 283 with (fail)
    go_cut [224, 225, 226, 227, 228, 240, 241, 242, 243, 244, 245, 246, 247, 255, 260, 264, 265, 266, 267, 268, 269, 270, 271, 272, 273, 274, 275, 276, 277, 278, 279, 280, 281, 282, 283] from 9999 (fun _ _ _ _ _ _ _ _ _ _ _ _ _ _ _ _ _ _ _ _ _ _ _ _ _ _ _ _ _ _ _ _ _ _ _ wc => ∃ (kq : Nat), Aside0 (laws_FnRowsHidden.j5 kq l1 = some r) ∧ Aside0 (kq ≤ kj99) ∧ Aside0 (Below w.heap.size w wc))
    case first =>
     rename_i J3_ K3_ hJ3_ hM3_
     have H := HC136.out
     clear HC136
     by_cases c137 : t715 = true
     ·subst c137
      rw [if_pos rfl] at H
      replace H := ob H
      obtain ⟨⟨t726, t729⟩, A138, H⟩ := H
      (try dsimp only at H)
      replace H := ob H
      obtain ⟨⟨t730, t733⟩, A139, H⟩ := H
      (try dsimp only at H)
      replace H := ob H
      obtain ⟨⟨t734, t737⟩, A140, H⟩ := H
      (try dsimp only at H)
      replace H := ofr HRT H
      obtain ⟨c141, H⟩ := H
      subst c141
      replace H := ofr HRT H
      obtain ⟨c142, H⟩ := H
      subst c142
      replace H := ob H
      obtain ⟨t738, A143, H⟩ := H
      (try dsimp only at H)
      replace H := ofr HRT H
      obtain ⟨c144, H⟩ := H
      subst c144
      replace H := ofr HRT H
      obtain ⟨c145, H⟩ := H
      subst c145
      replace H := ofr HRT H
      obtain ⟨c146, H⟩ := H
      have c146b0 : ((t734.length : Int) == 0) = true := beq_iff_eq.mpr c146
      have c146b1 : ((t734.length : Int) != 0) = false := bne_eq_false_iff_eq.mpr c146
      clear c146
      (first | rw [c146b0] | rw [@decide_eq_true _ _ (of_decide_eq_true c146b1)] | rw [@decide_eq_false _ _ (of_decide_eq_false c146b1)] | (simp only [i64_w, i32_w]; rw [c146b0]) | skip)
      replace H := ofl HRT H
      obtain ⟨c147, H⟩ := H
      have c147b0 := decide_eq_false c147
      have c147b1 : decide (t707.length < t712.length) = false := decide_eq_false (fun h => c147 (Int.ofNat_lt.mpr h))
      clear c147
      have H' := Aside0.mk H
      clear H
      have hnb148 := nb NB710_716
      have hcz149_0 : wc.cell? ⟨gb710, 0, none⟩ = some (.int .i64 t706) := ec BK710
      have hcz149_1 : wc.cell? ⟨gb710, 1, none⟩ = some (.slice Ao104 t707.length co104) := ec BK710
      have hfz149_0 := blk_frozen BK710.out 0
      have hfz149_1 := blk_frozen BK710.out 1
      go_wp2_with (first | ((with_reducible refine gc 19 ?_); refine gl (some 286) Tryz.func19 #[.agg #[.int .i64 t706, .slice Ao104 t707.length co104]] ?_; (with_reducible refine (impl_Solutions.calls kj99 t706 _ _ t707 t726 true _ ?_ ?_ ?_ A138.out).mono ?_); exact Dr.mm HMM; exact rr HO_711001; exact rn HO_711001; rintro e w150 ⟨v727, rfl, ho0, hb⟩; refine ⟨_, rfl, ?_⟩; replace HO_711001 := rl HO_711001 hb; replace HO_717001 := rl HO_717001 hb; have HO728 := Aside0.mk (Kd.R_lower ho0 (below_size bw)); replace BK710 := nk BK710 hb; replace BK716 := nk BK716 hb; replace HB := bs hb; (try clear hb); (try clear ho0); obtain ⟨hcz151_0, hcz151_1, hfz151_0, hfz151_1⟩ := z2 BK716) | ((with_reducible refine gc 19 ?_); refine gl (some 291) Tryz.func19 #[.agg #[.int .i64 t711, .slice Ao109 t712.length co109]] ?_; (with_reducible refine (impl_Solutions.calls kj99 t711 _ _ t712 t730 true _ ?_ ?_ ?_ A139.out).mono ?_); exact Dr.mm HMM; exact rr HO_717001; exact rn HO_717001; rintro e w152 ⟨v731, rfl, ho0, hb⟩; refine ⟨_, rfl, ?_⟩; replace HO_711001 := rl HO_711001 hb; replace HO_717001 := rl HO_717001 hb; have HO732 := Aside0.mk (Kd.R_lower (Kd.R_new' ho0 (Kd.R_lt (pr HO728))) (below_size bw)); replace HO728 := re HO728 ho0 hb; replace BK710 := nk BK710 hb; replace BK716 := nk BK716 hb; replace HB := bs hb; (try clear hb); (try clear ho0); obtain ⟨hcz153_0, hcz153_1, hfz153_0, hfz153_1⟩ := z2 BK716) | ((with_reducible refine gc 20 ?_); refine gl (some 296) Tryz.func20 #[.agg #[.int .i64 t711, .slice Ao109 t712.length co109]] ?_; (with_reducible refine (impl_NeedlessClues.calls kj99 t711 _ _ t712 t734 true _ ?_ ?_ ?_ A140.out).mono ?_); exact Dr.mm HMM; exact rr HO_717001; exact rn HO_717001; rintro e w154 ⟨v735, rfl, ho0, hb⟩; refine ⟨_, rfl, ?_⟩; replace HO_711001 := rl HO_711001 hb; replace HO_717001 := rl HO_717001 hb; replace HO728 := rl HO728 hb; replace HO732 := rl HO732 hb; have HO736 := Aside0.mk (Kd.R_lower ho0 (below_size bw)); replace BK710 := nk BK710 hb; replace BK716 := nk BK716 hb; replace HB := bs hb; (try clear hb); (try clear ho0); obtain ⟨Ao155, co155, eo155⟩ := Kd.R_slice HO728.out; subst eo155; obtain ⟨Ao156, co156, eo156⟩ := Kd.R_slice HO732.out; subst eo156) | (go_at_call 21; (with_reducible refine (laws_vTexts.calls kj99 _ _ t726 _ _ t730 true _ ?_ ?_ ?_ ?_ A143.out).mono ?_); exact rr HO728; exact rn HO728; exact rr HO732; exact rn HO732; rintro e w' ⟨rfl, ⟨nd, rfl⟩⟩; obtain ⟨Ao157, co157, eo157⟩ := Kd.R_slice HO736.out; subst eo157; obtain ⟨hcz158_0, hcz158_1, hfz158_0, hfz158_1⟩ := z2 BK716; obtain ⟨hcz159_0, hcz159_1, hfz159_0, hfz159_1⟩ := z2 BK710))
      go_meet
      case rel => exact ⟨_, H', ⟨by have := HJ10.out; have := HJ99.out; first | omega | exact Nat.le_refl _⟩, ⟨bw⟩⟩
     replace c137 := Bool.eq_false_iff.mpr c137
     subst c137
     rw [if_neg (show ¬ (false = true) by decide)] at H
     have H' := Aside0.mk H
     clear H
     go_wp2
     go_meet
     case rel => exact ⟨_, H', ⟨by have := HJ10.out; have := HJ99.out; first | omega | exact Nat.le_refl _⟩, ⟨bw⟩⟩
    case rest =>
     clear HC136
     repeat (first|clear c20|clear c146|clear c146b0|clear c146b1|clear c147|clear c147b0|clear c147b1|clear c148|clear hcz149_0|clear hcz149_1|clear hcz151_0|clear hcz151_1|clear hcz153_0|clear hcz153_1|clear hcz158_0|clear hcz158_1|clear hcz159_0|clear hcz159_1|clear hfz149_0|clear hfz149_1|clear hfz151_0|clear hfz151_1|clear hfz153_0|clear hfz153_1|clear hfz158_0|clear hfz158_1|clear hfz159_0|clear hfz159_1)
     obtain ⟨kq, HA, HJ135, HB⟩ := hcut
     go_step
     exact laws_FnRowsHidden.r3 HR1 HC1 HRT HMM HJ10 HJ99 HA HJ135 HB

set_option maxHeartbeats 80000000 in
set_option maxRecDepth 100000 in
theorem laws_FnRowsHidden.calls (k : Nat) (A0 : Option Addr) (c0 : Nat) (l0 : List Int) (A1 : Option Addr) (c1 : Nat) (l1 : List Int) (r : Bool) (w : World) (hm : Dr.Tab w) (hr0 : Kd.C (Kd.int .u8) w A0 l0.length l0) (hc0 : l0.length ≤ c0) (hr1 : Kd.C (Kd.int .u8) w A1 l1.length l1) (hc1 : l1.length ≤ c1) (hrt : r = true) (h : laws_FnRowsHidden.f k l0 l1 = some r) :
  Calls Tryz.prog 3 #[.slice A0 l0.length c0, .slice A1 l1.length c1] w fun e w' => e = .returned (.bool r) ∧ Below w.heap.size w w' := by
 have hu28 := Tryz.underlying28
 have hu37 := Tryz.underlying37
 have HR0 := Aside0.mk hr0
 have HC0 := Aside0.mk hc0
 clear hr0 hc0
 have HR1 := Aside0.mk hr1
 have HC1 := Aside0.mk hc1
 clear hr1 hc1
 have HB := Aside0.mk (Below.refl w.heap.size w)
 have HRT := Aside0.mk hrt
 clear hrt
 have HMM := Aside0.mk hm
 clear hm
 unfold laws_FnRowsHidden.f at h
 have H := h
 clear h
 replace H := ob H
 obtain ⟨t659, A3, H⟩ := H
 (try dsimp only at H)
 by_cases c4 : t659 = true
 ·subst c4
  rw [if_pos rfl] at H
  obtain rfl := Option.some.inj H
  go_enter Tryz.func3, Tryz.ntmps3
  go_wp2_with (first | ((with_reducible refine gc 4 ?_); refine gl (some 75) Tryz.func4 #[.slice A0 l0.length c0, .slice A1 l1.length c1] ?_; (with_reducible refine (laws_big.calls _ _ l0 _ _ l1 true _ ?_ ?_ ?_ ?_ A3.out).mono ?_); exact cr HR0; exact HC0.out; exact cr HR1; exact HC1.out; rintro e w' ⟨rfl, ⟨nd, rfl⟩⟩; refine ⟨_, rfl, ?_⟩))
  go_ret
  exact ⟨rs, bw⟩
 replace c4 := Bool.eq_false_iff.mpr c4
 subst c4
 rw [if_neg (show ¬ (false = true) by decide)] at H
 replace H := ob H
 obtain ⟨⟨t660, t661, t662⟩, A5, H⟩ := H
 (try dsimp only at H)
 replace H := ob H
 obtain ⟨⟨t663, t664, t667⟩, A6, H⟩ := H
 (try dsimp only at H)
 replace H := ob H
 obtain ⟨⟨t669, t670, t673⟩, A7, H⟩ := H
 (try dsimp only at H)
 replace H := ofl HRT H
 obtain ⟨c8, H⟩ := H
 have c8b0 : (t667 != t673) = false := by simpa using c8
 (try (have c8b1 : decide (t667 = t673) = true := by simpa using c8))
 (try (have c8b2 : (t667 == t673) = true := by simpa using c8))
 clear c8
 replace H := ob H
 obtain ⟨t675, A9, H⟩ := H
 (try dsimp only at H)
 replace H := ofr HRT H
 obtain ⟨c10, H⟩ := H
 subst c10
 have HC11 := Aside0.mk H
 clear H
 go_enter Tryz.func3, Tryz.ntmps3
 go_upto_if 105 with (first | ((with_reducible refine gc 4 ?_); refine gl (some 75) Tryz.func4 #[.slice A0 l0.length c0, .slice A1 l1.length c1] ?_; (with_reducible refine (laws_big.calls _ _ l0 _ _ l1 false _ ?_ ?_ ?_ ?_ A3.out).mono ?_); exact cr HR0; exact HC0.out; exact cr HR1; exact HC1.out; rintro e w' ⟨rfl, ⟨nd, rfl⟩⟩; refine ⟨_, rfl, ?_⟩) | ((with_reducible refine gc 5 ?_); refine gl (some 78) Tryz.func5 #[.slice A0 l0.length c0] ?_; (with_reducible refine (spec_DrawMakePuzzle.calls k _ _ l0 t660 t661 t662 _ ?_ ?_ A5.out).mono ?_); exact cr HR0; exact HC0.out; rintro e w12 ⟨rfl, hb⟩; refine ⟨_, rfl, ?_⟩; replace HB := bs hb; (try clear hb)) | ((with_reducible refine gc 6 ?_); refine gl (some 86) Tryz.func6 #[.string t660, .int .i64 t661, .int .i64 t662] ?_; (with_reducible refine (impl_MakePuzzle.calls k t660 t661 t662 t663 t664 t667 _ ?_ A6.out).mono ?_); exact Dr.mm HMM; rintro e w13 ⟨v665, rfl, ho0, hb⟩; refine ⟨_, rfl, ?_⟩; have HO666 := Aside0.mk (Kd.R_lower ho0 (below_size bw)); replace HB := bs hb; (try clear hb); (try clear ho0)) | ((with_reducible refine gd 8 ?_); (try (refine gate_guard (by rfl) ?_; dsimp only)); refine bx 8 28 #[.int .i64 0, .slice none 0 0] ?_; intro gb668 hg w14 hbox hb; replace HO666 := rl HO666 hb; have BK668 := hbox; have GW668 := gs hg; have GE668 := gs hg; replace HB := bs hb; clear hb hbox hg; obtain ⟨hcz15_0, hcz15_1, hfz15_0, hfz15_1⟩ := z2 BK668; obtain ⟨Ao16, co16, eo16⟩ := Kd.R_slice HO666.out; subst eo16) | ((with_reducible refine gc 7 ?_); refine gl (some 93) Tryz.func7 #[.string t660, .int .i64 t661, .int .i64 t662] ?_; (with_reducible refine (spec_MakePuzzle.calls k t660 t661 t662 t669 t670 t673 _ A7.out).mono ?_); rintro e w17 ⟨v671, rfl, ho0, hb⟩; refine ⟨_, rfl, ?_⟩; have HO672 := Aside0.mk (Kd.R_lower (Kd.R_new' ho0 (Kd.R_lt (qf HO666))) (below_size bw)); replace HO666 := Aside0.mk (Kd.R_elder' (qf HO666) (Kd.R_base ho0) hb); replace BK668 := Aside0.mk (blk_below (g := gb668) (o := .cells #[.int .i64 t663, .slice Ao16 t664.length co16] 28 (0, 0)) (pz BK668) hb); replace HB := bs hb; (try clear hb); (try clear ho0)) | ((with_reducible refine gd 10 ?_); (try (refine gate_guard (by rfl) ?_; dsimp only)); refine bx 10 28 #[.int .i64 0, .slice none 0 0] ?_; intro gb674 hg w18 hbox hb; replace HO666 := rl HO666 hb; replace HO672 := rl HO672 hb; have BK674 := hbox; have GW674 := gs hg; have GE674 := gs hg; replace HB := bs hb; have ⟨NB668_674, NB674_668⟩ := nn BK668 hg; replace BK668 := nk BK668 hb; clear hb hbox hg; have hnb19 := nb NB674_668; obtain ⟨hcz20_0, hcz20_1, hfz20_0, hfz20_1⟩ := z2 BK674; obtain ⟨Ao21, co21, eo21⟩ := Kd.R_slice HO672.out; subst eo21; obtain ⟨hcz22_0, hcz22_1, hfz22_0, hfz22_1⟩ := z2 BK668) | (go_at_call 8; (with_reducible refine (laws_vPuzzle.calls k t663 _ _ t664 t669 _ _ t670 true _ ?side1 ?side2 ?side3 ?side4 A9.out).mono ?_); (case side1 => refine (Kd.R_reads' (e := 37) (base := w.heap.size) (ok := fun k_ => (True ∧ some k_ ≠ (.slice Ao21 t670.length co21 : Value).ownBlock)) (n := t664.length) (c := co16) ?_).2.2; exact (qf HO666)); (case side2 => exact rn HO666); (case side3 => refine (Kd.R_reads' (e := 37) (base := w.heap.size) (ok := fun k_ => (True ∧ some k_ ≠ (.slice Ao16 t664.length co16 : Value).ownBlock)) (n := t670.length) (c := co21) ?_).2.2; exact (qf HO672)); (case side4 => exact rn HO672); rintro e w23 ⟨rfl, hb⟩; replace HO666 := Aside0.mk (Kd.R_below (qf HO666) hb); replace HO672 := Aside0.mk (Kd.R_below (qf HO672) hb); replace BK668 := nf BK668 hb; replace BK674 := Aside0.mk (blk_below (g := gb674) (o := .cells #[.int .i64 t669, .slice Ao21 t670.length co21] 28 (0, 0)) (pz BK674) hb); replace HB := bs hb; (try clear hb)))
 (try simp only [Act.put, List.setIfInBounds_toArray, List.set_cons_zero, List.set_cons_succ])
 go_cut [75, 88, 92, 93, 94, 95, 96, 97, 98, 99, 100, 101, 102, 103, 104, 105] from 9999 (fun _ _ _ _ _ _ _ _ _ _ _ _ _ _ _ _ wc => ∃ (kq : Nat), Aside0 (laws_FnRowsHidden.j3 kq l1 = some r) ∧ Aside0 (kq ≤ k) ∧ Aside0 (Below w.heap.size w wc))
 case first =>
  rename_i J1_ K1_ hJ1_ hM1_
  have H := HC11.out
  clear HC11
  by_cases c24 : t667 = true
  ·subst c24
   rw [if_pos rfl] at H
   replace H := ob H
   obtain ⟨⟨t676, t677⟩, A25, H⟩ := H
   (try dsimp only at H)
   replace H := ob H
   obtain ⟨⟨t678, t679⟩, A26, H⟩ := H
   (try dsimp only at H)
   replace H := ob H
   obtain ⟨⟨t680, t681⟩, A27, H⟩ := H
   (try dsimp only at H)
   replace H := ob H
   obtain ⟨⟨t684, t685⟩, A28, H⟩ := H
   (try dsimp only at H)
   replace H := ob H
   obtain ⟨⟨t686, t687⟩, A29, H⟩ := H
   (try dsimp only at H)
   replace H := ob H
   obtain ⟨t690, A30, H⟩ := H
   (try dsimp only at H)
   replace H := ofr HRT H
   obtain ⟨c31, H⟩ := H
   subst c31
   replace H := ofr HRT H
   obtain ⟨c32, H⟩ := H
   have c32b0 : ((t664.length : Int) == t661) = true := beq_iff_eq.mpr c32
   have c32b1 : ((t664.length : Int) != t661) = false := bne_eq_false_iff_eq.mpr c32
   clear c32
   (first | rw [c32b0] | rw [@decide_eq_true _ _ (of_decide_eq_true c32b1)] | rw [@decide_eq_false _ _ (of_decide_eq_false c32b1)] | (simp only [i64_w, i32_w]; rw [c32b0]) | skip)
   replace H := ofr HRT H
   obtain ⟨c33, H⟩ := H
   subst c33
   replace H := ofr HRT H
   obtain ⟨c34, H⟩ := H
   subst c34
   replace H := ofr HRT H
   obtain ⟨c35, H⟩ := H
   subst c35
   replace H := ofr HRT H
   obtain ⟨c36, H⟩ := H
   subst c36
   replace H := ofr HRT H
   obtain ⟨c37, H⟩ := H
   subst c37
   replace H := ofr HRT H
   obtain ⟨c38, H⟩ := H
   subst c38
   replace H := ofr HRT H
   obtain ⟨c39, H⟩ := H
   subst c39
   have H' := Aside0.mk H
   clear H
   go_wp2_with (first | ((with_reducible refine gc 9 ?_); refine gl (some 108) Tryz.func9 #[.string t660] ?_; (with_reducible refine (impl_TicksToRest.calls k t660 t676 true _ ?_ A25.out).mono ?_); exact Dr.mm HMM; rintro e w40 ⟨rfl, hb⟩; refine ⟨_, rfl, ?_⟩; replace HO666 := rl HO666 hb; replace HO672 := rl HO672 hb; replace BK668 := nk BK668 hb; replace BK674 := nk BK674 hb; replace HB := bs hb; (try clear hb)) | ((with_reducible refine gc 10 ?_); refine gl (some 115) Tryz.func10 #[.agg #[.int .i64 2, .int .i64 0, .int .i64 0, .int .i64 t676], .string t660] ?_; (with_reducible refine (impl_DoesFit.calls k 2 0 0 t676 t660 true true _ ?_ A26.out).mono ?_); exact Dr.mm HMM; rintro e w41 ⟨rfl, hb⟩; refine ⟨_, rfl, ?_⟩; replace HO666 := rl HO666 hb; replace HO672 := rl HO672 hb; replace BK668 := nk BK668 hb; replace HB := bs hb; (try clear hb)) | ((with_reducible refine gc 11 ?_); refine gl (some 120) Tryz.func11 #[.string t660] ?_; (with_reducible refine (impl_FacingPairs.calls k t660 t680 true _ A27.out).mono ?_); rintro e w42 ⟨v682, rfl, ho0, hb⟩; refine ⟨_, rfl, ?_⟩; replace HO666 := rl HO666 hb; replace HO672 := rl HO672 hb; have HO683 := Aside0.mk (Kd.R_lower ho0 (below_size bw)); replace BK668 := nk BK668 hb; replace HB := bs hb; (try clear hb); (try clear ho0); obtain ⟨Ao43, co43, eo43⟩ := Kd.R_slice HO683.out; subst eo43) | ((with_reducible refine gc 10 ?_); refine gl (some 128) Tryz.func10 #[.agg #[.int .i64 3, .int .i64 0, .int .i64 0, .int .i64 (t680.length : Int)], .string t660] ?_; (with_reducible refine (impl_DoesFit.calls k 3 0 0 (t680.length : Int) t660 true true _ ?_ A28.out).mono ?_); exact Dr.mm HMM; rintro e w44 ⟨rfl, hb⟩; refine ⟨_, rfl, ?_⟩; replace HO666 := rl HO666 hb; replace HO672 := rl HO672 hb; replace HO683 := rl HO683 hb; replace BK668 := nk BK668 hb; replace HB := bs hb; (try clear hb)) | ((with_reducible refine gc 12 ?_); refine gl (some 133) Tryz.func12 #[.string t660] ?_; (with_reducible refine (impl_TurnsOfEach.calls k t660 t686 true _ ?_ A29.out).mono ?_); exact Dr.mm HMM; rintro e w45 ⟨v688, rfl, ho0, hb⟩; refine ⟨_, rfl, ?_⟩; replace HO666 := rl HO666 hb; replace HO672 := rl HO672 hb; have HO689 := Aside0.mk (Kd.R_lower (Kd.R_new' ho0 (Kd.R_lt (pr HO683))) (below_size bw)); replace HO683 := re HO683 ho0 hb; replace BK668 := nk BK668 hb; replace HB := bs hb; (try clear hb); (try clear ho0); obtain ⟨hcz46_0, hcz46_1, hfz46_0, hfz46_1⟩ := z2 BK668) | ((with_reducible refine gc 13 ?_); refine gl (some 137) Tryz.func13 #[.agg #[.int .i64 t663, .slice Ao16 t664.length co16]] ?_; (with_reducible refine (impl_IsPuzzle.calls k t663 _ _ t664 true _ ?_ ?_ A30.out).mono ?_); exact rr HO666; exact rn HO666; rintro e w47 ⟨rfl, hb⟩; refine ⟨_, rfl, ?_⟩; replace HO666 := rl HO666 hb; replace HO672 := rl HO672 hb; replace HO683 := rl HO683 hb; replace HO689 := rl HO689 hb; replace BK668 := nk BK668 hb; replace HB := bs hb; (try clear hb); obtain ⟨hcz48_0, hcz48_1, hfz48_0, hfz48_1⟩ := z2 BK668; obtain ⟨Ao49, co49, eo49⟩ := Kd.R_slice HO689.out; subst eo49))
   go_loopg [176] k (fun kq v176 w' => ∃ (x176_1 : Int), v176 = .int .i64 x176_1 ∧ Aside0 (laws_FnRowsHidden.l0 kq l1 t660 t686 (t686.length : Int) x176_1 t663 t664 = some r) ∧ Aside0 (kq ≤ k) ∧ Aside0 (Kd.R (Kd.int .i64) 3 w' w.heap.size (fun _ => True) (.slice Ao49 t686.length co49) t686) ∧ Aside0 (Kd.R k37 37 w' w.heap.size (fun _ => True) (.slice Ao16 t664.length co16) t664) ∧ Aside0 (w'.heap[gb668]? = some (.cells #[.int .i64 t663, (.slice Ao16 t664.length co16)] 28 (0, 0))) ∧ Aside0 (Below w.heap.size w w'))
   case atStart => exact ⟨(0), (rs), H', ⟨Nat.le_refl _⟩, ⟨by (with_reducible repeat (first | apply Kd.R_alloc | apply Kd.R_drewN | apply Kd.R_drew)); exact Kd.R_mono HO689.out (fun _ hk => trivial)⟩, ⟨by (with_reducible repeat (first | apply Kd.R_alloc | apply Kd.R_drewN | apply Kd.R_drew)); exact Kd.R_mono HO666.out (fun _ hk => trivial)⟩, ⟨pk BK668⟩, ⟨bw⟩⟩
   case round =>
    clear H'
    repeat (first|clear c1|clear c2|clear p2|clear c3|clear c5|clear c6|clear c7|clear c8|clear c8b0|clear c8b1|clear c8b2|clear c9|clear c11|clear c12|clear c13|clear c19|clear c32|clear c32b0|clear c32b1|clear hcz15_0|clear hcz15_1|clear hcz20_0|clear hcz20_1|clear hcz22_0|clear hcz22_1|clear hcz46_0|clear hcz46_1|clear hcz48_0|clear hcz48_1|clear hfz15_0|clear hfz15_1|clear hfz20_0|clear hfz20_1|clear hfz22_0|clear hfz22_1|clear hfz46_0|clear hfz46_1|clear hfz48_0|clear hfz48_1)
    obtain ⟨x176_1, rfl, HA, HK1, HO_174, HO_669001, BK668, HB⟩ := hrel
    cases gk with
    | zero => exact absurd HA.out (by simp [laws_FnRowsHidden.l0])
    | succ k1 =>
     have H := HA.out
     clear HA
     simp only [laws_FnRowsHidden.l0] at H
     by_cases c50 : x176_1 < (t686.length : Int)
     ·rw [if_pos c50] at H
      have c50b0 := decide_eq_true c50
      clear c50
      replace H := oi H
      obtain ⟨c51, H⟩ := H
      have c51b0 := decide_eq_true c51
      clear c51
      replace H := oi H
      obtain ⟨c52, H⟩ := H
      have c52b0 := decide_eq_true c52
      clear c52
      replace H := ob H
      obtain ⟨⟨t692, t693⟩, A53, H⟩ := H
      (try dsimp only at H)
      replace H := ofr HRT H
      obtain ⟨c54, H⟩ := H
      subst c54
      replace H := ofr HRT H
      obtain ⟨c55, H⟩ := H
      subst c55
      have H' := Aside0.mk H
      clear H
      have p691 : 0 ≤ (x176_1 : Int) := of_decide_eq_true asm
      have q691 : x176_1 < (t686.length : Int) := of_decide_eq_true asm
      obtain ⟨ad691, e691, hx691_0⟩ := Kd.at_int (Kd.R_reads' HO_174.out).2.2 x176_1 p691 q691
      cases e691
      replace p691 := eq_true p691
      replace q691 := eq_true q691
      go_wp2_with (first | ((with_reducible refine gc 10 ?_); refine gl (some 186) Tryz.func10 #[.agg #[.int .i64 4, .int .i64 x176_1, .int .i64 0, .int .i64 (rd t686 x176_1)], .string t660] ?_; (with_reducible refine (impl_DoesFit.calls k1 4 x176_1 0 (rd t686 x176_1) t660 true true _ ?_ A53.out).mono ?_); exact Dr.mm HMM; rintro e w56 ⟨rfl, hb⟩; refine ⟨_, rfl, ?_⟩; replace HO_174 := rl HO_174 hb; replace HO_669001 := rl HO_669001 hb; replace BK668 := nk BK668 hb; replace HB := bs hb; (try clear hb)))
      go_roundg k1
      case measure => have := HK1.out; omega
      case rel => exact ⟨(wrap64 (x176_1 + 1)), (rs), H', ⟨by have := HK1.out; omega⟩, ⟨pr HO_174⟩, ⟨pr HO_669001⟩, ⟨pk BK668⟩, ⟨bw⟩⟩
     rw [if_neg c50] at H
     have c50b0 := decide_eq_false c50
     clear c50
     replace H := ob H
     obtain ⟨⟨t694, t695⟩, A57, H⟩ := H
     (try dsimp only at H)
     have H' := Aside0.mk H
     clear H
     go_wp2_with (first | ((with_reducible refine gc 14 ?_); refine gl (some 198) Tryz.func14 #[.string t660, .int .i64 2] ?_; (with_reducible refine (impl_RowAfter.calls k1 t660 2 t694 t695 _ ?_ A57.out).mono ?_); exact Dr.mm HMM; rintro e w58 ⟨rfl, hb⟩; refine ⟨_, rfl, ?_⟩; replace HO_174 := rl HO_174 hb; replace HO_669001 := rl HO_669001 hb; replace BK668 := nk BK668 hb; replace HB := bs hb; (try clear hb)) | ((with_reducible refine gd 202 ?_); (try (refine gate_guard (by rfl) ?_; dsimp only)); refine iter_event ?hg (N := 202) ?hd (s := t694) ?hx Tryz.underlying9 ?_; (case hd => rfl); (case hg => rfl); (case hx => exact ⟨_, rfl, by first | rfl | (go_simp; done) | (go_simp; rfl)⟩); intro gb696 hg w59 hbox hb; replace HO_174 := rl HO_174 hb; replace HO_669001 := rl HO_669001 hb; have IT696 := Aside0.mk (hbox); have GW696 := gs hg; have GE696 := gs hg; replace HB := bs hb; have ⟨NB668_696, NB696_668⟩ := nn BK668 hg; replace BK668 := nk BK668 hb; clear hb hbox hg))
     (try simp only [Act.put, List.setIfInBounds_toArray, List.set_cons_zero, List.set_cons_succ])
     go_loopg [] k1 (fun kq w' => ∃ (x697000_2 : Int), Aside0 (laws_FnRowsHidden.l1 kq l1 t660 t694 t695 t663 t664 x697000_2 t694 = some r) ∧ Aside0 (kq ≤ k1) ∧ Aside0 (Kd.R k37 37 w' w.heap.size (fun _ => True) (.slice Ao16 t664.length co16) t664) ∧ Aside0 (w'.heap[gb668]? = some (.cells #[.int .i64 t663, (.slice Ao16 t664.length co16)] 28 (0, 0))) ∧ Aside0 (w'.heap[gb696]? = some (.stringIter t694 (x697000_2 : Int).toNat)) ∧ Aside0 (Below w.heap.size w w'))
     case atStart => exact ⟨(0), H', ⟨Nat.le_refl _⟩, ⟨pr HO_669001⟩, ⟨pk BK668⟩, ⟨by (with_reducible repeat (first | apply b1 | apply b2 | apply b3)); exact IT696.out⟩, ⟨bw⟩⟩
     case round =>
      clear H'
      repeat (first|clear p6|clear q6|clear hx6|clear c14|clear c50|clear c50b0|clear c51|clear c51b0|clear c52|clear c52b0|clear hx691_0|clear p691|clear q691)
      obtain ⟨x697000_2, HA, HK2, HO_669001, BK668, IT696, HB⟩ := hrel
      cases gk with
      | zero => exact absurd HA.out (by simp [laws_FnRowsHidden.l1])
      | succ k2 =>
       have H := HA.out
       clear HA
       simp only [laws_FnRowsHidden.l1] at H
       by_cases c60 : x697000_2 < (t694.size : Int)
       ·rw [if_pos c60] at H
        have c60b0 := decide_eq_true c60
        clear c60
        replace H := oi H
        obtain ⟨c61, H⟩ := H
        have c61b0 := eq_true c61
        have c61b1 := decide_eq_true c61
        clear c61
        replace H := oi H
        obtain ⟨c62, H⟩ := H
        have c62b0 := eq_true c62
        have c62b1 := decide_eq_true c62
        clear c62
        replace H := oi H
        obtain ⟨c63, H⟩ := H
        have c63b0 := decide_eq_true c63
        clear c63
        by_cases c65 : (bt t694 x697000_2) = 62
        ·rw [if_pos c65] at H
         have c65b0 : ((bt t694 x697000_2) == 62) = true := beq_iff_eq.mpr c65
         have c65b1 : ((bt t694 x697000_2) != 62) = false := bne_eq_false_iff_eq.mpr c65
         clear c65
         replace H := ob H
         obtain ⟨⟨t698, t699⟩, A66, H⟩ := H
         (try dsimp only at H)
         replace H := ofr HRT H
         obtain ⟨c67, H⟩ := H
         subst c67
         replace H := ofr HRT H
         obtain ⟨c68, H⟩ := H
         subst c68
         replace H := ofr HRT H
         obtain ⟨c69, H⟩ := H
         subst c69
         have H' := Aside0.mk H
         clear H
         go_wp2_with (first | ((with_reducible refine gd 203 ?_); (try (refine gate_guard (by rfl) ?_; dsimp only)); refine next_event ?hg (N := 203) ?hd (g := gb696) (s := t694) (p := x697000_2) ?hx ?hb ?h0 ?h1 ?h2 ?_; (case hd => rfl); (case hg => rfl); (case hx => exact ⟨_, rfl, by first | rfl | (go_simp; done) | (go_simp; rfl)⟩); (case hb => exact (by (with_reducible repeat (first | apply b1 | apply b2 | apply b3)); exact IT696.out)); (case h0 => first | (with_reducible decide) | exact of_decide_eq_true asm); (case h1 => exact of_decide_eq_true asm); (case h2 => exact of_decide_eq_true asm); intro w70 hbox hk; replace HO_669001 := Aside0.mk (Kd.R_turned (pr HO_669001) (by (with_reducible repeat (first | apply b1 | apply b2 | apply b3)); exact IT696.out) hk); replace BK668 := Aside0.mk (hk.blk (o := .cells #[.int .i64 t663, .slice Ao16 t664.length co16] 28 (0, 0)) (pk BK668) NB668_696.out); replace IT696 := Aside0.mk (hbox); replace HB := Aside0.mk (below_turned bw GE696.out hk); clear hbox hk) | ((with_reducible refine gd 29 ?_); (try (refine gate_guard (by rfl) ?_; dsimp only)); refine bx 29 37 #[.int .i64 0, .int .i64 0, .int .i64 0, .int .i64 0] ?_; intro gb697 hg w71 hbox hb; replace HO_669001 := Aside0.mk (Kd.R_below (Kd.R_elderB (pr HO_669001) gb697 (Nat.le_of_eq hg.symm)) hb); have BK697 := hbox; have GW697 := gs hg; have GE697 := gs hg; replace HB := bs hb; have ⟨NB668_697, NB697_668⟩ := nn BK668 hg; replace BK668 := nk BK668 hb; have NB696_697 := Aside0.mk ((by rw [hg]; exact Nat.ne_of_lt (blk_lt (g := gb696) (o := .stringIter t694 (x697000_2 + 1 : Int).toNat) (by (with_reducible repeat (first | apply b1 | apply b2 | apply b3)); exact IT696.out)) : gb696 ≠ gb697)); have NB697_696 := Aside0.mk ((by rw [hg]; exact Nat.ne_of_gt (blk_lt (g := gb696) (o := .stringIter t694 (x697000_2 + 1 : Int).toNat) (by (with_reducible repeat (first | apply b1 | apply b2 | apply b3)); exact IT696.out)) : gb697 ≠ gb696)); replace IT696 := Aside0.mk (blk_below (g := gb696) (o := .stringIter t694 (x697000_2 + 1 : Int).toNat) (by (with_reducible repeat (first | apply b1 | apply b2 | apply b3)); exact IT696.out) hb); clear hb hbox hg; have hnb72 := nb NB697_668; have hnb73 := nb NB697_696; obtain ⟨hcz74_0, hcz74_1, hcz74_2, hcz74_3, hfz74_0, hfz74_1, hfz74_2, hfz74_3⟩ := z4 BK697; have hzz := z4 (⟨pz BK697⟩ : Aside0 ((((((w71.setCell ⟨gb697, 0, none⟩ (.int .i64 0)).setCell ⟨gb697, 1, none⟩ (.int .i64 x697000_2)).setCell ⟨gb697, 2, none⟩ (.int .i64 2)).setCell ⟨gb697, 3, none⟩ (.int .i64 0)).setCell ⟨gb697, 3, none⟩ (.int .i64 1)).heap[gb697]? = some (.cells #[.int .i64 0, .int .i64 x697000_2, .int .i64 2, .int .i64 1] 37 (0, 0)))); have p64 : 0 ≤ (x697000_2 : Int) := of_decide_eq_true asm; have q64 : x697000_2 < (t694.size : Int) := of_decide_eq_true asm; have hx64 := bt_at t694 x697000_2; replace p64 := eq_true p64; replace q64 := eq_true q64) | ((with_reducible refine gc 10 ?_); refine gl (some 216) Tryz.func10 #[.agg #[.int .i64 0, .int .i64 x697000_2, .int .i64 2, .int .i64 1], .string t660] ?_; (with_reducible refine (impl_DoesFit.calls k2 0 x697000_2 2 1 t660 true true _ ?_ A66.out).mono ?_); exact Dr.mm HMM; rintro e w75 ⟨rfl, hb⟩; refine ⟨_, rfl, ?_⟩; replace HO_669001 := Aside0.mk (Kd.R_below (by (with_reducible repeat (first | apply Kd.R_alloc | apply Kd.R_drewN | apply Kd.R_drew)); exact (Kd.R_mono (Kd.R_far (p := ⟨gb697, 3, none⟩) (Kd.R_far (p := ⟨gb697, 3, none⟩) (Kd.R_far (p := ⟨gb697, 2, none⟩) (Kd.R_far (p := ⟨gb697, 1, none⟩) (Kd.R_far (p := ⟨gb697, 0, none⟩) (Kd.R_mono HO_669001.out (fun k_ hk => (⟨hk, hk.2⟩ : _ ∧ k_ ≠ gb697))) (fun _ hk => hk.2) (.int .i64 0)) (fun _ hk => hk.2) (.int .i64 x697000_2)) (fun _ hk => hk.2) (.int .i64 2)) (fun _ hk => hk.2) (.int .i64 0)) (fun _ hk => hk.2) (.int .i64 1)) (fun _ h_ => h_.1))) hb); replace BK668 := nf BK668 hb; replace IT696 := Aside0.mk (blk_below (g := gb696) (o := .stringIter t694 (x697000_2 + 1 : Int).toNat) (by (with_reducible repeat (first | apply b1 | apply b2 | apply b3)); refine it_far ?_ NB696_697.out _; (with_reducible repeat (first | apply b1 | apply b2 | apply b3)); refine it_far ?_ NB696_697.out _; (with_reducible repeat (first | apply b1 | apply b2 | apply b3)); refine it_far ?_ NB696_697.out _; (with_reducible repeat (first | apply b1 | apply b2 | apply b3)); refine it_far ?_ NB696_697.out _; (with_reducible repeat (first | apply b1 | apply b2 | apply b3)); refine it_far ?_ NB696_697.out _; (with_reducible repeat (first | apply b1 | apply b2 | apply b3)); exact IT696.out) hb); replace BK697 := Aside0.mk (blk_below (g := gb697) (o := .cells #[.int .i64 0, .int .i64 x697000_2, .int .i64 2, .int .i64 1] 37 (0, 0)) (pz BK697) hb); replace HB := bs hb; (try clear hb)))
         go_roundg k2
         case measure => have := HK1.out; have := HK2.out; omega
         case rel => exact ⟨(x697000_2 + 1), H', ⟨by have := HK1.out; have := HK2.out; omega⟩, ⟨by (with_reducible repeat (first | apply Kd.R_alloc | apply Kd.R_drewN | apply Kd.R_drew)); exact Kd.R_mono HO_669001.out (fun _ hk => trivial)⟩, ⟨pk BK668⟩, ⟨by (with_reducible repeat (first | apply b1 | apply b2 | apply b3)); exact IT696.out⟩, ⟨bw⟩⟩
        rw [if_neg c65] at H
        have c65b0 : ((bt t694 x697000_2) == 62) = false := beq_eq_false_iff_ne.mpr c65
        have c65b1 : ((bt t694 x697000_2) != 62) = true := bne_iff_ne.mpr c65
        replace H := ob H
        obtain ⟨⟨t700, t701⟩, A76, H⟩ := H
        (try dsimp only at H)
        replace H := ofr HRT H
        obtain ⟨c77, H⟩ := H
        subst c77
        replace H := ofr HRT H
        obtain ⟨c78, H⟩ := H
        subst c78
        replace H := ofr HRT H
        obtain ⟨c79, H⟩ := H
        subst c79
        have H' := Aside0.mk H
        clear H
        go_wp2_with (first | ((with_reducible refine gd 203 ?_); (try (refine gate_guard (by rfl) ?_; dsimp only)); refine next_event ?hg (N := 203) ?hd (g := gb696) (s := t694) (p := x697000_2) ?hx ?hb ?h0 ?h1 ?h2 ?_; (case hd => rfl); (case hg => rfl); (case hx => exact ⟨_, rfl, by first | rfl | (go_simp; done) | (go_simp; rfl)⟩); (case hb => exact (by (with_reducible repeat (first | apply b1 | apply b2 | apply b3)); exact IT696.out)); (case h0 => first | (with_reducible decide) | exact of_decide_eq_true asm); (case h1 => exact of_decide_eq_true asm); (case h2 => exact of_decide_eq_true asm); intro w80 hbox hk; replace HO_669001 := Aside0.mk (Kd.R_turned (pr HO_669001) (by (with_reducible repeat (first | apply b1 | apply b2 | apply b3)); exact IT696.out) hk); replace BK668 := Aside0.mk (hk.blk (o := .cells #[.int .i64 t663, .slice Ao16 t664.length co16] 28 (0, 0)) (pk BK668) NB668_696.out); replace IT696 := Aside0.mk (hbox); replace HB := Aside0.mk (below_turned bw GE696.out hk); clear hbox hk) | ((with_reducible refine gd 29 ?_); (try (refine gate_guard (by rfl) ?_; dsimp only)); refine bx 29 37 #[.int .i64 0, .int .i64 0, .int .i64 0, .int .i64 0] ?_; intro gb697 hg w81 hbox hb; replace HO_669001 := Aside0.mk (Kd.R_below (Kd.R_elderB (pr HO_669001) gb697 (Nat.le_of_eq hg.symm)) hb); have BK697 := hbox; have GW697 := gs hg; have GE697 := gs hg; replace HB := bs hb; have ⟨NB668_697, NB697_668⟩ := nn BK668 hg; replace BK668 := nk BK668 hb; have NB696_697 := Aside0.mk ((by rw [hg]; exact Nat.ne_of_lt (blk_lt (g := gb696) (o := .stringIter t694 (x697000_2 + 1 : Int).toNat) (by (with_reducible repeat (first | apply b1 | apply b2 | apply b3)); exact IT696.out)) : gb696 ≠ gb697)); have NB697_696 := Aside0.mk ((by rw [hg]; exact Nat.ne_of_gt (blk_lt (g := gb696) (o := .stringIter t694 (x697000_2 + 1 : Int).toNat) (by (with_reducible repeat (first | apply b1 | apply b2 | apply b3)); exact IT696.out)) : gb697 ≠ gb696)); replace IT696 := Aside0.mk (blk_below (g := gb696) (o := .stringIter t694 (x697000_2 + 1 : Int).toNat) (by (with_reducible repeat (first | apply b1 | apply b2 | apply b3)); exact IT696.out) hb); clear hb hbox hg; have hnb82 := nb NB697_668; have hnb83 := nb NB697_696; obtain ⟨hcz84_0, hcz84_1, hcz84_2, hcz84_3, hfz84_0, hfz84_1, hfz84_2, hfz84_3⟩ := z4 BK697; have p64 : 0 ≤ (x697000_2 : Int) := of_decide_eq_true asm; have q64 : x697000_2 < (t694.size : Int) := of_decide_eq_true asm; have hx64 := bt_at t694 x697000_2; replace p64 := eq_true p64; replace q64 := eq_true q64) | ((with_reducible refine gc 10 ?_); refine gl (some 216) Tryz.func10 #[.agg #[.int .i64 0, .int .i64 x697000_2, .int .i64 2, .int .i64 0], .string t660] ?_; (with_reducible refine (impl_DoesFit.calls k2 0 x697000_2 2 0 t660 true true _ ?_ A76.out).mono ?_); exact Dr.mm HMM; rintro e w85 ⟨rfl, hb⟩; refine ⟨_, rfl, ?_⟩; replace HO_669001 := Aside0.mk (Kd.R_below (by (with_reducible repeat (first | apply Kd.R_alloc | apply Kd.R_drewN | apply Kd.R_drew)); exact (Kd.R_mono (Kd.R_far (p := ⟨gb697, 3, none⟩) (Kd.R_far (p := ⟨gb697, 2, none⟩) (Kd.R_far (p := ⟨gb697, 1, none⟩) (Kd.R_far (p := ⟨gb697, 0, none⟩) (Kd.R_mono HO_669001.out (fun k_ hk => (⟨hk, hk.2⟩ : _ ∧ k_ ≠ gb697))) (fun _ hk => hk.2) (.int .i64 0)) (fun _ hk => hk.2) (.int .i64 x697000_2)) (fun _ hk => hk.2) (.int .i64 2)) (fun _ hk => hk.2) (.int .i64 0)) (fun _ h_ => h_.1))) hb); replace BK668 := nf BK668 hb; replace IT696 := Aside0.mk (blk_below (g := gb696) (o := .stringIter t694 (x697000_2 + 1 : Int).toNat) (by (with_reducible repeat (first | apply b1 | apply b2 | apply b3)); refine it_far ?_ NB696_697.out _; (with_reducible repeat (first | apply b1 | apply b2 | apply b3)); refine it_far ?_ NB696_697.out _; (with_reducible repeat (first | apply b1 | apply b2 | apply b3)); refine it_far ?_ NB696_697.out _; (with_reducible repeat (first | apply b1 | apply b2 | apply b3)); refine it_far ?_ NB696_697.out _; (with_reducible repeat (first | apply b1 | apply b2 | apply b3)); exact IT696.out) hb); replace BK697 := Aside0.mk (blk_below (g := gb697) (o := .cells #[.int .i64 0, .int .i64 x697000_2, .int .i64 2, .int .i64 0] 37 (0, 0)) (pz BK697) hb); replace HB := bs hb; (try clear hb)))
        go_roundg k2
        case measure => have := HK1.out; have := HK2.out; omega
        case rel => exact ⟨(x697000_2 + 1), H', ⟨by have := HK1.out; have := HK2.out; omega⟩, ⟨by (with_reducible repeat (first | apply Kd.R_alloc | apply Kd.R_drewN | apply Kd.R_drew)); exact Kd.R_mono HO_669001.out (fun _ hk => trivial)⟩, ⟨pk BK668⟩, ⟨by (with_reducible repeat (first | apply b1 | apply b2 | apply b3)); exact IT696.out⟩, ⟨bw⟩⟩
       rw [if_neg c60] at H
       have c60b0 := decide_eq_false c60
       clear c60
       have H' := Aside0.mk H
       clear H
       go_wp2_with (first | ((with_reducible refine gd 203 ?_); (try (refine gate_guard (by rfl) ?_; dsimp only)); refine next_end_event ?hg (N := 203) ?hd (g := gb696) (s := t694) (p := x697000_2) ?hx ?hb ?h1 ?_; (case hd => rfl); (case hg => rfl); (case hx => exact ⟨_, rfl, by first | rfl | (go_simp; done) | (go_simp; rfl)⟩); (case hb => exact (by (with_reducible repeat (first | apply b1 | apply b2 | apply b3)); exact IT696.out)); (case h1 => exact of_decide_eq_false asm); have hcz86_0 : wr.cell? ⟨gb668, 0, none⟩ = some (.int .i64 t663) := ec BK668; have hcz86_1 : wr.cell? ⟨gb668, 1, none⟩ = some (.slice Ao16 t664.length co16) := ec BK668; have hfz86_0 := blk_frozen BK668.out 0; have hfz86_1 := blk_frozen BK668.out 1))
       go_loopg [232] k2 (fun kq v232 w' => ∃ (x232_3 : Int), v232 = .int .i64 x232_3 ∧ Aside0 (laws_FnRowsHidden.l2 kq l1 t660 t664 (t664.length : Int) x232_3 = some r) ∧ Aside0 (kq ≤ k2) ∧ Aside0 (Kd.R k37 37 w' w.heap.size (fun _ => True) (.slice Ao16 t664.length co16) t664) ∧ Aside0 (Below w.heap.size w w'))
       case atStart => exact ⟨(0), (rs), H', ⟨Nat.le_refl _⟩, ⟨pr HO_669001⟩, ⟨bw⟩⟩
       case round =>
        clear H'
        repeat (first|clear c60|clear c60b0|clear c61|clear c61b0|clear c61b1|clear c62|clear c62b0|clear c62b1|clear c63|clear c63b0|clear p64|clear q64|clear hx64|clear c65|clear c65b0|clear c65b1|clear p69|clear q69|clear hx69|clear c72|clear c73|clear c82|clear c83|clear hcz74_0|clear hcz74_1|clear hcz74_2|clear hcz74_3|clear hcz84_0|clear hcz84_1|clear hcz84_2|clear hcz84_3|clear hcz86_0|clear hcz86_1|clear hfz74_0|clear hfz74_1|clear hfz74_2|clear hfz74_3|clear hfz84_0|clear hfz84_1|clear hfz84_2|clear hfz84_3|clear hfz86_0|clear hfz86_1)
        obtain ⟨x232_3, rfl, HA, HK3, HO_230, HB⟩ := hrel
        cases gk with
        | zero => exact absurd HA.out (by simp [laws_FnRowsHidden.l2])
        | succ k3 =>
         have H := HA.out
         clear HA
         simp only [laws_FnRowsHidden.l2] at H
         by_cases c87 : x232_3 < (t664.length : Int)
         ·rw [if_pos c87] at H
          have c87b0 := decide_eq_true c87
          clear c87
          replace H := oi H
          obtain ⟨c88, H⟩ := H
          have c88b0 := decide_eq_true c88
          clear c88
          replace H := oi H
          obtain ⟨c89, H⟩ := H
          have c89b0 := decide_eq_true c89
          clear c89
          replace H := ob H
          obtain ⟨⟨t704, t705⟩, A90, H⟩ := H
          (try dsimp only at H)
          replace H := ofr HRT H
          obtain ⟨c91, H⟩ := H
          subst c91
          replace H := ofr HRT H
          obtain ⟨c92, H⟩ := H
          subst c92
          have H' := Aside0.mk H
          clear H
          have p702 : 0 ≤ (x232_3 : Int) := of_decide_eq_true asm
          have q702 : x232_3 < (t664.length : Int) := of_decide_eq_true asm
          obtain ⟨ad702, e702, hx702_0, hx702_1, hx702_2, hx702_3⟩ := at_T37 (Kd.R_reads' HO_230.out).2.2 x232_3 p702 q702
          cases e702
          replace p702 := eq_true p702
          replace q702 := eq_true q702
          go_wp2_with (first | ((with_reducible refine gd 33 ?_); (try (refine gate_guard (by rfl) ?_; dsimp only)); refine bx 33 37 #[.int .i64 0, .int .i64 0, .int .i64 0, .int .i64 0] ?_; intro gb703 hg w93 hbox hb; replace HO_230 := Aside0.mk (Kd.R_below (Kd.R_elderB (pr HO_230) gb703 (Nat.le_of_eq hg.symm)) hb); have BK703 := hbox; have GW703 := gs hg; have GE703 := gs hg; replace HB := bs hb; clear hb hbox hg; obtain ⟨hcz94_0, hcz94_1, hcz94_2, hcz94_3, hfz94_0, hfz94_1, hfz94_2, hfz94_3⟩ := z4 BK703) | ((with_reducible refine gc 10 ?_); refine gl (some 239) Tryz.func10 #[.agg #[.int .i64 ((rd_T37 t664 x232_3).f0), .int .i64 ((rd_T37 t664 x232_3).f1), .int .i64 ((rd_T37 t664 x232_3).f2), .int .i64 ((rd_T37 t664 x232_3).f3)], .string t660] ?_; (with_reducible refine (impl_DoesFit.calls k3 ((rd_T37 t664 x232_3).f0) ((rd_T37 t664 x232_3).f1) ((rd_T37 t664 x232_3).f2) ((rd_T37 t664 x232_3).f3) t660 true true _ ?_ A90.out).mono ?_); exact Dr.mm HMM; rintro e w95 ⟨rfl, hb⟩; refine ⟨_, rfl, ?_⟩; replace HO_230 := Aside0.mk (Kd.R_below (by (with_reducible repeat (first | apply Kd.R_alloc | apply Kd.R_drewN | apply Kd.R_drew)); exact (Kd.R_mono (Kd.R_far (p := ⟨gb703, 3, none⟩) (Kd.R_far (p := ⟨gb703, 2, none⟩) (Kd.R_far (p := ⟨gb703, 1, none⟩) (Kd.R_far (p := ⟨gb703, 0, none⟩) (Kd.R_mono HO_230.out (fun k_ hk => (⟨hk, hk.2⟩ : _ ∧ k_ ≠ gb703))) (fun _ hk => hk.2) (.int .i64 ((rd_T37 t664 x232_3).f0))) (fun _ hk => hk.2) (.int .i64 ((rd_T37 t664 x232_3).f1))) (fun _ hk => hk.2) (.int .i64 ((rd_T37 t664 x232_3).f2))) (fun _ hk => hk.2) (.int .i64 ((rd_T37 t664 x232_3).f3))) (fun _ h_ => h_.1))) hb); replace BK703 := Aside0.mk (blk_below (g := gb703) (o := .cells #[.int .i64 ((rd_T37 t664 x232_3).f0), .int .i64 ((rd_T37 t664 x232_3).f1), .int .i64 ((rd_T37 t664 x232_3).f2), .int .i64 ((rd_T37 t664 x232_3).f3)] 37 (0, 0)) (pz BK703) hb); replace HB := bs hb; (try clear hb)))
          go_roundg k3
          case measure => have := HK1.out; have := HK2.out; have := HK3.out; omega
          case rel => exact ⟨(wrap64 (x232_3 + 1)), (rs), H', ⟨by have := HK1.out; have := HK2.out; have := HK3.out; omega⟩, ⟨by (with_reducible repeat (first | apply Kd.R_alloc | apply Kd.R_drewN | apply Kd.R_drew)); exact Kd.R_mono HO_230.out (fun _ hk => trivial)⟩, ⟨bw⟩⟩
         rw [if_neg c87] at H
         have c87b0 := decide_eq_false c87
         clear c87
         have H' := Aside0.mk H
         clear H
         go_wp2
         go_meet
         case rel => exact ⟨_, H', ⟨by have := HK1.out; have := HK2.out; have := HK3.out; first | omega | exact Nat.le_refl _⟩, ⟨bw⟩⟩
  replace c24 := Bool.eq_false_iff.mpr c24
  subst c24
  rw [if_neg (show ¬ (false = true) by decide)] at H
  have H' := Aside0.mk H
  clear H
  go_wp2
  go_meet
  case rel => exact ⟨_, H', ⟨by first | omega | exact Nat.le_refl _⟩, ⟨bw⟩⟩
 case rest =>
  clear HC11
  repeat (first|clear c1|clear c2|clear p2|clear c3|clear c5|clear c6|clear p6|clear q6|clear hx6|clear c7|clear p7|clear q7|clear hx7|clear c8|clear c8b0|clear c8b1|clear c8b2|clear c9|clear c11|clear c12|clear c13|clear c14|clear c19|clear c32|clear c32b0|clear c32b1|clear c50|clear c50b0|clear c51|clear c51b0|clear c52|clear c52b0|clear c60|clear c60b0|clear c61|clear c61b0|clear c61b1|clear c62|clear c62b0|clear c62b1|clear c63|clear c63b0|clear p64|clear q64|clear hx64|clear c65|clear c65b0|clear c65b1|clear p69|clear q69|clear hx69|clear p70|clear q70|clear hx70|clear c72|clear c73|clear c82|clear c83|clear c87|clear c87b0|clear c88|clear c88b0|clear c89|clear c89b0|clear hcz15_0|clear hcz15_1|clear hcz20_0|clear hcz20_1|clear hcz22_0|clear hcz22_1|clear hcz46_0|clear hcz46_1|clear hcz48_0|clear hcz48_1|clear hcz74_0|clear hcz74_1|clear hcz74_2|clear hcz74_3|clear hcz84_0|clear hcz84_1|clear hcz84_2|clear hcz84_3|clear hcz86_0|clear hcz86_1|clear hcz94_0|clear hcz94_1|clear hcz94_2|clear hcz94_3|clear hfz15_0|clear hfz15_1|clear hfz20_0|clear hfz20_1|clear hfz22_0|clear hfz22_1|clear hfz46_0|clear hfz46_1|clear hfz48_0|clear hfz48_1|clear hfz74_0|clear hfz74_1|clear hfz74_2|clear hfz74_3|clear hfz84_0|clear hfz84_1|clear hfz84_2|clear hfz84_3|clear hfz86_0|clear hfz86_1|clear hfz94_0|clear hfz94_1|clear hfz94_2|clear hfz94_3|clear hx691_0|clear hx702_0|clear hx702_1|clear hx702_2|clear hx702_3|clear p691|clear p702|clear q691|clear q702)
  obtain ⟨kq, HA, HJ10, HB⟩ := hcut
  go_step
  exact laws_FnRowsHidden.r1 HR1 HC1 HRT HMM HA HJ10 HB
end Go.Proofs.YthjbmojacgkdcaaGreatDoor.PFnRowsHidden
