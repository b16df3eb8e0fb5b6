/- The row of the law FnRowsHiddenOfAll, out of its pure statement. No condition. Written by rowgen.py, a program of this session. -/
import Derived.Test.YtonhhfhlhlifcaaGreatDoorDr
import Derived.Test.YtonhhfhlhlifcaaGreatDoorTie
import Derived.Test.YtonhhfhlhlifcaaGreatDoorCards
import Derived.Test.YtonhhfhlhlifcaaGreatDoorRows
import Derived.Test.YtonhhfhlhlifcaaGreatDoorOpn
import Derived.Test.YtonhhfhlhlifcaaGreatDoorPFnRowsHiddenOfAllx18
import Derived.Test.YtonhhfhlhlifcaaGreatDoorPureFnRowsHiddenOfAll
import Derived.WalkKit
import Derived.ProofKit
import Derived.OpenShut
import Derived.ShutString
import Derived.ChangeOld
import Derived.Below
import Derived.Carry
import Derived.SizedLaws
namespace Go.Proofs.YtonhhfhlhlifcaaGreatDoor.fnRowsHiddenOfAll
open Go.ChangeShapes Go.WideShapes Go.ChangeAt Go.RowKit
open Go.ChangeMaps (open_string shut_string)
open Go.Proofs.YtonhhfhlhlifcaaGreatDoor.PFnRowsHiddenOfAll Go.Proofs.YtonhhfhlhlifcaaGreatDoorW.PrintWords
set_option linter.unusedVariables false
theorem own : ownKnob Tryz.prog.godebug = none := by kernel_rfl
theorem laidOut : laidOutB Tryz.prog = true := by kernel_rfl
theorem opens26 : Opn.Opens Tryz.prog k26 26 (fun x => ((Lit.int .i64 x.f0).wf = true ∧ (Lit.int .i64 x.f1).wf = true ∧ (Lit.int .i64 x.f2).wf = true ∧ (Lit.int .i64 x.f3).wf = true)) := Opn.opens_struct4 (fun x0 x1 x2 x3 => (⟨x0, x1, x2, x3⟩ : S26)) (fun _ _ _ _ => rfl) Tryz.underlying26 (by kernel_rfl) (by kernel_rfl) (Opn.opens_int Tryz.underlying3) (Opn.opens_int Tryz.underlying3) (Opn.opens_int Tryz.underlying3) (Opn.opens_int Tryz.underlying3)
set_option maxRecDepth 100000 in
theorem lifted (os : Os) (started : os.Started) (H : Type) (enc : TypeId × Value → H) :
    ReturnsInHanded {} Tryz.checked os 3 .any (fun w args => (Rows.fnRowsHiddenOfAllSpec.pre enc Tryz.prog Tryz.f3 [] false w args ∧ laidMetH Tryz.prog Dr.list w) ∧ sizedMet enc Tryz.prog Tryz.f3 (OpenSpec.ofChange Rows.fnRowsHiddenOfAllSpec) false w args) (Rows.fnRowsHiddenOfAllSpec.post enc Tryz.prog Tryz.f3 false true false false) := by
  refine Dr.wrap (C := Tryz.checked) (X := fun w _ => laidMetH Tryz.prog Dr.list w) (fun _ _ _ hh h => h.of_heap hh) own started (by kernel_rfl) Tryz.func3
    (ChangeSpec.witness_shaped (enc := enc) (C := Tryz.checked) (os := os) (X := fun w _ => laidMetH Tryz.prog Dr.list w) false (Dr.world os) #[.string ByteArray.empty, .int .i64 0, .int .i64 0, .agg #[.int .i64 0, .slice none 0 0], .agg #[.int .i64 0, .slice none 0 0], .agg #[.int .i64 0, .int .i64 0, .int .i64 0, .int .i64 0], .agg #[.int .i64 0, .slice none 0 0], .int .i64 0, .agg #[.int .i64 0, .int .i64 0, .int .i64 0, .int .i64 0], .string ByteArray.empty, .int .i64 0, .agg #[.int .i64 0, .int .i64 0, .int .i64 0, .int .i64 0]] 8 rfl (Dr.shaped os _) (by kernel_rfl) (by kernel_rfl) (by kernel_rfl) (Dr.met os _)) ?_
  intro W base args ds gs before hval0 hW hsz0 hL hsh
  have hTab : Dr.Tab W := Dr.Tab.first hsh hL
  have hval : ∀ (j : Nat) t v, Tryz.f3.params[j]? = some t → args[j]? = some v → Value.okWide Tryz.prog W .any base t v := hval0
  have hsz : (DataW.weightsEach Tryz.prog (Tryz.f3.params.toList ++ Rows.fnRowsHiddenOfAllSpec.plain.varTypes Tryz.prog) (ds ++ gs)).all (· ≤ reachBytes) = true := hsz0
  have hW' := hW
  obtain ⟨p, q, hA0, hV, rfl, hfz, hnd⟩ := hW
  have hA : DataW.TrodAll enc Tryz.prog W 0 (fun _ => true) true Tryz.f3.params.toList args.toList ds p := hA0
  rw [Tryz.params3] at hA hval hsz
  obtain ⟨v0, vs0, d0, ds0, p0, q0, hargs, rfl, rfl, h0, r0⟩ := trodAll_cons hA
  obtain ⟨v1, vs1, d1, ds1, p1, q1, rfl, rfl, rfl, h1, r1⟩ := trodAll_cons r0
  obtain ⟨v2, vs2, d2, ds2, p2, q2, rfl, rfl, rfl, h2, r2⟩ := trodAll_cons r1
  obtain ⟨v3, vs3, d3, ds3, p3, q3, rfl, rfl, rfl, h3, r3⟩ := trodAll_cons r2
  obtain ⟨v4, vs4, d4, ds4, p4, q4, rfl, rfl, rfl, h4, r4⟩ := trodAll_cons r3
  obtain ⟨v5, vs5, d5, ds5, p5, q5, rfl, rfl, rfl, h5, r5⟩ := trodAll_cons r4
  obtain ⟨v6, vs6, d6, ds6, p6, q6, rfl, rfl, rfl, h6, r6⟩ := trodAll_cons r5
  obtain ⟨v7, vs7, d7, ds7, p7, q7, rfl, rfl, rfl, h7, r7⟩ := trodAll_cons r6
  obtain ⟨v8, vs8, d8, ds8, p8, q8, rfl, rfl, rfl, h8, r8⟩ := trodAll_cons r7
  obtain ⟨v9, vs9, d9, ds9, p9, q9, rfl, rfl, rfl, h9, r9⟩ := trodAll_cons r8
  obtain ⟨v10, vs10, d10, ds10, p10, q10, rfl, rfl, rfl, h10, r10⟩ := trodAll_cons r9
  obtain ⟨v11, vs11, d11, ds11, p11, q11, rfl, rfl, rfl, h11, r11⟩ := trodAll_cons r10
  obtain ⟨rfl, rfl, rfl⟩ := trodAll_nil r11
  obtain rfl : args = #[v0, v1, v2, v3, v4, v5, v6, v7, v8, v9, v10, v11] := by cases args; simp_all
  obtain ⟨rfl, rfl⟩ := trodVars_none hV
  have k0 := h0
  have lt0 : ∀ x ∈ p0, x.block < W.heap.size := by obtain ⟨m, hm⟩ := k0; exact DataW.trod_lt m _ _ _ hm
  obtain ⟨a0, rfl, rfl, _, y0⟩ := open_string Tryz.underlying9 (hval 0 9 v0 rfl rfl) h0
  have z0 : a0.size ≤ 140737488351232 := by have z := sized_string hsz (j := 0) (t := 9) rfl rfl; rw [Array.length_toList] at z; exact z
  have k1 := h1
  have lt1 : ∀ x ∈ p1, x.block < W.heap.size := by obtain ⟨m, hm⟩ := k1; exact DataW.trod_lt m _ _ _ hm
  obtain ⟨a1, rfl, _, _, w1⟩ := open_int Tryz.underlying3 (hval 1 3 v1 rfl rfl) h1
  have k2 := h2
  have lt2 : ∀ x ∈ p2, x.block < W.heap.size := by obtain ⟨m, hm⟩ := k2; exact DataW.trod_lt m _ _ _ hm
  obtain ⟨a2, rfl, _, _, w2⟩ := open_int Tryz.underlying3 (hval 2 3 v2 rfl rfl) h2
  have k3 := h3
  have lt3 : ∀ x ∈ p3, x.block < W.heap.size := by obtain ⟨m, hm⟩ := k3; exact DataW.trod_lt m _ _ _ hm
  obtain ⟨cs3, ⟨a3_0, l3_1⟩, e3, hK3, g3⟩ := Opn.open_struct (K := Kd.iso (Kd.pair (Kd.int .i64) ((Kd.slice 26 k26))) id) Tryz.underlying24 (Opn.opens_struct2 (fun x0 x1 => (x0, x1)) (fun _ _ => rfl) Tryz.underlying24 (by kernel_rfl) (by kernel_rfl) (Opn.opens_int Tryz.underlying3) (Opn.opens_slice Tryz.underlying22 (by kernel_rfl) (B := 32) (by kernel_rfl) opens26)) (hval 3 24 v3 rfl rfl) h3 (Opn.weighs hsz (j := 3) rfl rfl)
  obtain ⟨_, _, rfl, rfl, ⟨A3_1, c3_1, rfl, hc3_1, hr3_1⟩⟩ := hK3
  obtain rfl : v3 = .agg #[.int .i64 a3_0, .slice A3_1 l3_1.length c3_1] := e3
  have k4 := h4
  have lt4 : ∀ x ∈ p4, x.block < W.heap.size := by obtain ⟨m, hm⟩ := k4; exact DataW.trod_lt m _ _ _ hm
  obtain ⟨cs4, ⟨a4_0, l4_1⟩, e4, hK4, g4⟩ := Opn.open_struct (K := Kd.iso (Kd.pair (Kd.int .i64) ((Kd.slice 26 k26))) id) Tryz.underlying24 (Opn.opens_struct2 (fun x0 x1 => (x0, x1)) (fun _ _ => rfl) Tryz.underlying24 (by kernel_rfl) (by kernel_rfl) (Opn.opens_int Tryz.underlying3) (Opn.opens_slice Tryz.underlying22 (by kernel_rfl) (B := 32) (by kernel_rfl) opens26)) (hval 4 24 v4 rfl rfl) h4 (Opn.weighs hsz (j := 4) rfl rfl)
  obtain ⟨_, _, rfl, rfl, ⟨A4_1, c4_1, rfl, hc4_1, hr4_1⟩⟩ := hK4
  obtain rfl : v4 = .agg #[.int .i64 a4_0, .slice A4_1 l4_1.length c4_1] := e4
  have k5 := h5
  have lt5 : ∀ x ∈ p5, x.block < W.heap.size := by obtain ⟨m, hm⟩ := k5; exact DataW.trod_lt m _ _ _ hm
  obtain ⟨cs5, ⟨a5_0, a5_1, a5_2, a5_3⟩, e5, hK5, g5⟩ := Opn.open_struct (K := Kd.iso (Kd.pair (Kd.int .i64) (Kd.pair (Kd.int .i64) (Kd.pair (Kd.int .i64) ((Kd.int .i64))))) id) Tryz.underlying26 (Opn.opens_struct4 (fun x0 x1 x2 x3 => (x0, x1, x2, x3)) (fun _ _ _ _ => rfl) Tryz.underlying26 (by kernel_rfl) (by kernel_rfl) (Opn.opens_int Tryz.underlying3) (Opn.opens_int Tryz.underlying3) (Opn.opens_int Tryz.underlying3) (Opn.opens_int Tryz.underlying3)) (hval 5 26 v5 rfl rfl) h5 (Opn.weighs hsz (j := 5) rfl rfl)
  obtain ⟨_, _, rfl, rfl, ⟨_, _, rfl, rfl, ⟨_, _, rfl, rfl, rfl⟩⟩⟩ := hK5
  obtain rfl : v5 = .agg #[.int .i64 a5_0, .int .i64 a5_1, .int .i64 a5_2, .int .i64 a5_3] := e5
  have k6 := h6
  have lt6 : ∀ x ∈ p6, x.block < W.heap.size := by obtain ⟨m, hm⟩ := k6; exact DataW.trod_lt m _ _ _ hm
  obtain ⟨cs6, ⟨a6_0, l6_1⟩, e6, hK6, g6⟩ := Opn.open_struct (K := Kd.iso (Kd.pair (Kd.int .i64) ((Kd.slice 26 k26))) id) Tryz.underlying24 (Opn.opens_struct2 (fun x0 x1 => (x0, x1)) (fun _ _ => rfl) Tryz.underlying24 (by kernel_rfl) (by kernel_rfl) (Opn.opens_int Tryz.underlying3) (Opn.opens_slice Tryz.underlying22 (by kernel_rfl) (B := 32) (by kernel_rfl) opens26)) (hval 6 24 v6 rfl rfl) h6 (Opn.weighs hsz (j := 6) rfl rfl)
  obtain ⟨_, _, rfl, rfl, ⟨A6_1, c6_1, rfl, hc6_1, hr6_1⟩⟩ := hK6
  obtain rfl : v6 = .agg #[.int .i64 a6_0, .slice A6_1 l6_1.length c6_1] := e6
  have k7 := h7
  have lt7 : ∀ x ∈ p7, x.block < W.heap.size := by obtain ⟨m, hm⟩ := k7; exact DataW.trod_lt m _ _ _ hm
  obtain ⟨a7, rfl, _, _, w7⟩ := open_int Tryz.underlying3 (hval 7 3 v7 rfl rfl) h7
  have k8 := h8
  have lt8 : ∀ x ∈ p8, x.block < W.heap.size := by obtain ⟨m, hm⟩ := k8; exact DataW.trod_lt m _ _ _ hm
  obtain ⟨cs8, ⟨a8_0, a8_1, a8_2, a8_3⟩, e8, hK8, g8⟩ := Opn.open_struct (K := Kd.iso (Kd.pair (Kd.int .i64) (Kd.pair (Kd.int .i64) (Kd.pair (Kd.int .i64) ((Kd.int .i64))))) id) Tryz.underlying26 (Opn.opens_struct4 (fun x0 x1 x2 x3 => (x0, x1, x2, x3)) (fun _ _ _ _ => rfl) Tryz.underlying26 (by kernel_rfl) (by kernel_rfl) (Opn.opens_int Tryz.underlying3) (Opn.opens_int Tryz.underlying3) (Opn.opens_int Tryz.underlying3) (Opn.opens_int Tryz.underlying3)) (hval 8 26 v8 rfl rfl) h8 (Opn.weighs hsz (j := 8) rfl rfl)
  obtain ⟨_, _, rfl, rfl, ⟨_, _, rfl, rfl, ⟨_, _, rfl, rfl, rfl⟩⟩⟩ := hK8
  obtain rfl : v8 = .agg #[.int .i64 a8_0, .int .i64 a8_1, .int .i64 a8_2, .int .i64 a8_3] := e8
  have k9 := h9
  have lt9 : ∀ x ∈ p9, x.block < W.heap.size := by obtain ⟨m, hm⟩ := k9; exact DataW.trod_lt m _ _ _ hm
  obtain ⟨a9, rfl, rfl, _, y9⟩ := open_string Tryz.underlying9 (hval 9 9 v9 rfl rfl) h9
  have z9 : a9.size ≤ 140737488351232 := by have z := sized_string hsz (j := 9) (t := 9) rfl rfl; rw [Array.length_toList] at z; exact z
  have k10 := h10
  have lt10 : ∀ x ∈ p10, x.block < W.heap.size := by obtain ⟨m, hm⟩ := k10; exact DataW.trod_lt m _ _ _ hm
  obtain ⟨a10, rfl, _, _, w10⟩ := open_int Tryz.underlying3 (hval 10 3 v10 rfl rfl) h10
  have k11 := h11
  have lt11 : ∀ x ∈ p11, x.block < W.heap.size := by obtain ⟨m, hm⟩ := k11; exact DataW.trod_lt m _ _ _ hm
  obtain ⟨cs11, ⟨a11_0, a11_1, a11_2, a11_3⟩, e11, hK11, g11⟩ := Opn.open_struct (K := Kd.iso (Kd.pair (Kd.int .i64) (Kd.pair (Kd.int .i64) (Kd.pair (Kd.int .i64) ((Kd.int .i64))))) id) Tryz.underlying26 (Opn.opens_struct4 (fun x0 x1 x2 x3 => (x0, x1, x2, x3)) (fun _ _ _ _ => rfl) Tryz.underlying26 (by kernel_rfl) (by kernel_rfl) (Opn.opens_int Tryz.underlying3) (Opn.opens_int Tryz.underlying3) (Opn.opens_int Tryz.underlying3) (Opn.opens_int Tryz.underlying3)) (hval 11 26 v11 rfl rfl) h11 (Opn.weighs hsz (j := 11) rfl rfl)
  obtain ⟨_, _, rfl, rfl, ⟨_, _, rfl, rfl, ⟨_, _, rfl, rfl, rfl⟩⟩⟩ := hK11
  obtain rfl : v11 = .agg #[.int .i64 a11_0, .int .i64 a11_1, .int .i64 a11_2, .int .i64 a11_3] := e11
  clear hA0 hval0 hsz0 hsz
  obtain ⟨k_, hk_⟩ := Pure.FnRowsHiddenOfAll a0 a1 a2 a3_0 l3_1 a4_0 l4_1 a5_0 a5_1 a5_2 a5_3 a6_0 l6_1 a7 a8_0 a8_1 a8_2 a8_3 a9 a10 a11_0 a11_1 a11_2 a11_3 z0 (Opn.i64_of w1) (Opn.i64_of w2) (Opn.i64_of g3.1) g3.2.1 (fun x hx => ⟨(Opn.i64_of (g3.2.2 x hx).1), (Opn.i64_of (g3.2.2 x hx).2.1), (Opn.i64_of (g3.2.2 x hx).2.2.1), (Opn.i64_of (g3.2.2 x hx).2.2.2)⟩) (Opn.i64_of g4.1) g4.2.1 (fun x hx => ⟨(Opn.i64_of (g4.2.2 x hx).1), (Opn.i64_of (g4.2.2 x hx).2.1), (Opn.i64_of (g4.2.2 x hx).2.2.1), (Opn.i64_of (g4.2.2 x hx).2.2.2)⟩) (Opn.i64_of g5.1) (Opn.i64_of g5.2.1) (Opn.i64_of g5.2.2.1) (Opn.i64_of g5.2.2.2) (Opn.i64_of g6.1) g6.2.1 (fun x hx => ⟨(Opn.i64_of (g6.2.2 x hx).1), (Opn.i64_of (g6.2.2 x hx).2.1), (Opn.i64_of (g6.2.2 x hx).2.2.1), (Opn.i64_of (g6.2.2 x hx).2.2.2)⟩) (Opn.i64_of w7) (Opn.i64_of g8.1) (Opn.i64_of g8.2.1) (Opn.i64_of g8.2.2.1) (Opn.i64_of g8.2.2.2) z9 (Opn.i64_of w10) (Opn.i64_of g11.1) (Opn.i64_of g11.2.1) (Opn.i64_of g11.2.2.1) (Opn.i64_of g11.2.2.2)
  refine (laws_FnRowsHiddenOfAll.calls k_ a0 a1 a2 a3_0 A3_1 c3_1 l3_1 a4_0 A4_1 c4_1 l4_1 a5_0 a5_1 a5_2 a5_3 a6_0 A6_1 c6_1 l6_1 a7 a8_0 a8_1 a8_2 a8_3 a9 a10 a11_0 a11_1 a11_2 a11_3 true W hTab hr3_1 hc3_1 hr4_1 hc4_1 hr6_1 hc6_1 rfl hk_).mono fun e W' ⟨he, bel0⟩ => ?_
  have bel : Below W.heap.size W W' := bel0
  subst he
  exact ⟨_, rfl, _, _, _, [], _, [], hW', trodAll_mk1 (shut_bool Tryz.underlying4 _), (trodAll_cons_mk (Below.trod laidOut (by kernel_rfl) (of_decide_eq_true (by kernel_rfl)) k0 bel lt0) (trodAll_cons_mk (Below.trod laidOut (by kernel_rfl) (of_decide_eq_true (by kernel_rfl)) k1 bel lt1) (trodAll_cons_mk (Below.trod laidOut (by kernel_rfl) (of_decide_eq_true (by kernel_rfl)) k2 bel lt2) (trodAll_cons_mk (Below.trod laidOut (by kernel_rfl) (of_decide_eq_true (by kernel_rfl)) k3 bel lt3) (trodAll_cons_mk (Below.trod laidOut (by kernel_rfl) (of_decide_eq_true (by kernel_rfl)) k4 bel lt4) (trodAll_cons_mk (Below.trod laidOut (by kernel_rfl) (of_decide_eq_true (by kernel_rfl)) k5 bel lt5) (trodAll_cons_mk (Below.trod laidOut (by kernel_rfl) (of_decide_eq_true (by kernel_rfl)) k6 bel lt6) (trodAll_cons_mk (Below.trod laidOut (by kernel_rfl) (of_decide_eq_true (by kernel_rfl)) k7 bel lt7) (trodAll_cons_mk (Below.trod laidOut (by kernel_rfl) (of_decide_eq_true (by kernel_rfl)) k8 bel lt8) (trodAll_cons_mk (Below.trod laidOut (by kernel_rfl) (of_decide_eq_true (by kernel_rfl)) k9 bel lt9) (trodAll_cons_mk (Below.trod laidOut (by kernel_rfl) (of_decide_eq_true (by kernel_rfl)) k10 bel lt10) (trodAll_cons_mk (Below.trod laidOut (by kernel_rfl) (of_decide_eq_true (by kernel_rfl)) k11 bel lt11) trodAll_mk0)))))))))))), rfl, bel.frame _, fun h => by cases h⟩
theorem over : Rows.fnRowsHiddenOfAllRow.holds Tryz.pinned (OpenSpec.ofChange Rows.fnRowsHiddenOfAllSpec) :=
  OpenClaim.holds_of_wide 3 Tryz.f3 rfl rfl rfl rfl rfl rfl rfl ⟨rfl, rfl, rfl, rfl, rfl⟩ rfl rfl rfl rfl rfl (by kernel_rfl) Tryz.func3 (by kernel_rfl)
    (of_decide_eq_true (by kernel_rfl)) (by unfold Func.isWrapper; first | (rw [if_pos (by decide +kernel)]; kernel_rfl) | (rw [if_neg (by decide +kernel)]; exact ⟨rfl, rfl⟩))
    (fun os started H enc _ => lifted os started H enc)
theorem cardOver : Rows.FnRowsHiddenOfAllCardSaid := by
  unfold Rows.FnRowsHiddenOfAllCardSaid Rows.fnRowsHiddenOfAllCard
  exact Claim7.holds_tied_plain_at .later [] _ _ _ _
    over (fun _ h => by cases h) (by kernel_rfl) (fun _ h => by cases h) fnRowsHiddenOfAll_row_tie rfl ⟨rfl, rfl⟩ (by kernel_rfl) rfl
    (fun f fn hf hfn => by
      obtain rfl : f = 3 := Option.some.inj ((show Tryz.prog.funcNamed Rows.fnRowsHiddenOfAllRow.func = some 3 by kernel_rfl).symm.trans hf) |>.symm
      obtain rfl : fn = Tryz.f3 := (Option.some.inj (Tryz.func3.symm.trans hfn)).symm
      exact ⟨by kernel_rfl, fun j t ht => by
        rw [Tryz.params3] at ht
        have hm : t ∈ [9, 3, 3, 24, 24, 26, 24, 3, 26, 9, 3, 26] := by simpa using Array.mem_of_getElem? ht
        have hall : ([9, 3, 3, 24, 24, 26, 24, 3, 26, 9, 3, 26].all fun u => !Tryz.prog.wantsStandIn u) = true := by kernel_rfl
        exact (show Tryz.prog.wantsStandIn t = false by simpa using List.all_eq_true.1 hall t hm)⟩)
    (by kernel_rfl)
end Go.Proofs.YtonhhfhlhlifcaaGreatDoor.fnRowsHiddenOfAll
namespace Go.Proofs.YtonhhfhlhlifcaaGreatDoor
/-- The row, under a short name, for the claim. -/
theorem fnRowsHiddenOfAll_holds : Rows.FnRowsHiddenOfAllCardSaid := fnRowsHiddenOfAll.cardOver
#print axioms fnRowsHiddenOfAll_holds
end Go.Proofs.YtonhhfhlhlifcaaGreatDoor
