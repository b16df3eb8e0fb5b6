/- The row of the law FnSignalsReachOfAll, out of its pure statement. No condition. Written by rowgen.py, a program of this session. -/
import Derived.Test.YtefihklpegcmpaaGreatDoorDr
import Derived.Test.YtefihklpegcmpaaGreatDoorTie
import Derived.Test.YtefihklpegcmpaaGreatDoorCards
import Derived.Test.YtefihklpegcmpaaGreatDoorRows
import Derived.Test.YtefihklpegcmpaaGreatDoorOpn
import Derived.Test.YtefihklpegcmpaaGreatDoorPFnSignalsReachOfAllx16
import Derived.Test.YtefihklpegcmpaaGreatDoorPureFnSignalsReachOfAll
import Derived.WalkKit
import Derived.ProofKit
import Derived.OpenShut
import Derived.ShutString
import Derived.ChangeOld
import Derived.Below
import Derived.Carry
import Derived.SizedLaws
namespace Go.Proofs.YtefihklpegcmpaaGreatDoor.fnSignalsReachOfAll
open Go.ChangeShapes Go.WideShapes Go.ChangeAt Go.RowKit
open Go.ChangeMaps (open_string shut_string)
open Go.Proofs.YtefihklpegcmpaaGreatDoor.PFnSignalsReachOfAll Go.Proofs.YtefihklpegcmpaaGreatDoorW.PrintWords
set_option linter.unusedVariables false
theorem own : ownKnob Tryz.prog.godebug = none := by kernel_rfl
theorem laidOut : laidOutB Tryz.prog = true := by kernel_rfl
theorem opens25 : Opn.Opens Tryz.prog k25 25 (fun x => ((Lit.int .i64 x.f0).wf = true ∧ True ∧ (Lit.int .i64 x.f2).wf = true)) := Opn.opens_struct3 (fun x0 x1 x2 => (⟨x0, x1, x2⟩ : S25)) (fun _ _ _ => rfl) Tryz.underlying25 (by kernel_rfl) (by kernel_rfl) (Opn.opens_int Tryz.underlying3) (Opn.opens_bool Tryz.underlying4) (Opn.opens_int Tryz.underlying3)
set_option maxRecDepth 100000 in
theorem lifted (os : Os) (started : os.Started) (H : Type) (enc : TypeId × Value → H) :
    ReturnsInHanded {} Tryz.checked os 3 .any (fun w args => (Rows.fnSignalsReachOfAllSpec.pre enc Tryz.prog Tryz.f3 [] false w args ∧ laidMetH Tryz.prog Dr.list w) ∧ sizedMet enc Tryz.prog Tryz.f3 (OpenSpec.ofChange Rows.fnSignalsReachOfAllSpec) false w args) (Rows.fnSignalsReachOfAllSpec.post enc Tryz.prog Tryz.f3 false true false false) := by
  refine Dr.wrap (C := Tryz.checked) (X := fun w _ => laidMetH Tryz.prog Dr.list w) (fun _ _ _ hh h => h.of_heap hh) own started (by kernel_rfl) Tryz.func3
    (ChangeSpec.witness_shaped (enc := enc) (C := Tryz.checked) (os := os) (X := fun w _ => laidMetH Tryz.prog Dr.list w) false (Dr.world os) #[.int .i64 0, .slice none 0 0, .int .i64 0, .int .i64 0, .slice none 0 0, .int .i64 0, .int .i64 0, .int .i64 0, .int .i64 0, .int .i64 0, .agg #[.int .i64 0, .bool false, .int .i64 0], .string ByteArray.empty] 8 rfl (Dr.shaped os _) (by kernel_rfl) (by kernel_rfl) (by kernel_rfl) (Dr.met os _)) ?_
  intro W base args ds gs before hval0 hW hsz0 hL hsh
  have hTab : Dr.Tab W := Dr.Tab.first hsh hL
  have hval : ∀ (j : Nat) t v, Tryz.f3.params[j]? = some t → args[j]? = some v → Value.okWide Tryz.prog W .any base t v := hval0
  have hsz : (DataW.weightsEach Tryz.prog (Tryz.f3.params.toList ++ Rows.fnSignalsReachOfAllSpec.plain.varTypes Tryz.prog) (ds ++ gs)).all (· ≤ reachBytes) = true := hsz0
  have hW' := hW
  obtain ⟨p, q, hA0, hV, rfl, hfz, hnd⟩ := hW
  have hA : DataW.TrodAll enc Tryz.prog W 0 (fun _ => true) true Tryz.f3.params.toList args.toList ds p := hA0
  rw [Tryz.params3] at hA hval hsz
  obtain ⟨v0, vs0, d0, ds0, p0, q0, hargs, rfl, rfl, h0, r0⟩ := trodAll_cons hA
  obtain ⟨v1, vs1, d1, ds1, p1, q1, rfl, rfl, rfl, h1, r1⟩ := trodAll_cons r0
  obtain ⟨v2, vs2, d2, ds2, p2, q2, rfl, rfl, rfl, h2, r2⟩ := trodAll_cons r1
  obtain ⟨v3, vs3, d3, ds3, p3, q3, rfl, rfl, rfl, h3, r3⟩ := trodAll_cons r2
  obtain ⟨v4, vs4, d4, ds4, p4, q4, rfl, rfl, rfl, h4, r4⟩ := trodAll_cons r3
  obtain ⟨v5, vs5, d5, ds5, p5, q5, rfl, rfl, rfl, h5, r5⟩ := trodAll_cons r4
  obtain ⟨v6, vs6, d6, ds6, p6, q6, rfl, rfl, rfl, h6, r6⟩ := trodAll_cons r5
  obtain ⟨v7, vs7, d7, ds7, p7, q7, rfl, rfl, rfl, h7, r7⟩ := trodAll_cons r6
  obtain ⟨v8, vs8, d8, ds8, p8, q8, rfl, rfl, rfl, h8, r8⟩ := trodAll_cons r7
  obtain ⟨v9, vs9, d9, ds9, p9, q9, rfl, rfl, rfl, h9, r9⟩ := trodAll_cons r8
  obtain ⟨v10, vs10, d10, ds10, p10, q10, rfl, rfl, rfl, h10, r10⟩ := trodAll_cons r9
  obtain ⟨v11, vs11, d11, ds11, p11, q11, rfl, rfl, rfl, h11, r11⟩ := trodAll_cons r10
  obtain ⟨rfl, rfl, rfl⟩ := trodAll_nil r11
  obtain rfl : args = #[v0, v1, v2, v3, v4, v5, v6, v7, v8, v9, v10, v11] := by cases args; simp_all
  obtain ⟨rfl, rfl⟩ := trodVars_none hV
  have k0 := h0
  have lt0 : ∀ x ∈ p0, x.block < W.heap.size := by obtain ⟨m, hm⟩ := k0; exact DataW.trod_lt m _ _ _ hm
  obtain ⟨a0, rfl, _, _, w0⟩ := open_int Tryz.underlying3 (hval 0 3 v0 rfl rfl) h0
  have k1 := h1
  have lt1 : ∀ x ∈ p1, x.block < W.heap.size := by obtain ⟨m, hm⟩ := k1; exact DataW.trod_lt m _ _ _ hm
  obtain ⟨l1, A1, c1, rfl, hc1, hr1, g1⟩ := Opn.open_row Tryz.underlying22 (Opn.opens_slice Tryz.underlying22 (by kernel_rfl) (B := 24) (by kernel_rfl) opens25) (hval 1 22 v1 rfl rfl) h1 (Opn.weighs hsz (j := 1) rfl rfl)
  have k2 := h2
  have lt2 : ∀ x ∈ p2, x.block < W.heap.size := by obtain ⟨m, hm⟩ := k2; exact DataW.trod_lt m _ _ _ hm
  obtain ⟨a2, rfl, _, _, w2⟩ := open_int Tryz.underlying3 (hval 2 3 v2 rfl rfl) h2
  have k3 := h3
  have lt3 : ∀ x ∈ p3, x.block < W.heap.size := by obtain ⟨m, hm⟩ := k3; exact DataW.trod_lt m _ _ _ hm
  obtain ⟨a3, rfl, _, _, w3⟩ := open_int Tryz.underlying3 (hval 3 3 v3 rfl rfl) h3
  have k4 := h4
  have lt4 : ∀ x ∈ p4, x.block < W.heap.size := by obtain ⟨m, hm⟩ := k4; exact DataW.trod_lt m _ _ _ hm
  obtain ⟨l4, A4, c4, rfl, hc4, hr4, g4⟩ := Opn.open_row Tryz.underlying23 (Opn.opens_slice Tryz.underlying23 (by kernel_rfl) (B := 8) (by kernel_rfl) (Opn.opens_int Tryz.underlying3)) (hval 4 23 v4 rfl rfl) h4 (Opn.weighs hsz (j := 4) rfl rfl)
  have k5 := h5
  have lt5 : ∀ x ∈ p5, x.block < W.heap.size := by obtain ⟨m, hm⟩ := k5; exact DataW.trod_lt m _ _ _ hm
  obtain ⟨a5, rfl, _, _, w5⟩ := open_int Tryz.underlying3 (hval 5 3 v5 rfl rfl) h5
  have k6 := h6
  have lt6 : ∀ x ∈ p6, x.block < W.heap.size := by obtain ⟨m, hm⟩ := k6; exact DataW.trod_lt m _ _ _ hm
  obtain ⟨a6, rfl, _, _, w6⟩ := open_int Tryz.underlying3 (hval 6 3 v6 rfl rfl) h6
  have k7 := h7
  have lt7 : ∀ x ∈ p7, x.block < W.heap.size := by obtain ⟨m, hm⟩ := k7; exact DataW.trod_lt m _ _ _ hm
  obtain ⟨a7, rfl, _, _, w7⟩ := open_int Tryz.underlying3 (hval 7 3 v7 rfl rfl) h7
  have k8 := h8
  have lt8 : ∀ x ∈ p8, x.block < W.heap.size := by obtain ⟨m, hm⟩ := k8; exact DataW.trod_lt m _ _ _ hm
  obtain ⟨a8, rfl, _, _, w8⟩ := open_int Tryz.underlying3 (hval 8 3 v8 rfl rfl) h8
  have k9 := h9
  have lt9 : ∀ x ∈ p9, x.block < W.heap.size := by obtain ⟨m, hm⟩ := k9; exact DataW.trod_lt m _ _ _ hm
  obtain ⟨a9, rfl, _, _, w9⟩ := open_int Tryz.underlying3 (hval 9 3 v9 rfl rfl) h9
  have k10 := h10
  have lt10 : ∀ x ∈ p10, x.block < W.heap.size := by obtain ⟨m, hm⟩ := k10; exact DataW.trod_lt m _ _ _ hm
  obtain ⟨cs10, ⟨a10_0, a10_1, a10_2⟩, e10, hK10, g10⟩ := Opn.open_struct (K := Kd.iso (Kd.pair (Kd.int .i64) (Kd.pair Kd.bool ((Kd.int .i64)))) id) Tryz.underlying25 (Opn.opens_struct3 (fun x0 x1 x2 => (x0, x1, x2)) (fun _ _ _ => rfl) Tryz.underlying25 (by kernel_rfl) (by kernel_rfl) (Opn.opens_int Tryz.underlying3) (Opn.opens_bool Tryz.underlying4) (Opn.opens_int Tryz.underlying3)) (hval 10 25 v10 rfl rfl) h10 (Opn.weighs hsz (j := 10) rfl rfl)
  obtain ⟨_, _, rfl, rfl, ⟨_, _, rfl, rfl, rfl⟩⟩ := hK10
  obtain rfl : v10 = .agg #[.int .i64 a10_0, .bool a10_1, .int .i64 a10_2] := e10
  have k11 := h11
  have lt11 : ∀ x ∈ p11, x.block < W.heap.size := by obtain ⟨m, hm⟩ := k11; exact DataW.trod_lt m _ _ _ hm
  obtain ⟨a11, rfl, rfl, _, y11⟩ := open_string Tryz.underlying9 (hval 11 9 v11 rfl rfl) h11
  have z11 : a11.size ≤ 140737488351232 := by have z := sized_string hsz (j := 11) (t := 9) rfl rfl; rw [Array.length_toList] at z; exact z
  clear hA0 hval0 hsz0 hsz
  obtain ⟨k_, hk_⟩ := Pure.FnSignalsReachOfAll a0 l1 a2 a3 l4 a5 a6 a7 a8 a9 a10_0 a10_1 a10_2 a11 (Opn.i64_of w0) g1.1 (fun x hx => ⟨(Opn.i64_of (g1.2 x hx).1), (Opn.i64_of (g1.2 x hx).2.2)⟩) (Opn.i64_of w2) (Opn.i64_of w3) g4.1 (fun x hx => (Opn.i64_of (g4.2 x hx))) (Opn.i64_of w5) (Opn.i64_of w6) (Opn.i64_of w7) (Opn.i64_of w8) (Opn.i64_of w9) (Opn.i64_of g10.1) (Opn.i64_of g10.2.2) z11
  refine (laws_FnSignalsReachOfAll.calls k_ a0 A1 c1 l1 a2 a3 A4 c4 l4 a5 a6 a7 a8 a9 a10_0 a10_1 a10_2 a11 true W hTab hr1 hc1 hr4 hc4 rfl hk_).mono fun e W' ⟨he, bel0⟩ => ?_
  have bel : Below W.heap.size W W' := bel0
  subst he
  exact ⟨_, rfl, _, _, _, [], _, [], hW', trodAll_mk1 (shut_bool Tryz.underlying4 _), (trodAll_cons_mk (Below.trod laidOut (by kernel_rfl) (of_decide_eq_true (by kernel_rfl)) k0 bel lt0) (trodAll_cons_mk (Below.trod laidOut (by kernel_rfl) (of_decide_eq_true (by kernel_rfl)) k1 bel lt1) (trodAll_cons_mk (Below.trod laidOut (by kernel_rfl) (of_decide_eq_true (by kernel_rfl)) k2 bel lt2) (trodAll_cons_mk (Below.trod laidOut (by kernel_rfl) (of_decide_eq_true (by kernel_rfl)) k3 bel lt3) (trodAll_cons_mk (Below.trod laidOut (by kernel_rfl) (of_decide_eq_true (by kernel_rfl)) k4 bel lt4) (trodAll_cons_mk (Below.trod laidOut (by kernel_rfl) (of_decide_eq_true (by kernel_rfl)) k5 bel lt5) (trodAll_cons_mk (Below.trod laidOut (by kernel_rfl) (of_decide_eq_true (by kernel_rfl)) k6 bel lt6) (trodAll_cons_mk (Below.trod laidOut (by kernel_rfl) (of_decide_eq_true (by kernel_rfl)) k7 bel lt7) (trodAll_cons_mk (Below.trod laidOut (by kernel_rfl) (of_decide_eq_true (by kernel_rfl)) k8 bel lt8) (trodAll_cons_mk (Below.trod laidOut (by kernel_rfl) (of_decide_eq_true (by kernel_rfl)) k9 bel lt9) (trodAll_cons_mk (Below.trod laidOut (by kernel_rfl) (of_decide_eq_true (by kernel_rfl)) k10 bel lt10) (trodAll_cons_mk (Below.trod laidOut (by kernel_rfl) (of_decide_eq_true (by kernel_rfl)) k11 bel lt11) trodAll_mk0)))))))))))), rfl, bel.frame _, fun h => by cases h⟩
theorem over : Rows.fnSignalsReachOfAllRow.holds Tryz.pinned (OpenSpec.ofChange Rows.fnSignalsReachOfAllSpec) :=
  OpenClaim.holds_of_wide 3 Tryz.f3 rfl rfl rfl rfl rfl rfl rfl ⟨rfl, rfl, rfl, rfl, rfl⟩ rfl rfl rfl rfl rfl (by kernel_rfl) Tryz.func3 (by kernel_rfl)
    (of_decide_eq_true (by kernel_rfl)) (by unfold Func.isWrapper; first | (rw [if_pos (by decide +kernel)]; kernel_rfl) | (rw [if_neg (by decide +kernel)]; exact ⟨rfl, rfl⟩))
    (fun os started H enc _ => lifted os started H enc)
theorem cardOver : Rows.FnSignalsReachOfAllCardSaid := by
  unfold Rows.FnSignalsReachOfAllCardSaid Rows.fnSignalsReachOfAllCard
  exact Claim7.holds_tied_plain_at .later [] _ _ _ _
    over (fun _ h => by cases h) (by kernel_rfl) (fun _ h => by cases h) fnSignalsReachOfAll_row_tie rfl ⟨rfl, rfl⟩ (by kernel_rfl) rfl
    (fun f fn hf hfn => by
      obtain rfl : f = 3 := Option.some.inj ((show Tryz.prog.funcNamed Rows.fnSignalsReachOfAllRow.func = some 3 by kernel_rfl).symm.trans hf) |>.symm
      obtain rfl : fn = Tryz.f3 := (Option.some.inj (Tryz.func3.symm.trans hfn)).symm
      exact ⟨by kernel_rfl, fun j t ht => by
        rw [Tryz.params3] at ht
        have hm : t ∈ [3, 22, 3, 3, 23, 3, 3, 3, 3, 3, 25, 9] := by simpa using Array.mem_of_getElem? ht
        have hall : ([3, 22, 3, 3, 23, 3, 3, 3, 3, 3, 25, 9].all fun u => !Tryz.prog.wantsStandIn u) = true := by kernel_rfl
        exact (show Tryz.prog.wantsStandIn t = false by simpa using List.all_eq_true.1 hall t hm)⟩)
    (by kernel_rfl)
end Go.Proofs.YtefihklpegcmpaaGreatDoor.fnSignalsReachOfAll
namespace Go.Proofs.YtefihklpegcmpaaGreatDoor
/-- The row, under a short name, for the claim. -/
theorem fnSignalsReachOfAll_holds : Rows.FnSignalsReachOfAllCardSaid := fnSignalsReachOfAll.cardOver
#print axioms fnSignalsReachOfAll_holds
end Go.Proofs.YtefihklpegcmpaaGreatDoor
