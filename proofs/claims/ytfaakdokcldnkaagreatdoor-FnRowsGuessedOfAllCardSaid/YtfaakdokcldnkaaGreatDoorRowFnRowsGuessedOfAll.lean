/- The row of the law FnRowsGuessedOfAll, out of its pure statement. No condition. Written by rowgen.py, a program of this session. -/
import Derived.Test.YtfaakdokcldnkaaGreatDoorDr
import Derived.Test.YtfaakdokcldnkaaGreatDoorTie
import Derived.Test.YtfaakdokcldnkaaGreatDoorCards
import Derived.Test.YtfaakdokcldnkaaGreatDoorRows
import Derived.Test.YtfaakdokcldnkaaGreatDoorOpn
import Derived.Test.YtfaakdokcldnkaaGreatDoorPFnRowsGuessedOfAllx22
import Derived.Test.YtfaakdokcldnkaaGreatDoorPureFnRowsGuessedOfAll
import Derived.WalkKit
import Derived.ProofKit
import Derived.OpenShut
import Derived.ShutString
import Derived.ChangeOld
import Derived.Below
import Derived.Carry
import Derived.SizedLaws
namespace Go.Proofs.YtfaakdokcldnkaaGreatDoor.fnRowsGuessedOfAll
open Go.ChangeShapes Go.WideShapes Go.ChangeAt Go.RowKit
open Go.ChangeMaps (open_string shut_string)
open Go.Proofs.YtfaakdokcldnkaaGreatDoor.PFnRowsGuessedOfAll Go.Proofs.YtfaakdokcldnkaaGreatDoorW.PrintWords
set_option linter.unusedVariables false
theorem own : ownKnob Tryz.prog.godebug = none := by kernel_rfl
theorem laidOut : laidOutB Tryz.prog = true := by kernel_rfl
theorem opens42 : Opn.Opens Tryz.prog k42 42 (fun x => ((Lit.int .i64 x.f0).wf = true ∧ (Lit.int .i64 x.f1).wf = true ∧ (Lit.int .i64 x.f2).wf = true ∧ (Lit.int .i64 x.f3).wf = true)) := Opn.opens_struct4 (fun x0 x1 x2 x3 => (⟨x0, x1, x2, x3⟩ : S42)) (fun _ _ _ _ => rfl) Tryz.underlying42 (by kernel_rfl) (by kernel_rfl) (Opn.opens_int Tryz.underlying3) (Opn.opens_int Tryz.underlying3) (Opn.opens_int Tryz.underlying3) (Opn.opens_int Tryz.underlying3)
set_option maxRecDepth 100000 in
theorem lifted (os : Os) (started : os.Started) (H : Type) (enc : TypeId × Value → H) :
    ReturnsInHanded {} Tryz.checked os 3 .any (fun w args => (Rows.fnRowsGuessedOfAllSpec.pre enc Tryz.prog Tryz.f3 [] false w args ∧ laidMetH Tryz.prog Dr.list w) ∧ sizedMet enc Tryz.prog Tryz.f3 (OpenSpec.ofChange Rows.fnRowsGuessedOfAllSpec) false w args) (Rows.fnRowsGuessedOfAllSpec.post enc Tryz.prog Tryz.f3 false true false false) := by
  refine Dr.wrap (C := Tryz.checked) (X := fun w _ => laidMetH Tryz.prog Dr.list w) (fun _ _ _ hh h => h.of_heap hh) own started (by kernel_rfl) Tryz.func3
    (ChangeSpec.witness_shaped (enc := enc) (C := Tryz.checked) (os := os) (X := fun w _ => laidMetH Tryz.prog Dr.list w) false (Dr.world os) #[.agg #[.int .i64 0, .slice none 0 0], .string ByteArray.empty] 8 rfl (Dr.shaped os _) (by kernel_rfl) (by kernel_rfl) (by kernel_rfl) (Dr.met os _)) ?_
  intro W base args ds gs before hval0 hW hsz0 hL hsh
  have hTab : Dr.Tab W := Dr.Tab.first hsh hL
  have hval : ∀ (j : Nat) t v, Tryz.f3.params[j]? = some t → args[j]? = some v → Value.okWide Tryz.prog W .any base t v := hval0
  have hsz : (DataW.weightsEach Tryz.prog (Tryz.f3.params.toList ++ Rows.fnRowsGuessedOfAllSpec.plain.varTypes Tryz.prog) (ds ++ gs)).all (· ≤ reachBytes) = true := hsz0
  have hW' := hW
  obtain ⟨p, q, hA0, hV, rfl, hfz, hnd⟩ := hW
  have hA : DataW.TrodAll enc Tryz.prog W 0 (fun _ => true) true Tryz.f3.params.toList args.toList ds p := hA0
  rw [Tryz.params3] at hA hval hsz
  obtain ⟨v0, vs0, d0, ds0, p0, q0, hargs, rfl, rfl, h0, r0⟩ := trodAll_cons hA
  obtain ⟨v1, vs1, d1, ds1, p1, q1, rfl, rfl, rfl, h1, r1⟩ := trodAll_cons r0
  obtain ⟨rfl, rfl, rfl⟩ := trodAll_nil r1
  obtain rfl : args = #[v0, v1] := by cases args; simp_all
  obtain ⟨rfl, rfl⟩ := trodVars_none hV
  have k0 := h0
  have lt0 : ∀ x ∈ p0, x.block < W.heap.size := by obtain ⟨m, hm⟩ := k0; exact DataW.trod_lt m _ _ _ hm
  obtain ⟨cs0, ⟨a0_0, l0_1⟩, e0, hK0, g0⟩ := Opn.open_struct (K := Kd.iso (Kd.pair (Kd.int .i64) ((Kd.slice 42 k42))) id) Tryz.underlying24 (Opn.opens_struct2 (fun x0 x1 => (x0, x1)) (fun _ _ => rfl) Tryz.underlying24 (by kernel_rfl) (by kernel_rfl) (Opn.opens_int Tryz.underlying3) (Opn.opens_slice Tryz.underlying22 (by kernel_rfl) (B := 32) (by kernel_rfl) opens42)) (hval 0 24 v0 rfl rfl) h0 (Opn.weighs hsz (j := 0) rfl rfl)
  obtain ⟨_, _, rfl, rfl, ⟨A0_1, c0_1, rfl, hc0_1, hr0_1⟩⟩ := hK0
  obtain rfl : v0 = .agg #[.int .i64 a0_0, .slice A0_1 l0_1.length c0_1] := e0
  have k1 := h1
  have lt1 : ∀ x ∈ p1, x.block < W.heap.size := by obtain ⟨m, hm⟩ := k1; exact DataW.trod_lt m _ _ _ hm
  obtain ⟨a1, rfl, rfl, _, y1⟩ := open_string Tryz.underlying9 (hval 1 9 v1 rfl rfl) h1
  have z1 : a1.size ≤ 140737488351232 := by have z := sized_string hsz (j := 1) (t := 9) rfl rfl; rw [Array.length_toList] at z; exact z
  clear hA0 hval0 hsz0 hsz
  obtain ⟨k_, hk_⟩ := Pure.FnRowsGuessedOfAll a0_0 l0_1 a1 (Opn.i64_of g0.1) g0.2.1 (fun x hx => ⟨(Opn.i64_of (g0.2.2 x hx).1), (Opn.i64_of (g0.2.2 x hx).2.1), (Opn.i64_of (g0.2.2 x hx).2.2.1), (Opn.i64_of (g0.2.2 x hx).2.2.2)⟩) z1
  refine (laws_FnRowsGuessedOfAll.calls k_ a0_0 A0_1 c0_1 l0_1 a1 true W hTab hr0_1 hc0_1 rfl hk_).mono fun e W' ⟨he, bel0⟩ => ?_
  have bel : Below W.heap.size W W' := bel0
  subst he
  exact ⟨_, rfl, _, _, _, [], _, [], hW', trodAll_mk1 (shut_bool Tryz.underlying4 _), (trodAll_cons_mk (Below.trod laidOut (by kernel_rfl) (of_decide_eq_true (by kernel_rfl)) k0 bel lt0) (trodAll_cons_mk (Below.trod laidOut (by kernel_rfl) (of_decide_eq_true (by kernel_rfl)) k1 bel lt1) trodAll_mk0)), rfl, bel.frame _, fun h => by cases h⟩
theorem over : Rows.fnRowsGuessedOfAllRow.holds Tryz.pinned (OpenSpec.ofChange Rows.fnRowsGuessedOfAllSpec) :=
  OpenClaim.holds_of_wide 3 Tryz.f3 rfl rfl rfl rfl rfl rfl rfl ⟨rfl, rfl, rfl, rfl, rfl⟩ rfl rfl rfl rfl rfl (by kernel_rfl) Tryz.func3 (by kernel_rfl)
    (of_decide_eq_true (by kernel_rfl)) (by unfold Func.isWrapper; first | (rw [if_pos (by decide +kernel)]; kernel_rfl) | (rw [if_neg (by decide +kernel)]; exact ⟨rfl, rfl⟩))
    (fun os started H enc _ => lifted os started H enc)
theorem cardOver : Rows.FnRowsGuessedOfAllCardSaid := by
  unfold Rows.FnRowsGuessedOfAllCardSaid Rows.fnRowsGuessedOfAllCard
  exact Claim7.holds_tied_plain_at .later [] _ _ _ _
    over (fun _ h => by cases h) (by kernel_rfl) (fun _ h => by cases h) fnRowsGuessedOfAll_row_tie rfl ⟨rfl, rfl⟩ (by kernel_rfl) rfl
    (fun f fn hf hfn => by
      obtain rfl : f = 3 := Option.some.inj ((show Tryz.prog.funcNamed Rows.fnRowsGuessedOfAllRow.func = some 3 by kernel_rfl).symm.trans hf) |>.symm
      obtain rfl : fn = Tryz.f3 := (Option.some.inj (Tryz.func3.symm.trans hfn)).symm
      exact ⟨by kernel_rfl, fun j t ht => by
        rw [Tryz.params3] at ht
        have hm : t ∈ [24, 9] := by simpa using Array.mem_of_getElem? ht
        have hall : ([24, 9].all fun u => !Tryz.prog.wantsStandIn u) = true := by kernel_rfl
        exact (show Tryz.prog.wantsStandIn t = false by simpa using List.all_eq_true.1 hall t hm)⟩)
    (by kernel_rfl)
end Go.Proofs.YtfaakdokcldnkaaGreatDoor.fnRowsGuessedOfAll
namespace Go.Proofs.YtfaakdokcldnkaaGreatDoor
/-- The row, under a short name, for the claim. -/
theorem fnRowsGuessedOfAll_holds : Rows.FnRowsGuessedOfAllCardSaid := fnRowsGuessedOfAll.cardOver
#print axioms fnRowsGuessedOfAll_holds
end Go.Proofs.YtfaakdokcldnkaaGreatDoor
