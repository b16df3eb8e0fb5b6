/- The row of the law FnExactSureSigns, out of its pure statement. No condition. Written by rowgen.py, a program of this session. -/
import Derived.Test.YtmindeeacfdonaaDoorDr
import Derived.Test.YtmindeeacfdonaaDoorTie
import Derived.Test.YtmindeeacfdonaaDoorCards
import Derived.Test.YtmindeeacfdonaaDoorRows
import Derived.Test.YtmindeeacfdonaaDoorOpn
import Derived.Test.YtmindeeacfdonaaDoorPFnExactSureSignsx9
import Derived.Test.YtmindeeacfdonaaDoorPureFnExactSureSigns
import Derived.WalkKit
import Derived.ProofKit
import Derived.OpenShut
import Derived.ShutString
import Derived.ChangeOld
import Derived.Below
import Derived.Carry
import Derived.SizedLaws
namespace Go.Proofs.YtmindeeacfdonaaDoor.fnExactSureSigns
open Go.ChangeShapes Go.WideShapes Go.ChangeAt Go.RowKit
open Go.ChangeMaps (open_string shut_string)
open Go.Proofs.YtmindeeacfdonaaDoor.PFnExactSureSigns Go.Proofs.YtmindeeacfdonaaDoorW.PrintWords
set_option linter.unusedVariables false
theorem own : ownKnob Tryd.prog.godebug = none := by kernel_rfl
theorem laidOut : laidOutB Tryd.prog = true := by kernel_rfl
theorem opens30 : Opn.Opens Tryd.prog k30 30 (fun x => ((Lit.int .i64 x.f0).wf = true ∧ (Lit.int .i64 x.f1).wf = true ∧ (Lit.int .i64 x.f2).wf = true ∧ (Lit.int .i64 x.f3).wf = true)) := Opn.opens_struct4 (fun x0 x1 x2 x3 => (⟨x0, x1, x2, x3⟩ : S30)) (fun _ _ _ _ => rfl) Tryd.underlying30 (by kernel_rfl) (by kernel_rfl) (Opn.opens_int Tryd.underlying3) (Opn.opens_int Tryd.underlying3) (Opn.opens_int Tryd.underlying3) (Opn.opens_int Tryd.underlying3)
set_option maxRecDepth 100000 in
theorem lifted (os : Os) (started : os.Started) (H : Type) (enc : TypeId × Value → H) :
    ReturnsInHanded {} Tryd.checked os 10 .any (fun w args => (Rows.fnExactSureSignsSpec.pre enc Tryd.prog Tryd.f10 [] false w args ∧ laidMetH Tryd.prog Dr.list w) ∧ sizedMet enc Tryd.prog Tryd.f10 (OpenSpec.ofChange Rows.fnExactSureSignsSpec) false w args) (Rows.fnExactSureSignsSpec.post enc Tryd.prog Tryd.f10 false true false false) := by
  refine Dr.wrap (C := Tryd.checked) (X := fun w _ => laidMetH Tryd.prog Dr.list w) (fun _ _ _ hh h => h.of_heap hh) own started (by kernel_rfl) Tryd.func10
    (ChangeSpec.witness_shaped (enc := enc) (C := Tryd.checked) (os := os) (X := fun w _ => laidMetH Tryd.prog Dr.list w) false (Dr.world os) #[.agg #[.int .i64 0, .slice none 0 0]] 8 rfl (Dr.shaped os _) (by kernel_rfl) (by kernel_rfl) (by kernel_rfl) (Dr.met os _)) ?_
  intro W base args ds gs before hval0 hW hsz0 hL hsh
  have hTab : Dr.Tab W := Dr.Tab.first hsh hL
  have hval : ∀ (j : Nat) t v, Tryd.f10.params[j]? = some t → args[j]? = some v → Value.okWide Tryd.prog W .any base t v := hval0
  have hsz : (DataW.weightsEach Tryd.prog (Tryd.f10.params.toList ++ Rows.fnExactSureSignsSpec.plain.varTypes Tryd.prog) (ds ++ gs)).all (· ≤ reachBytes) = true := hsz0
  have hW' := hW
  obtain ⟨p, q, hA0, hV, rfl, hfz, hnd⟩ := hW
  have hA : DataW.TrodAll enc Tryd.prog W 0 (fun _ => true) true Tryd.f10.params.toList args.toList ds p := hA0
  rw [Tryd.params10] at hA hval hsz
  obtain ⟨v0, vs0, d0, ds0, p0, q0, hargs, rfl, rfl, h0, r0⟩ := trodAll_cons hA
  obtain ⟨rfl, rfl, rfl⟩ := trodAll_nil r0
  obtain rfl : args = #[v0] := by cases args; simp_all
  obtain ⟨rfl, rfl⟩ := trodVars_none hV
  have k0 := h0
  have lt0 : ∀ x ∈ p0, x.block < W.heap.size := by obtain ⟨m, hm⟩ := k0; exact DataW.trod_lt m _ _ _ hm
  obtain ⟨cs0, ⟨a0_0, l0_1⟩, e0, hK0, g0⟩ := Opn.open_struct (K := Kd.iso (Kd.pair (Kd.int .i64) ((Kd.slice 30 k30))) id) Tryd.underlying46 (Opn.opens_struct2 (fun x0 x1 => (x0, x1)) (fun _ _ => rfl) Tryd.underlying46 (by kernel_rfl) (by kernel_rfl) (Opn.opens_int Tryd.underlying3) (Opn.opens_slice Tryd.underlying44 (by kernel_rfl) (B := 32) (by kernel_rfl) opens30)) (hval 0 46 v0 rfl rfl) h0 (Opn.weighs hsz (j := 0) rfl rfl)
  obtain ⟨_, _, rfl, rfl, ⟨A0_1, c0_1, rfl, hc0_1, hr0_1⟩⟩ := hK0
  obtain rfl : v0 = .agg #[.int .i64 a0_0, .slice A0_1 l0_1.length c0_1] := e0
  clear hA0 hval0 hsz0 hsz
  obtain ⟨k_, hk_⟩ := Pure.FnExactSureSigns a0_0 l0_1 (Opn.i64_of g0.1) g0.2.1 (fun x hx => ⟨(Opn.i64_of (g0.2.2 x hx).1), (Opn.i64_of (g0.2.2 x hx).2.1), (Opn.i64_of (g0.2.2 x hx).2.2.1), (Opn.i64_of (g0.2.2 x hx).2.2.2)⟩)
  refine (laws_FnExactSureSigns.calls k_ a0_0 A0_1 c0_1 l0_1 true W hTab hr0_1 hc0_1 rfl hk_).mono fun e W' ⟨he, bel0⟩ => ?_
  have bel : Below W.heap.size W W' := bel0
  subst he
  exact ⟨_, rfl, _, _, _, [], _, [], hW', trodAll_mk1 (shut_bool Tryd.underlying4 _), (trodAll_cons_mk (Below.trod laidOut (by kernel_rfl) (of_decide_eq_true (by kernel_rfl)) k0 bel lt0) trodAll_mk0), rfl, bel.frame _, fun h => by cases h⟩
theorem over : Rows.fnExactSureSignsRow.holds Tryd.pinned (OpenSpec.ofChange Rows.fnExactSureSignsSpec) :=
  OpenClaim.holds_of_wide 10 Tryd.f10 rfl rfl rfl rfl rfl rfl rfl ⟨rfl, rfl, rfl, rfl, rfl⟩ rfl rfl rfl rfl rfl (by kernel_rfl) Tryd.func10 (by kernel_rfl)
    (of_decide_eq_true (by kernel_rfl)) (by unfold Func.isWrapper; first | (rw [if_pos (by decide +kernel)]; kernel_rfl) | (rw [if_neg (by decide +kernel)]; exact ⟨rfl, rfl⟩))
    (fun os started H enc _ => lifted os started H enc)
theorem cardOver : Rows.FnExactSureSignsCardSaid := by
  unfold Rows.FnExactSureSignsCardSaid Rows.fnExactSureSignsCard
  exact Claim7.holds_tied_plain_at .later [] _ _ _ _
    over (fun _ h => by cases h) (by kernel_rfl) (fun _ h => by cases h) fnExactSureSigns_row_tie rfl ⟨rfl, rfl⟩ (by kernel_rfl) rfl
    (fun f fn hf hfn => by
      obtain rfl : f = 10 := Option.some.inj ((show Tryd.prog.funcNamed Rows.fnExactSureSignsRow.func = some 10 by kernel_rfl).symm.trans hf) |>.symm
      obtain rfl : fn = Tryd.f10 := (Option.some.inj (Tryd.func10.symm.trans hfn)).symm
      exact ⟨by kernel_rfl, fun j t ht => by
        rw [Tryd.params10] at ht
        have hm : t ∈ [46] := by simpa using Array.mem_of_getElem? ht
        have hall : ([46].all fun u => !Tryd.prog.wantsStandIn u) = true := by kernel_rfl
        exact (show Tryd.prog.wantsStandIn t = false by simpa using List.all_eq_true.1 hall t hm)⟩)
    (by kernel_rfl)
end Go.Proofs.YtmindeeacfdonaaDoor.fnExactSureSigns
namespace Go.Proofs.YtmindeeacfdonaaDoor
/-- The row, under a short name, for the claim. -/
theorem fnExactSureSigns_holds : Rows.FnExactSureSignsCardSaid := fnExactSureSigns.cardOver
#print axioms fnExactSureSigns_holds
end Go.Proofs.YtmindeeacfdonaaDoor
