/- The row of the law FnExactFirstMeeting, out of its pure statement. No condition. Written by rowgen.py, a program of this session. -/
import Derived.Test.YtocnicmnckilkaaRows
import Derived.Test.YtocnicmnckilkaaOpn
import Derived.Test.YtocnicmnckilkaaPFnExactFirstMeetingx5
import Derived.Test.YtocnicmnckilkaaPureFnExactFirstMeeting
import Derived.WalkKit
import Derived.ProofKit
import Derived.OpenShut
import Derived.ShutString
import Derived.ChangeOld
import Derived.Below
import Derived.Carry
import Derived.SizedLaws
namespace Go.Proofs.Ytocnicmnckilkaa.fnExactFirstMeeting
open Go.ChangeShapes Go.WideShapes Go.ChangeAt Go.RowKit
open Go.ChangeMaps (open_string shut_string)
open Go.Proofs.Ytocnicmnckilkaa.PFnExactFirstMeeting Go.Proofs.YtocnicmnckilkaaW.PrintWords
set_option linter.unusedVariables false
theorem own : ownKnob Try.prog.godebug = none := by kernel_rfl
theorem laidOut : laidOutB Try.prog = true := by kernel_rfl
set_option maxRecDepth 100000 in
theorem lifted (os : Os) (started : os.Started) (H : Type) (enc : TypeId × Value → H) :
    ReturnsInHanded {} Try.checked os 7 .any (Rows.fnExactFirstMeetingSpec.pre6 enc Try.prog Try.f7 Rows.fnExactFirstMeetingRow.domain false) (Rows.fnExactFirstMeetingSpec.post enc Try.prog Try.f7 false true false false) := by
  refine returnsInHanded_of_change_sized (C := Try.checked) own started (by kernel_rfl) Try.func7
    (ChangeSpec.witness6 (enc := enc) (C := Try.checked) false ⟨#[], #[.int .i64 0, .agg #[.int .i64 0, .bool false, .int .i64 0], .agg #[.int .i64 0, .bool false, .int .i64 0]], []⟩ 8 (by kernel_rfl) (by kernel_rfl) (by kernel_rfl) (by kernel_rfl)) ?_
  intro W base args ds gs before hval0 hW hcnd hsz0 _
  have hval : ∀ (j : Nat) t v, Try.f7.params[j]? = some t → args[j]? = some v → Value.okWide Try.prog W .any base t v := hval0
  have hsz : (DataW.weightsEach Try.prog (Try.f7.params.toList ++ Rows.fnExactFirstMeetingSpec.plain.varTypes Try.prog) (ds ++ gs)).all (· ≤ reachBytes) = true := hsz0
  have hW' := hW
  obtain ⟨p, q, hA0, hV, rfl, hfz, hnd⟩ := hW
  have hA : DataW.TrodAll enc Try.prog W 0 (fun _ => true) true Try.f7.params.toList args.toList ds p := hA0
  rw [Try.params7] at hA hval hsz
  obtain ⟨v0, vs0, d0, ds0, p0, q0, hargs, rfl, rfl, h0, r0⟩ := trodAll_cons hA
  obtain ⟨v1, vs1, d1, ds1, p1, q1, rfl, rfl, rfl, h1, r1⟩ := trodAll_cons r0
  obtain ⟨v2, vs2, d2, ds2, p2, q2, rfl, rfl, rfl, h2, r2⟩ := trodAll_cons r1
  obtain ⟨rfl, rfl, rfl⟩ := trodAll_nil r2
  obtain rfl : args = #[v0, v1, v2] := by cases args; simp_all
  obtain ⟨rfl, rfl⟩ := trodVars_none hV
  have k0 := h0
  have lt0 : ∀ x ∈ p0, x.block < W.heap.size := by obtain ⟨m, hm⟩ := k0; exact DataW.trod_lt m _ _ _ hm
  obtain ⟨a0, rfl, _, _, w0⟩ := open_int Try.underlying3 (hval 0 3 v0 rfl rfl) h0
  have k1 := h1
  have lt1 : ∀ x ∈ p1, x.block < W.heap.size := by obtain ⟨m, hm⟩ := k1; exact DataW.trod_lt m _ _ _ hm
  obtain ⟨cs1, ⟨a1_0, a1_1, a1_2⟩, e1, hK1, g1⟩ := Opn.open_struct (K := Kd.iso (Kd.pair (Kd.int .i64) (Kd.pair Kd.bool ((Kd.int .i64)))) id) Try.underlying41 (Opn.opens_struct3 (fun x0 x1 x2 => (x0, x1, x2)) (fun _ _ _ => rfl) Try.underlying41 (by kernel_rfl) (by kernel_rfl) (Opn.opens_int Try.underlying3) (Opn.opens_bool Try.underlying4) (Opn.opens_int Try.underlying3)) (hval 1 41 v1 rfl rfl) h1 (Opn.weighs hsz (j := 1) rfl rfl)
  obtain ⟨_, _, rfl, rfl, ⟨_, _, rfl, rfl, rfl⟩⟩ := hK1
  obtain rfl : v1 = .agg #[.int .i64 a1_0, .bool a1_1, .int .i64 a1_2] := e1
  have k2 := h2
  have lt2 : ∀ x ∈ p2, x.block < W.heap.size := by obtain ⟨m, hm⟩ := k2; exact DataW.trod_lt m _ _ _ hm
  obtain ⟨cs2, ⟨a2_0, a2_1, a2_2⟩, e2, hK2, g2⟩ := Opn.open_struct (K := Kd.iso (Kd.pair (Kd.int .i64) (Kd.pair Kd.bool ((Kd.int .i64)))) id) Try.underlying41 (Opn.opens_struct3 (fun x0 x1 x2 => (x0, x1, x2)) (fun _ _ _ => rfl) Try.underlying41 (by kernel_rfl) (by kernel_rfl) (Opn.opens_int Try.underlying3) (Opn.opens_bool Try.underlying4) (Opn.opens_int Try.underlying3)) (hval 2 41 v2 rfl rfl) h2 (Opn.weighs hsz (j := 2) rfl rfl)
  obtain ⟨_, _, rfl, rfl, ⟨_, _, rfl, rfl, rfl⟩⟩ := hK2
  obtain rfl : v2 = .agg #[.int .i64 a2_0, .bool a2_1, .int .i64 a2_2] := e2
  clear hA0 hval0 hsz0 hsz
  obtain ⟨k_, hk_⟩ := Pure.FnExactFirstMeeting a0 a1_0 a1_1 a1_2 a2_0 a2_1 a2_2 (Opn.i64_of w0) (Opn.i64_of g1.1) (Opn.i64_of g1.2.2) (Opn.i64_of g2.1) (Opn.i64_of g2.2.2)
  refine (laws_FnExactFirstMeeting.calls k_ a0 a1_0 a1_1 a1_2 a2_0 a2_1 a2_2 true W hk_).mono fun e W' ⟨he, bel0⟩ => ?_
  have bel : Below W.heap.size W W' := bel0
  subst he
  exact ⟨_, rfl, _, _, _, [], _, [], hW', trodAll_mk1 (shut_bool Try.underlying4 _), (trodAll_cons_mk (Below.trod laidOut (by kernel_rfl) (of_decide_eq_true (by kernel_rfl)) k0 bel lt0) (trodAll_cons_mk (Below.trod laidOut (by kernel_rfl) (of_decide_eq_true (by kernel_rfl)) k1 bel lt1) (trodAll_cons_mk (Below.trod laidOut (by kernel_rfl) (of_decide_eq_true (by kernel_rfl)) k2 bel lt2) trodAll_mk0))), rfl, bel.frame _, fun h => by cases h⟩
theorem over : Rows.fnExactFirstMeetingRow.holds Try.pinned (OpenSpec.ofChange Rows.fnExactFirstMeetingSpec) :=
  OpenClaim.holds_of_wide 7 Try.f7 rfl rfl rfl rfl rfl rfl rfl ⟨rfl, rfl, rfl, rfl, rfl⟩ rfl rfl rfl rfl rfl (by kernel_rfl) Try.func7 (by kernel_rfl)
    (of_decide_eq_true (by kernel_rfl)) (by unfold Func.isWrapper; first | (rw [if_pos (by decide +kernel)]; kernel_rfl) | (rw [if_neg (by decide +kernel)]; exact ⟨rfl, rfl⟩))
    (fun os started H enc _ => lifted os started H enc)
end Go.Proofs.Ytocnicmnckilkaa.fnExactFirstMeeting
namespace Go.Proofs.Ytocnicmnckilkaa
/-- The row, under a short name, for the claim. -/
theorem fnExactFirstMeeting_holds : Rows.FnExactFirstMeetingSaid := fnExactFirstMeeting.over
#print axioms fnExactFirstMeeting_holds
end Go.Proofs.Ytocnicmnckilkaa
