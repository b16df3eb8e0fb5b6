/- The law FnExactIsClue, pure: both sides ask the same of the numbers. No condition. -/
import Derived.Test.YtocnicmnckilkaaStatFnExactIsClue
namespace Go.Proofs.Ytocnicmnckilkaa.Pure
open Go.RowKit Go.Proofs.Ytocnicmnckilkaa.PFnExactIsClue Go.Proofs.YtocnicmnckilkaaW.PrintWords Go.Proofs.Ytocnicmnckilkaa.Opn
theorem in_eq (a b c : Int) : impl_in.f a b c = some (decide (b ≤ a ∧ a ≤ c)) := by
  unfold impl_in.f; by_cases h : b ≤ a <;> simp [h]
theorem l1In_eq (a b c : Int) : spec_l1In.f a b c = some (decide (b ≤ a ∧ a ≤ c)) := by
  unfold spec_l1In.f; by_cases h : b ≤ a <;> simp [h]
theorem FnExactIsClue : StatFnExactIsClue := by
  intro a0 a1 a2 a3 a4 _ _ _ _ _
  have key : impl_IsClue.f a0 a1 a2 a3 a4 = spec_IsClue.f a0 a1 a2 a3 a4 := by
    unfold impl_IsClue.f spec_IsClue.f impl_isClue.f spec_pzClue.f impl_isHidden.f spec_pzSoldiers.f
    simp only [in_eq, l1In_eq, Option.bind_some]
    by_cases h : decide (1 ≤ a0 ∧ a0 ≤ 8) = true
    · simp only [h, if_true]
    · simp only [h]; rfl
  have tot : ∃ b, spec_IsClue.f a0 a1 a2 a3 a4 = some b := by
    unfold spec_IsClue.f spec_pzClue.f spec_pzSoldiers.f
    simp only [l1In_eq, Option.bind_some]
    repeat' (first | exact ⟨_, rfl⟩ | split)
  obtain ⟨b, hb⟩ := tot
  unfold laws_FnExactIsClue.f laws_toClue.f
  simp [key, hb]
end Go.Proofs.Ytocnicmnckilkaa.Pure
