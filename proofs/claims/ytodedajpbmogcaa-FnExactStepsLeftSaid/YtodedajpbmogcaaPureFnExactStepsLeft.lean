/- The program's StepsLeft returns what the reference's returns, for every whole number that an int holds. No further condition. -/
import Derived.Test.YtodedajpbmogcaaPFnExactStepsLeftx1
namespace Go.Proofs.Ytodedajpbmogcaa.Pure
open Go.RowKit Go.Proofs.Ytodedajpbmogcaa.PFnExactStepsLeft Go.Proofs.YtodedajpbmogcaaW.PrintWords Go.Proofs.YtodedajpbmogcaaW.PrintLast

theorem FnExactStepsLeft : laws_FnExactStepsLeft.Pure := by
  intro a0 _
  have e : impl_StepsLeft.f a0 = spec_StepsLeft.f a0 := rfl
  have hs : ∃ v, spec_StepsLeft.f a0 = some v := by
    unfold spec_StepsLeft.f spec_l1In.f
    by_cases h : a0 ≥ 1
    · rw [if_pos h]
      simp only [Option.bind_some]
      split <;> exact ⟨_, rfl⟩
    · rw [if_neg h]
      exact ⟨0, rfl⟩
  obtain ⟨v, hv⟩ := hs
  unfold laws_FnExactStepsLeft.f
  rw [e, hv]
  simp only [Option.bind_some, if_true]

end Go.Proofs.Ytodedajpbmogcaa.Pure
