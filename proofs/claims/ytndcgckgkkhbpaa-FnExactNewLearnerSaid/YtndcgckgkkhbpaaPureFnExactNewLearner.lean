/- The program's NewLearner and the reference's answer alike, and what is returned is new. Conditions: none. -/
import Derived.Test.YtndcgckgkkhbpaaPFnExactNewLearnerx0
import Derived.Test.YtndcgckgkkhbpaaPFnExactNewLearnerx1
import Derived.Test.YtndcgckgkkhbpaaPFnExactNewLearnerx2
import Derived.Test.YtndcgckgkkhbpaaKit
import Derived.WideShapes
import Derived.Laws.Strings
set_option linter.unusedVariables false
set_option linter.unusedSimpArgs false
namespace Go.Proofs.Ytndcgckgkkhbpaa.Pure
open Go.RowKit Go.WideShapes Go.Proofs.Ytndcgckgkkhbpaa.PFnExactNewLearner Go.Proofs.Ytndcgckgkkhbpaa.Kit Go.Proofs.YtndcgckgkkhbpaaW.PrintWords Go.Proofs.YtndcgckgkkhbpaaW.PrintLast
-- USE
theorem FnExactNewLearner (a0 : Int) (h0 : (Lit.int .i64 a0).wf = true) : ∃ k, laws_FnExactNewLearner.f k a0 = some true := by
  by_cases h : 1 ≤ a0 ∧ a0 ≤ 5
  · have h5 : a0 = 1 ∨ a0 = 2 ∨ a0 = 3 ∨ a0 = 4 ∨ a0 = 5 := by omega
    rcases h5 with rfl | rfl | rfl | rfl | rfl
    all_goals exact ⟨80, by decide +kernel⟩
  · refine ⟨80, ?_⟩
    have hs : spec_NewLearner.f 80 a0 = some (0, [], 0, false) := by
      unfold spec_NewLearner.f spec_l1In.f
      by_cases h1 : a0 ≥ 1
      · rw [if_pos h1]
        have h2 : ¬ a0 ≤ 5 := by omega
        simp [h2]
      · rw [if_neg h1]; rfl
    have hi : impl_NewLearner.f 80 a0 = some (0, [], 0, false) := by
      unfold impl_NewLearner.f impl_within.f
      by_cases h1 : 1 ≤ a0
      · rw [if_pos h1]
        have h2 : ¬ a0 ≤ 5 := by omega
        simp [h2]
      · rw [if_neg h1]; rfl
    unfold laws_FnExactNewLearner.f
    rw [hs, hi]
    decide +kernel
end Go.Proofs.Ytndcgckgkkhbpaa.Pure
