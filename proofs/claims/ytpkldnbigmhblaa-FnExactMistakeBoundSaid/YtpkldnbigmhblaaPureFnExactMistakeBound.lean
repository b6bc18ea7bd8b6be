/- What is proved: the program's MistakeBound and the reference's give the same number for every int. Conditions: none. -/
import Derived.Test.YtpkldnbigmhblaaPFnExactMistakeBoundx1
namespace Go.Proofs.Ytpkldnbigmhblaa.Pure
open Go.RowKit Go.Proofs.Ytpkldnbigmhblaa.PFnExactMistakeBound Go.Proofs.YtpkldnbigmhblaaW.PrintWords Go.Proofs.YtpkldnbigmhblaaW.PrintLast
theorem FnExactMistakeBound : laws_FnExactMistakeBound.Pure := by
  intro a0 _
  unfold laws_FnExactMistakeBound.f spec_MistakeBound.f impl_MistakeBound.f spec_l1In.f impl_within.f
  by_cases h : (1 : Int) ≤ a0
  · by_cases h5 : a0 ≤ 5 <;> simp [h, h5]
  · simp [h]
end Go.Proofs.Ytpkldnbigmhblaa.Pure
