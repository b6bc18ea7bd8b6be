/- The law FnExactNewLearner as the row states it: out of the pure law (YtndcgckgkkhbpaaPureFnExactNewLearner) and the walk of the law's Go function. Conditions: those of the row alone. -/
import Derived.Test.YtndcgckgkkhbpaaRows
import Derived.Test.YtndcgckgkkhbpaaPFnExactNewLearnerx2
import Derived.Test.YtndcgckgkkhbpaaPureFnExactNewLearner
import Derived.Test.YtndcgckgkkhbpaaOpens
import Derived.WalkKit
import Derived.ProofKit
import Derived.OpenShut
import Derived.ShutString
import Derived.ChangeOld
import Derived.Below
import Derived.SizedLaws
namespace Go.Proofs.Ytndcgckgkkhbpaa.fnExactNewLearner
open Go.ChangeShapes Go.WideShapes Go.ChangeAt Go.RowKit Go.Proofs.Ytndcgckgkkhbpaa.Opens Go.Proofs.YtndcgckgkkhbpaaW.PrintWords Go.Proofs.Ytndcgckgkkhbpaa.PFnExactNewLearner
open Go.ChangeMaps (open_string shut_string)
set_option linter.unusedVariables false
theorem own : ownKnob Try.prog.godebug = none := by kernel_rfl
theorem laidOut : laidOutB Try.prog = true := by kernel_rfl
set_option maxRecDepth 100000 in
theorem lifted (os : Os) (started : os.Started) (H : Type) (enc : TypeId × Value → H) :
    ReturnsInHanded {} Try.checked os 3 .any (Rows.fnExactNewLearnerSpec.pre6 enc Try.prog Try.f3 Rows.fnExactNewLearnerRow.domain false) (Rows.fnExactNewLearnerSpec.post enc Try.prog Try.f3 false true false false) := by
  refine returnsInHanded_of_change_sized (C := Try.checked) own started (by kernel_rfl) Try.func3
    (ChangeSpec.witness6 (enc := enc) (C := Try.checked) false ⟨#[], #[.int .i64 0], []⟩ 8 (by kernel_rfl) (by kernel_rfl) (by kernel_rfl) (by kernel_rfl)) ?_
  intro W base args ds gs before hval0 hW hcnd hsz0 _
  have hval : ∀ (j : Nat) t v, Try.f3.params[j]? = some t → args[j]? = some v → Value.okWide Try.prog W .any base t v := hval0
  have hW' := hW
  obtain ⟨p, q, hA0, hV, rfl, hfz, hnd⟩ := hW
  have hA : DataW.TrodAll enc Try.prog W 0 (fun _ => true) true Try.f3.params.toList args.toList ds p := hA0
  rw [Try.params3] at hA hval
  obtain ⟨v0, vs0, d0, ds0, p0, q0, hargs, rfl, rfl, h0, r0⟩ := trodAll_cons hA
  obtain ⟨rfl, rfl, rfl⟩ := trodAll_nil r0
  obtain rfl : args = #[v0] := by cases args; simp_all
  obtain ⟨rfl, rfl⟩ := trodVars_none hV
  obtain ⟨a0, rfl, rfl, rfl, w0⟩ := open_int Try.underlying3 (hval 0 3 v0 rfl rfl) h0
  clear hA0 hval0 hsz0
  obtain ⟨k, hk⟩ := Pure.FnExactNewLearner a0 w0
  refine (laws_FnExactNewLearner.calls k a0 true W  rfl hk).mono fun e W' ⟨he, bel0⟩ => ?_
  have bel : Below W.heap.size W W' := bel0
  subst he
  exact ⟨_, rfl, _, _, _, [], _, [], hW', trodAll_mk1 (shut_bool Try.underlying4 _), (trodAll_cons_mk (shut_int Try.underlying3 w0) trodAll_mk0), rfl, bel.frame _, fun h => by cases h⟩
theorem funcNamed_ : Try.prog.funcNamed Rows.fnExactNewLearnerRow.func = some 3 := by kernel_rfl
theorem inPlace_ : Try.prog.inPlace 3 = Rows.fnExactNewLearnerRow.inPlace := by kernel_rfl
theorem unfollowed_ : Try.prog.unfollowed 3 = Rows.fnExactNewLearnerRow.unfollowed := by kernel_rfl
theorem recurses_ : Try.prog.recurses 3 = Rows.fnExactNewLearnerRow.recurses := by kernel_rfl
theorem varsNamed_ : Try.prog.varsNamed 3 = Rows.fnExactNewLearnerRow.named := by kernel_rfl
theorem closed_ : joinedFacts Try.prog 3 Try.f3 Rows.fnExactNewLearnerSpec Rows.fnExactNewLearnerRow = true := by
  unfold joinedFacts
  rw [inPlace_, unfollowed_, recurses_, varsNamed_]
  kernel_rfl
theorem over : Rows.fnExactNewLearnerRow.holds Try.pinned (OpenSpec.ofChange Rows.fnExactNewLearnerSpec) :=
  OpenClaim.holds_of_wide 3 Try.f3 rfl rfl rfl rfl rfl rfl rfl ⟨rfl, rfl, rfl, rfl, rfl⟩ rfl rfl rfl rfl rfl funcNamed_ Try.func3 closed_
    (of_decide_eq_true (by kernel_rfl)) (by unfold Func.isWrapper; first | (rw [if_pos (by decide +kernel)]; kernel_rfl) | (rw [if_neg (by decide +kernel)]; exact ⟨rfl, rfl⟩))
    (fun os started H enc _ => lifted os started H enc)
theorem proved : Rows.FnExactNewLearnerSaid := over
#print axioms proved
end Go.Proofs.Ytndcgckgkkhbpaa.fnExactNewLearner
namespace Go.Proofs.Ytndcgckgkkhbpaa
/-- The row, under a short name, for the claim. -/
theorem fnExactNewLearner_holds : Rows.FnExactNewLearnerSaid := fnExactNewLearner.proved
end Go.Proofs.Ytndcgckgkkhbpaa
