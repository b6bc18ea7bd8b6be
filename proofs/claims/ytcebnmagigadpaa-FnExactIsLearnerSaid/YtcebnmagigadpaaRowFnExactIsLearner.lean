/- The law FnExactIsLearner as the row states it: out of the pure law (YtcebnmagigadpaaPureFnExactIsLearner) and the walk of the law's Go function. Conditions: those of the row alone. -/
import Derived.Test.YtcebnmagigadpaaRows
import Derived.Test.YtcebnmagigadpaaPFnExactIsLearnerx3
import Derived.Test.YtcebnmagigadpaaPureFnExactIsLearner
import Derived.Test.YtcebnmagigadpaaOpens
import Derived.WalkKit
import Derived.ProofKit
import Derived.OpenShut
import Derived.ShutString
import Derived.ChangeOld
import Derived.Below
import Derived.SizedLaws
namespace Go.Proofs.Ytcebnmagigadpaa.fnExactIsLearner
open Go.ChangeShapes Go.WideShapes Go.ChangeAt Go.RowKit Go.Proofs.Ytcebnmagigadpaa.Opens Go.Proofs.YtcebnmagigadpaaW.PrintWords Go.Proofs.Ytcebnmagigadpaa.PFnExactIsLearner
open Go.ChangeMaps (open_string shut_string)
set_option linter.unusedVariables false
theorem own : ownKnob Try.prog.godebug = none := by kernel_rfl
theorem laidOut : laidOutB Try.prog = true := by kernel_rfl
theorem o3 : Opens Try.prog 3 (Kd.int .i64) (fun x => (Lit.int .i64 x).wf = true) := opens_int Try.underlying3
theorem o34 : Opens Try.prog 34 (Kd.slice 3 (Kd.int .i64)) (fun x => (x.length ≤ maxLen ∧ ∀ y1 ∈ x, (Lit.int .i64 y1).wf = true)) := opens_slice Try.underlying34 (by kernel_rfl) o3
theorem o22 : Opens Try.prog 22 (Kd.slice 34 (Kd.slice 3 (Kd.int .i64))) (fun x => (x.length ≤ maxLen ∧ ∀ y2 ∈ x, (y2.length ≤ maxLen ∧ ∀ y3 ∈ y2, (Lit.int .i64 y3).wf = true))) := opens_slice Try.underlying22 (by kernel_rfl) o34
theorem p24_ : Opens Try.prog 24 (Kd.pair (Kd.int .i64) (Kd.pair (Kd.slice 34 (Kd.slice 3 (Kd.int .i64))) (Kd.int .i64))) (fun x => ((Lit.int .i64 x.1).wf = true ∧ (x.2.1.length ≤ maxLen ∧ ∀ y4 ∈ x.2.1, (y4.length ≤ maxLen ∧ ∀ y5 ∈ y4, (Lit.int .i64 y5).wf = true)) ∧ (Lit.int .i64 x.2.2).wf = true)) := opens_fields Try.underlying24 (by kernel_rfl) (opensF_cons rfl (by kernel_rfl) o3 (opensF_cons rfl (by kernel_rfl) o22 (opensF_one rfl (by kernel_rfl) o3))) (fun _ h => h)
set_option maxRecDepth 100000 in
theorem lifted (os : Os) (started : os.Started) (H : Type) (enc : TypeId × Value → H) :
    ReturnsInHanded {} Try.checked os 13 .any (Rows.fnExactIsLearnerSpec.pre6 enc Try.prog Try.f13 Rows.fnExactIsLearnerRow.domain false) (Rows.fnExactIsLearnerSpec.post enc Try.prog Try.f13 false true false false) := by
  refine returnsInHanded_of_change_sized (C := Try.checked) own started (by kernel_rfl) Try.func13
    (ChangeSpec.witness6 (enc := enc) (C := Try.checked) false ⟨#[], #[.agg #[.int .i64 0, .slice none 0 0, .int .i64 0]], []⟩ 8 (by kernel_rfl) (by kernel_rfl) (by kernel_rfl) (by kernel_rfl)) ?_
  intro W base args ds gs before hval0 hW hcnd hsz0 _
  have hval : ∀ (j : Nat) t v, Try.f13.params[j]? = some t → args[j]? = some v → Value.okWide Try.prog W .any base t v := hval0
  have hW' := hW
  obtain ⟨p, q, hA0, hV, rfl, hfz, hnd⟩ := hW
  have hA : DataW.TrodAll enc Try.prog W 0 (fun _ => true) true Try.f13.params.toList args.toList ds p := hA0
  rw [Try.params13] at hA hval
  obtain ⟨v0, vs0, d0, ds0, p0, q0, hargs, rfl, rfl, h0, r0⟩ := trodAll_cons hA
  obtain ⟨rfl, rfl, rfl⟩ := trodAll_nil r0
  obtain rfl : args = #[v0] := by cases args; simp_all
  obtain ⟨rfl, rfl⟩ := trodVars_none hV
  have k0 := h0
  have lt0 : ∀ x ∈ p0, x.block < W.heap.size := by obtain ⟨m, hm⟩ := k0; exact DataW.trod_lt m _ _ _ hm
  obtain ⟨cs0, x0, rfl, hK0, g0⟩ := arg_struct Try.underlying24 p24_ (hval 0 24 v0 rfl rfl) h0
  obtain ⟨_, _, rfl, rfl, _, _, rfl, ⟨A0_1, c0_1, rfl, hc0_1, hr0_1⟩, rfl⟩ := hK0
  obtain ⟨g0_0, g0_1, g0_2⟩ := g0
  clear hA0 hval0 hsz0
  obtain ⟨k, hk⟩ := Pure.FnExactIsLearner x0.1 x0.2.1 x0.2.2 g0_0 g0_1 g0_2
  refine (laws_FnExactIsLearner.calls k x0.1 A0_1 c0_1 x0.2.1 x0.2.2 true W hr0_1 hc0_1 rfl hk).mono fun e W' ⟨he, bel0⟩ => ?_
  have bel : Below W.heap.size W W' := bel0
  subst he
  exact ⟨_, rfl, _, _, _, [], _, [], hW', trodAll_mk1 (shut_bool Try.underlying4 _), (trodAll_cons_mk (Below.trod laidOut (by kernel_rfl) (of_decide_eq_true (by kernel_rfl)) k0 bel lt0) trodAll_mk0), rfl, bel.frame _, fun h => by cases h⟩
theorem over : Rows.fnExactIsLearnerRow.holds Try.pinned (OpenSpec.ofChange Rows.fnExactIsLearnerSpec) :=
  OpenClaim.holds_of_wide 13 Try.f13 rfl rfl rfl rfl rfl rfl rfl ⟨rfl, rfl, rfl, rfl, rfl⟩ rfl rfl rfl rfl rfl (by kernel_rfl) Try.func13 (by kernel_rfl)
    (of_decide_eq_true (by kernel_rfl)) (by unfold Func.isWrapper; first | (rw [if_pos (by decide +kernel)]; kernel_rfl) | (rw [if_neg (by decide +kernel)]; exact ⟨rfl, rfl⟩))
    (fun os started H enc _ => lifted os started H enc)
theorem proved : Rows.FnExactIsLearnerSaid := over
#print axioms proved
end Go.Proofs.Ytcebnmagigadpaa.fnExactIsLearner
namespace Go.Proofs.Ytcebnmagigadpaa
/-- The row, under a short name, for the claim. -/
theorem fnExactIsLearner_holds : Rows.FnExactIsLearnerSaid := fnExactIsLearner.proved
end Go.Proofs.Ytcebnmagigadpaa
