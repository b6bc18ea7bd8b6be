/- The law FnExactHasLearned as the row states it: out of the pure law (YtijgiebjfoikiaaPureFnExactHasLearned) and the walk of the law's Go function. Conditions: those of the row alone. -/
import Derived.Test.YtijgiebjfoikiaaRows
import Derived.Test.YtijgiebjfoikiaaPFnExactHasLearnedx7
import Derived.Test.YtijgiebjfoikiaaPureFnExactHasLearned
import Derived.Test.YtijgiebjfoikiaaOpens
import Derived.WalkKit
import Derived.ProofKit
import Derived.OpenShut
import Derived.ShutString
import Derived.ChangeOld
import Derived.Below
import Derived.SizedLaws
namespace Go.Proofs.Ytijgiebjfoikiaa.fnExactHasLearned
open Go.ChangeShapes Go.WideShapes Go.ChangeAt Go.RowKit Go.Proofs.Ytijgiebjfoikiaa.Opens Go.Proofs.YtijgiebjfoikiaaW.PrintWords Go.Proofs.Ytijgiebjfoikiaa.PFnExactHasLearned
open Go.ChangeMaps (open_string shut_string)
set_option linter.unusedVariables false
theorem own : ownKnob Try.prog.godebug = none := by kernel_rfl
theorem laidOut : laidOutB Try.prog = true := by kernel_rfl
theorem o3 : Opens Try.prog 3 (Kd.int .i64) (fun x => (Lit.int .i64 x).wf = true) := opens_int Try.underlying3
theorem o45 : Opens Try.prog 45 (Kd.slice 3 (Kd.int .i64)) (fun x => (x.length ≤ maxLen ∧ ∀ y1 ∈ x, (Lit.int .i64 y1).wf = true)) := opens_slice Try.underlying45 (by kernel_rfl) o3
theorem o23 : Opens Try.prog 23 (Kd.slice 45 (Kd.slice 3 (Kd.int .i64))) (fun x => (x.length ≤ maxLen ∧ ∀ y2 ∈ x, (y2.length ≤ maxLen ∧ ∀ y3 ∈ y2, (Lit.int .i64 y3).wf = true))) := opens_slice Try.underlying23 (by kernel_rfl) o45
theorem p33_ : Opens Try.prog 33 (Kd.pair (Kd.int .i64) (Kd.pair (Kd.slice 45 (Kd.slice 3 (Kd.int .i64))) (Kd.int .i64))) (fun x => ((Lit.int .i64 x.1).wf = true ∧ (x.2.1.length ≤ maxLen ∧ ∀ y4 ∈ x.2.1, (y4.length ≤ maxLen ∧ ∀ y5 ∈ y4, (Lit.int .i64 y5).wf = true)) ∧ (Lit.int .i64 x.2.2).wf = true)) := opens_fields Try.underlying33 (by kernel_rfl) (opensF_cons rfl (by kernel_rfl) o3 (opensF_cons rfl (by kernel_rfl) o23 (opensF_one rfl (by kernel_rfl) o3))) (fun _ h => h)
theorem o53 : Opens Try.prog 53 k53 (fun x => ((x.f0.length ≤ maxLen ∧ ∀ y6 ∈ x.f0, (Lit.int .i64 y6).wf = true))) := opens_struct Try.underlying53 (by kernel_rfl) (opensF_one rfl (by kernel_rfl) o45) (fun x : S53 => (x.f0)) (fun p : (List (Int)) => (⟨p⟩ : S53)) (fun _ => rfl) (fun _ _ _ h => h) (fun _ h => h)
theorem o34 : Opens Try.prog 34 (Kd.slice 53 k53) (fun x => (x.length ≤ maxLen ∧ ∀ y7 ∈ x, ((y7.f0.length ≤ maxLen ∧ ∀ y8 ∈ y7.f0, (Lit.int .i64 y8).wf = true)))) := opens_slice Try.underlying34 (by kernel_rfl) o53
set_option maxRecDepth 100000 in
theorem lifted (os : Os) (started : os.Started) (H : Type) (enc : TypeId × Value → H) :
    ReturnsInHanded {} Try.checked os 4 .any (Rows.fnExactHasLearnedSpec.pre6 enc Try.prog Try.f4 Rows.fnExactHasLearnedRow.domain false) (Rows.fnExactHasLearnedSpec.post enc Try.prog Try.f4 false true false false) := by
  refine returnsInHanded_of_change_sized (C := Try.checked) own started (by kernel_rfl) Try.func4
    (ChangeSpec.witness6 (enc := enc) (C := Try.checked) false ⟨#[], #[.agg #[.int .i64 0, .slice none 0 0, .int .i64 0], .slice none 0 0], []⟩ 8 (by kernel_rfl) (by kernel_rfl) (by kernel_rfl) (by kernel_rfl)) ?_
  intro W base args ds gs before hval0 hW hcnd hsz0 _
  have hval : ∀ (j : Nat) t v, Try.f4.params[j]? = some t → args[j]? = some v → Value.okWide Try.prog W .any base t v := hval0
  have hW' := hW
  obtain ⟨p, q, hA0, hV, rfl, hfz, hnd⟩ := hW
  have hA : DataW.TrodAll enc Try.prog W 0 (fun _ => true) true Try.f4.params.toList args.toList ds p := hA0
  rw [Try.params4] at hA hval
  obtain ⟨v0, vs0, d0, ds0, p0, q0, hargs, rfl, rfl, h0, r0⟩ := trodAll_cons hA
  obtain ⟨v1, vs1, d1, ds1, p1, q1, rfl, rfl, rfl, h1, r1⟩ := trodAll_cons r0
  obtain ⟨rfl, rfl, rfl⟩ := trodAll_nil r1
  obtain rfl : args = #[v0, v1] := by cases args; simp_all
  obtain ⟨rfl, rfl⟩ := trodVars_none hV
  have k0 := h0
  have lt0 : ∀ x ∈ p0, x.block < W.heap.size := by obtain ⟨m, hm⟩ := k0; exact DataW.trod_lt m _ _ _ hm
  obtain ⟨cs0, x0, rfl, hK0, g0⟩ := arg_struct Try.underlying33 p33_ (hval 0 33 v0 rfl rfl) h0
  obtain ⟨_, _, rfl, rfl, _, _, rfl, ⟨A0_1, c0_1, rfl, hc0_1, hr0_1⟩, rfl⟩ := hK0
  obtain ⟨g0_0, g0_1, g0_2⟩ := g0
  have k1 := h1
  have lt1 : ∀ x ∈ p1, x.block < W.heap.size := by obtain ⟨m, hm⟩ := k1; exact DataW.trod_lt m _ _ _ hm
  obtain ⟨A1, c1, l1, rfl, hc1, hr1, g1⟩ := arg_slice Try.underlying34 o34 (hval 1 34 v1 rfl rfl) h1
  clear hA0 hval0 hsz0
  obtain ⟨k, hk⟩ := Pure.FnExactHasLearned x0.1 x0.2.1 x0.2.2 l1 g0_0 g0_1 g0_2 g1
  refine (laws_FnExactHasLearned.calls k x0.1 A0_1 c0_1 x0.2.1 x0.2.2 A1 c1 l1 true W hr0_1 hc0_1 hr1 hc1 rfl hk).mono fun e W' ⟨he, bel0⟩ => ?_
  have bel : Below W.heap.size W W' := bel0
  subst he
  exact ⟨_, rfl, _, _, _, [], _, [], hW', trodAll_mk1 (shut_bool Try.underlying4 _), (trodAll_cons_mk (Below.trod laidOut (by kernel_rfl) (of_decide_eq_true (by kernel_rfl)) k0 bel lt0) (trodAll_cons_mk (Below.trod laidOut (by kernel_rfl) (of_decide_eq_true (by kernel_rfl)) k1 bel lt1) trodAll_mk0)), rfl, bel.frame _, fun h => by cases h⟩
theorem over : Rows.fnExactHasLearnedRow.holds Try.pinned (OpenSpec.ofChange Rows.fnExactHasLearnedSpec) :=
  OpenClaim.holds_of_wide 4 Try.f4 rfl rfl rfl rfl rfl rfl rfl ⟨rfl, rfl, rfl, rfl, rfl⟩ rfl rfl rfl rfl rfl (by kernel_rfl) Try.func4 (by kernel_rfl)
    (of_decide_eq_true (by kernel_rfl)) (by unfold Func.isWrapper; first | (rw [if_pos (by decide +kernel)]; kernel_rfl) | (rw [if_neg (by decide +kernel)]; exact ⟨rfl, rfl⟩))
    (fun os started H enc _ => lifted os started H enc)
theorem proved : Rows.FnExactHasLearnedSaid := over
#print axioms proved
end Go.Proofs.Ytijgiebjfoikiaa.fnExactHasLearned
namespace Go.Proofs.Ytijgiebjfoikiaa
/-- The row, under a short name, for the claim. -/
theorem fnExactHasLearned_holds : Rows.FnExactHasLearnedSaid := fnExactHasLearned.proved
end Go.Proofs.Ytijgiebjfoikiaa
