/- The law FnExactRestrictMeasure as the row states it: out of the pure law (YtijgiebjfoikiaaPureFnExactRestrictMeasure) and the walk of the law's Go function. Conditions: those of the row alone. -/
import Derived.Test.YtijgiebjfoikiaaRows
import Derived.Test.YtijgiebjfoikiaaPFnExactRestrictMeasurex7
import Derived.Test.YtijgiebjfoikiaaPureFnExactRestrictMeasure
import Derived.Test.YtijgiebjfoikiaaOpens
import Derived.WalkKit
import Derived.ProofKit
import Derived.OpenShut
import Derived.ShutString
import Derived.ChangeOld
import Derived.Below
import Derived.SizedLaws
namespace Go.Proofs.Ytijgiebjfoikiaa.fnExactRestrictMeasure
open Go.ChangeShapes Go.WideShapes Go.ChangeAt Go.RowKit Go.Proofs.Ytijgiebjfoikiaa.Opens Go.Proofs.YtijgiebjfoikiaaW.PrintWords Go.Proofs.Ytijgiebjfoikiaa.PFnExactRestrictMeasure
open Go.ChangeMaps (open_string shut_string)
set_option linter.unusedVariables false
theorem own : ownKnob Try.prog.godebug = none := by kernel_rfl
theorem laidOut : laidOutB Try.prog = true := by kernel_rfl
theorem o9 : Opens Try.prog 9 Kd.string (fun x => x.size ≤ maxLen) := opens_string Try.underlying9
theorem o22 : Opens Try.prog 22 (Kd.slice 9 Kd.string) (fun x => (x.length ≤ maxLen ∧ ∀ y1 ∈ x, y1.size ≤ maxLen)) := opens_slice Try.underlying22 (by kernel_rfl) o9
theorem o3 : Opens Try.prog 3 (Kd.int .i64) (fun x => (Lit.int .i64 x).wf = true) := opens_int Try.underlying3
theorem o45 : Opens Try.prog 45 (Kd.slice 3 (Kd.int .i64)) (fun x => (x.length ≤ maxLen ∧ ∀ y2 ∈ x, (Lit.int .i64 y2).wf = true)) := opens_slice Try.underlying45 (by kernel_rfl) o3
theorem o23 : Opens Try.prog 23 (Kd.slice 45 (Kd.slice 3 (Kd.int .i64))) (fun x => (x.length ≤ maxLen ∧ ∀ y3 ∈ x, (y3.length ≤ maxLen ∧ ∀ y4 ∈ y3, (Lit.int .i64 y4).wf = true))) := opens_slice Try.underlying23 (by kernel_rfl) o45
set_option maxRecDepth 100000 in
theorem lifted (os : Os) (started : os.Started) (H : Type) (enc : TypeId × Value → H) :
    ReturnsInHanded {} Try.checked os 3 .any (Rows.fnExactRestrictMeasureSpec.pre6 enc Try.prog Try.f3 Rows.fnExactRestrictMeasureRow.domain false) (Rows.fnExactRestrictMeasureSpec.post enc Try.prog Try.f3 false true false false) := by
  refine returnsInHanded_of_change_sized (C := Try.checked) own started (by kernel_rfl) Try.func3
    (ChangeSpec.witness6 (enc := enc) (C := Try.checked) false ⟨#[], #[.slice none 0 0, .slice none 0 0], []⟩ 8 (by kernel_rfl) (by kernel_rfl) (by kernel_rfl) (by kernel_rfl)) ?_
  intro W base args ds gs before hval0 hW hcnd hsz0 _
  have hval : ∀ (j : Nat) t v, Try.f3.params[j]? = some t → args[j]? = some v → Value.okWide Try.prog W .any base t v := hval0
  have hW' := hW
  obtain ⟨p, q, hA0, hV, rfl, hfz, hnd⟩ := hW
  have hA : DataW.TrodAll enc Try.prog W 0 (fun _ => true) true Try.f3.params.toList args.toList ds p := hA0
  rw [Try.params3] at hA hval
  obtain ⟨v0, vs0, d0, ds0, p0, q0, hargs, rfl, rfl, h0, r0⟩ := trodAll_cons hA
  obtain ⟨v1, vs1, d1, ds1, p1, q1, rfl, rfl, rfl, h1, r1⟩ := trodAll_cons r0
  obtain ⟨rfl, rfl, rfl⟩ := trodAll_nil r1
  obtain rfl : args = #[v0, v1] := by cases args; simp_all
  obtain ⟨rfl, rfl⟩ := trodVars_none hV
  have k0 := h0
  have lt0 : ∀ x ∈ p0, x.block < W.heap.size := by obtain ⟨m, hm⟩ := k0; exact DataW.trod_lt m _ _ _ hm
  obtain ⟨A0, c0, l0, rfl, hc0, hr0, g0⟩ := arg_slice Try.underlying22 o22 (hval 0 22 v0 rfl rfl) h0
  have k1 := h1
  have lt1 : ∀ x ∈ p1, x.block < W.heap.size := by obtain ⟨m, hm⟩ := k1; exact DataW.trod_lt m _ _ _ hm
  obtain ⟨A1, c1, l1, rfl, hc1, hr1, g1⟩ := arg_slice Try.underlying23 o23 (hval 1 23 v1 rfl rfl) h1
  clear hA0 hval0 hsz0
  obtain ⟨k, hk⟩ := Pure.FnExactRestrictMeasure l0 l1 g0 g1
  refine (laws_FnExactRestrictMeasure.calls k A0 c0 l0 A1 c1 l1 true W hr0 hc0 hr1 hc1 rfl hk).mono fun e W' ⟨he, bel0⟩ => ?_
  have bel : Below W.heap.size W W' := bel0
  subst he
  exact ⟨_, rfl, _, _, _, [], _, [], hW', trodAll_mk1 (shut_bool Try.underlying4 _), (trodAll_cons_mk (Below.trod laidOut (by kernel_rfl) (of_decide_eq_true (by kernel_rfl)) k0 bel lt0) (trodAll_cons_mk (Below.trod laidOut (by kernel_rfl) (of_decide_eq_true (by kernel_rfl)) k1 bel lt1) trodAll_mk0)), rfl, bel.frame _, fun h => by cases h⟩
theorem over : Rows.fnExactRestrictMeasureRow.holds Try.pinned (OpenSpec.ofChange Rows.fnExactRestrictMeasureSpec) :=
  OpenClaim.holds_of_wide 3 Try.f3 rfl rfl rfl rfl rfl rfl rfl ⟨rfl, rfl, rfl, rfl, rfl⟩ rfl rfl rfl rfl rfl (by kernel_rfl) Try.func3 (by kernel_rfl)
    (of_decide_eq_true (by kernel_rfl)) (by unfold Func.isWrapper; first | (rw [if_pos (by decide +kernel)]; kernel_rfl) | (rw [if_neg (by decide +kernel)]; exact ⟨rfl, rfl⟩))
    (fun os started H enc _ => lifted os started H enc)
theorem proved : Rows.FnExactRestrictMeasureSaid := over
#print axioms proved
end Go.Proofs.Ytijgiebjfoikiaa.fnExactRestrictMeasure
namespace Go.Proofs.Ytijgiebjfoikiaa
/-- The row, under a short name, for the claim. -/
theorem fnExactRestrictMeasure_holds : Rows.FnExactRestrictMeasureSaid := fnExactRestrictMeasure.proved
end Go.Proofs.Ytijgiebjfoikiaa
