/- The law FnExactFootRows as the row states it: out of the pure law (YtkddpilambnicaaPureFnExactFootRows) and the walk of the law's Go function. Conditions: those of the row alone. -/
import Derived.Test.YtkddpilambnicaaRows
import Derived.Test.YtkddpilambnicaaPFnExactFootRowsx17
import Derived.Test.YtkddpilambnicaaPureFnExactFootRows
import Derived.Test.YtkddpilambnicaaOpens
import Derived.WalkKit
import Derived.ProofKit
import Derived.OpenShut
import Derived.ShutString
import Derived.ChangeOld
import Derived.Below
import Derived.SizedLaws
namespace Go.Proofs.Ytkddpilambnicaa.fnExactFootRows
open Go.ChangeShapes Go.WideShapes Go.ChangeAt Go.RowKit Go.Proofs.Ytkddpilambnicaa.Opens Go.Proofs.YtkddpilambnicaaW.PrintWords Go.Proofs.Ytkddpilambnicaa.PFnExactFootRows
open Go.ChangeMaps (open_string shut_string)
set_option linter.unusedVariables false
theorem own : ownKnob Try.prog.godebug = none := by kernel_rfl
theorem laidOut : laidOutB Try.prog = true := by kernel_rfl
theorem o3 : Opens Try.prog 3 (Kd.int .i64) (fun x => (Lit.int .i64 x).wf = true) := opens_int Try.underlying3
theorem o25 : Opens Try.prog 25 (Kd.slice 3 (Kd.int .i64)) (fun x => (x.length ≤ maxLen ∧ ∀ y1 ∈ x, (Lit.int .i64 y1).wf = true)) := opens_slice Try.underlying25 (by kernel_rfl) o3
theorem p78_ : Opens Try.prog 78 (Kd.slice 3 (Kd.int .i64)) (fun x => ((x.length ≤ maxLen ∧ ∀ y2 ∈ x, (Lit.int .i64 y2).wf = true))) := opens_fields Try.underlying78 (by kernel_rfl) (opensF_one rfl (by kernel_rfl) o25) (fun _ h => h)
theorem o170 : Opens Try.prog 170 k170 (fun x => ((Lit.int .i64 x.f0).wf = true ∧ (Lit.int .i64 x.f1).wf = true ∧ (Lit.int .i64 x.f2).wf = true)) := opens_struct Try.underlying170 (by kernel_rfl) (opensF_cons rfl (by kernel_rfl) o3 (opensF_cons rfl (by kernel_rfl) o3 (opensF_one rfl (by kernel_rfl) o3))) (fun x : S170 => (x.f0, x.f1, x.f2)) (fun p : (Int) × (Int) × (Int) => (⟨p.1, p.2.1, p.2.2⟩ : S170)) (fun _ => rfl) (fun _ _ _ h => h) (fun _ h => h)
theorem o79 : Opens Try.prog 79 (Kd.slice 170 k170) (fun x => (x.length ≤ maxLen ∧ ∀ y3 ∈ x, ((Lit.int .i64 y3.f0).wf = true ∧ (Lit.int .i64 y3.f1).wf = true ∧ (Lit.int .i64 y3.f2).wf = true))) := opens_slice Try.underlying79 (by kernel_rfl) o170
theorem p81_ : Opens Try.prog 81 (Kd.pair (Kd.int .i64) (Kd.pair (Kd.slice 170 k170) (Kd.int .i64))) (fun x => ((Lit.int .i64 x.1).wf = true ∧ (x.2.1.length ≤ maxLen ∧ ∀ y4 ∈ x.2.1, ((Lit.int .i64 y4.f0).wf = true ∧ (Lit.int .i64 y4.f1).wf = true ∧ (Lit.int .i64 y4.f2).wf = true)) ∧ (Lit.int .i64 x.2.2).wf = true)) := opens_fields Try.underlying81 (by kernel_rfl) (opensF_cons rfl (by kernel_rfl) o3 (opensF_cons rfl (by kernel_rfl) o79 (opensF_one rfl (by kernel_rfl) o3))) (fun _ h => h)
set_option maxRecDepth 100000 in
theorem lifted (os : Os) (started : os.Started) (H : Type) (enc : TypeId × Value → H) :
    ReturnsInHanded {} Try.checked os 8 .any (Rows.fnExactFootRowsSpec.pre6 enc Try.prog Try.f8 Rows.fnExactFootRowsRow.domain false) (Rows.fnExactFootRowsSpec.post enc Try.prog Try.f8 false true false false) := by
  refine returnsInHanded_of_change_sized (C := Try.checked) own started (by kernel_rfl) Try.func8
    (ChangeSpec.witness6 (enc := enc) (C := Try.checked) false ⟨#[], #[.agg #[.slice none 0 0], .agg #[.int .i64 0, .slice none 0 0, .int .i64 0]], []⟩ 8 (by kernel_rfl) (by kernel_rfl) (by kernel_rfl) (by kernel_rfl)) ?_
  intro W base args ds gs before hval0 hW hcnd hsz0 _
  have hval : ∀ (j : Nat) t v, Try.f8.params[j]? = some t → args[j]? = some v → Value.okWide Try.prog W .any base t v := hval0
  have hW' := hW
  obtain ⟨p, q, hA0, hV, rfl, hfz, hnd⟩ := hW
  have hA : DataW.TrodAll enc Try.prog W 0 (fun _ => true) true Try.f8.params.toList args.toList ds p := hA0
  rw [Try.params8] at hA hval
  obtain ⟨v0, vs0, d0, ds0, p0, q0, hargs, rfl, rfl, h0, r0⟩ := trodAll_cons hA
  obtain ⟨v1, vs1, d1, ds1, p1, q1, rfl, rfl, rfl, h1, r1⟩ := trodAll_cons r0
  obtain ⟨rfl, rfl, rfl⟩ := trodAll_nil r1
  obtain rfl : args = #[v0, v1] := by cases args; simp_all
  obtain ⟨rfl, rfl⟩ := trodVars_none hV
  have k0 := h0
  have lt0 : ∀ x ∈ p0, x.block < W.heap.size := by obtain ⟨m, hm⟩ := k0; exact DataW.trod_lt m _ _ _ hm
  obtain ⟨cs0, x0, rfl, hK0, g0⟩ := arg_struct Try.underlying78 p78_ (hval 0 78 v0 rfl rfl) h0
  obtain ⟨A0_0, c0_0, rfl, hc0_0, hr0_0⟩ := hK0
  have g0_0 := g0
  have k1 := h1
  have lt1 : ∀ x ∈ p1, x.block < W.heap.size := by obtain ⟨m, hm⟩ := k1; exact DataW.trod_lt m _ _ _ hm
  obtain ⟨cs1, x1, rfl, hK1, g1⟩ := arg_struct Try.underlying81 p81_ (hval 1 81 v1 rfl rfl) h1
  obtain ⟨_, _, rfl, rfl, _, _, rfl, ⟨A1_1, c1_1, rfl, hc1_1, hr1_1⟩, rfl⟩ := hK1
  obtain ⟨g1_0, g1_1, g1_2⟩ := g1
  clear hA0 hval0 hsz0
  obtain ⟨k, hk⟩ := Pure.FnExactFootRows x0 x1.1 x1.2.1 x1.2.2 g0_0 g1_0 g1_1 g1_2
  refine (laws_FnExactFootRows.calls k A0_0 c0_0 x0 x1.1 A1_1 c1_1 x1.2.1 x1.2.2 true W hr0_0 hc0_0 hr1_1 hc1_1 rfl hk).mono fun e W' ⟨he, bel0⟩ => ?_
  have bel : Below W.heap.size W W' := bel0
  subst he
  exact ⟨_, rfl, _, _, _, [], _, [], hW', trodAll_mk1 (shut_bool Try.underlying4 _), (trodAll_cons_mk (Below.trod laidOut (by kernel_rfl) (of_decide_eq_true (by kernel_rfl)) k0 bel lt0) (trodAll_cons_mk (Below.trod laidOut (by kernel_rfl) (of_decide_eq_true (by kernel_rfl)) k1 bel lt1) trodAll_mk0)), rfl, bel.frame _, fun h => by cases h⟩
theorem funcNamed_ : Try.prog.funcNamed Rows.fnExactFootRowsRow.func = some 8 := by kernel_rfl
theorem inPlace_ : Try.prog.inPlace 8 = Rows.fnExactFootRowsRow.inPlace := by kernel_rfl
theorem unfollowed_ : Try.prog.unfollowed 8 = Rows.fnExactFootRowsRow.unfollowed := by kernel_rfl
theorem recurses_ : Try.prog.recurses 8 = Rows.fnExactFootRowsRow.recurses := by kernel_rfl
theorem varsNamed_ : Try.prog.varsNamed 8 = Rows.fnExactFootRowsRow.named := by kernel_rfl
theorem closed_ : joinedFacts Try.prog 8 Try.f8 Rows.fnExactFootRowsSpec Rows.fnExactFootRowsRow = true := by
  unfold joinedFacts
  rw [inPlace_, unfollowed_, recurses_, varsNamed_]
  kernel_rfl
theorem over : Rows.fnExactFootRowsRow.holds Try.pinned (OpenSpec.ofChange Rows.fnExactFootRowsSpec) :=
  OpenClaim.holds_of_wide 8 Try.f8 rfl rfl rfl rfl rfl rfl rfl ⟨rfl, rfl, rfl, rfl, rfl⟩ rfl rfl rfl rfl rfl funcNamed_ Try.func8 closed_
    (of_decide_eq_true (by kernel_rfl)) (by unfold Func.isWrapper; first | (rw [if_pos (by decide +kernel)]; kernel_rfl) | (rw [if_neg (by decide +kernel)]; exact ⟨rfl, rfl⟩))
    (fun os started H enc _ => lifted os started H enc)
theorem proved : Rows.FnExactFootRowsSaid := over
#print axioms proved
end Go.Proofs.Ytkddpilambnicaa.fnExactFootRows
namespace Go.Proofs.Ytkddpilambnicaa
/-- The row, under a short name, for the claim. -/
theorem fnExactFootRows_holds : Rows.FnExactFootRowsSaid := fnExactFootRows.proved
end Go.Proofs.Ytkddpilambnicaa
