/- The law FnExactHearRow as the row states it: out of the pure law (YtkddpilambnicaaPureFnExactHearRow) and the walk of the law's Go function. Conditions: those of the row alone. -/
import Derived.Test.YtkddpilambnicaaRows
import Derived.Test.YtkddpilambnicaaPFnExactHearRowx11
import Derived.Test.YtkddpilambnicaaPureFnExactHearRow
import Derived.Test.YtkddpilambnicaaOpens
import Derived.WalkKit
import Derived.ProofKit
import Derived.OpenShut
import Derived.ShutString
import Derived.ChangeOld
import Derived.Below
import Derived.SizedLaws
namespace Go.Proofs.Ytkddpilambnicaa.fnExactHearRow
open Go.ChangeShapes Go.WideShapes Go.ChangeAt Go.RowKit Go.Proofs.Ytkddpilambnicaa.Opens Go.Proofs.YtkddpilambnicaaW.PrintWords Go.Proofs.Ytkddpilambnicaa.PFnExactHearRow
open Go.ChangeMaps (open_string shut_string)
set_option linter.unusedVariables false
theorem own : ownKnob Try.prog.godebug = none := by kernel_rfl
theorem laidOut : laidOutB Try.prog = true := by kernel_rfl
theorem o3 : Opens Try.prog 3 (Kd.int .i64) (fun x => (Lit.int .i64 x).wf = true) := opens_int Try.underlying3
theorem o25 : Opens Try.prog 25 (Kd.slice 3 (Kd.int .i64)) (fun x => (x.length ≤ maxLen ∧ ∀ y1 ∈ x, (Lit.int .i64 y1).wf = true)) := opens_slice Try.underlying25 (by kernel_rfl) o3
theorem o22 : Opens Try.prog 22 (Kd.slice 25 (Kd.slice 3 (Kd.int .i64))) (fun x => (x.length ≤ maxLen ∧ ∀ y2 ∈ x, (y2.length ≤ maxLen ∧ ∀ y3 ∈ y2, (Lit.int .i64 y3).wf = true))) := opens_slice Try.underlying22 (by kernel_rfl) o25
theorem p24_ : Opens Try.prog 24 (Kd.pair (Kd.int .i64) (Kd.pair (Kd.slice 25 (Kd.slice 3 (Kd.int .i64))) (Kd.int .i64))) (fun x => ((Lit.int .i64 x.1).wf = true ∧ (x.2.1.length ≤ maxLen ∧ ∀ y4 ∈ x.2.1, (y4.length ≤ maxLen ∧ ∀ y5 ∈ y4, (Lit.int .i64 y5).wf = true)) ∧ (Lit.int .i64 x.2.2).wf = true)) := opens_fields Try.underlying24 (by kernel_rfl) (opensF_cons rfl (by kernel_rfl) o3 (opensF_cons rfl (by kernel_rfl) o22 (opensF_one rfl (by kernel_rfl) o3))) (fun _ h => h)
theorem p27_ : Opens Try.prog 27 (Kd.slice 3 (Kd.int .i64)) (fun x => ((x.length ≤ maxLen ∧ ∀ y6 ∈ x, (Lit.int .i64 y6).wf = true))) := opens_fields Try.underlying27 (by kernel_rfl) (opensF_one rfl (by kernel_rfl) o25) (fun _ h => h)
set_option maxRecDepth 100000 in
theorem lifted (os : Os) (started : os.Started) (H : Type) (enc : TypeId × Value → H) :
    ReturnsInHanded {} Try.checked os 3 .any (Rows.fnExactHearRowSpec.pre6 enc Try.prog Try.f3 Rows.fnExactHearRowRow.domain false) (Rows.fnExactHearRowSpec.post enc Try.prog Try.f3 false true false false) := by
  refine returnsInHanded_of_change_sized (C := Try.checked) own started (by kernel_rfl) Try.func3
    (ChangeSpec.witness6 (enc := enc) (C := Try.checked) false ⟨#[], #[.agg #[.int .i64 0, .slice none 0 0, .int .i64 0], .agg #[.slice none 0 0]], []⟩ 8 (by kernel_rfl) (by kernel_rfl) (by kernel_rfl) (by kernel_rfl)) ?_
  intro W base args ds gs before hval0 hW hcnd hsz0 _
  have hval : ∀ (j : Nat) t v, Try.f3.params[j]? = some t → args[j]? = some v → Value.okWide Try.prog W .any base t v := hval0
  have hW' := hW
  obtain ⟨p, q, hA0, hV, rfl, hfz, hnd⟩ := hW
  have hA : DataW.TrodAll enc Try.prog W 0 (fun _ => true) true Try.f3.params.toList args.toList ds p := hA0
  rw [Try.params3] at hA hval
  obtain ⟨v0, vs0, d0, ds0, p0, q0, hargs, rfl, rfl, h0, r0⟩ := trodAll_cons hA
  obtain ⟨v1, vs1, d1, ds1, p1, q1, rfl, rfl, rfl, h1, r1⟩ := trodAll_cons r0
  obtain ⟨rfl, rfl, rfl⟩ := trodAll_nil r1
  obtain rfl : args = #[v0, v1] := by cases args; simp_all
  obtain ⟨rfl, rfl⟩ := trodVars_none hV
  have k0 := h0
  have lt0 : ∀ x ∈ p0, x.block < W.heap.size := by obtain ⟨m, hm⟩ := k0; exact DataW.trod_lt m _ _ _ hm
  obtain ⟨cs0, x0, rfl, hK0, g0⟩ := arg_struct Try.underlying24 p24_ (hval 0 24 v0 rfl rfl) h0
  obtain ⟨_, _, rfl, rfl, _, _, rfl, ⟨A0_1, c0_1, rfl, hc0_1, hr0_1⟩, rfl⟩ := hK0
  obtain ⟨g0_0, g0_1, g0_2⟩ := g0
  have k1 := h1
  have lt1 : ∀ x ∈ p1, x.block < W.heap.size := by obtain ⟨m, hm⟩ := k1; exact DataW.trod_lt m _ _ _ hm
  obtain ⟨cs1, x1, rfl, hK1, g1⟩ := arg_struct Try.underlying27 p27_ (hval 1 27 v1 rfl rfl) h1
  obtain ⟨A1_0, c1_0, rfl, hc1_0, hr1_0⟩ := hK1
  have g1_0 := g1
  clear hA0 hval0 hsz0
  obtain ⟨k, hk⟩ := Pure.FnExactHearRow x0.1 x0.2.1 x0.2.2 x1 g0_0 g0_1 g0_2 g1_0
  refine (laws_FnExactHearRow.calls k x0.1 A0_1 c0_1 x0.2.1 x0.2.2 A1_0 c1_0 x1 true W hr0_1 hc0_1 hr1_0 hc1_0 rfl hk).mono fun e W' ⟨he, bel0⟩ => ?_
  have bel : Below W.heap.size W W' := bel0
  subst he
  exact ⟨_, rfl, _, _, _, [], _, [], hW', trodAll_mk1 (shut_bool Try.underlying4 _), (trodAll_cons_mk (Below.trod laidOut (by kernel_rfl) (of_decide_eq_true (by kernel_rfl)) k0 bel lt0) (trodAll_cons_mk (Below.trod laidOut (by kernel_rfl) (of_decide_eq_true (by kernel_rfl)) k1 bel lt1) trodAll_mk0)), rfl, bel.frame _, fun h => by cases h⟩
theorem funcNamed_ : Try.prog.funcNamed Rows.fnExactHearRowRow.func = some 3 := by kernel_rfl
theorem inPlace_ : Try.prog.inPlace 3 = Rows.fnExactHearRowRow.inPlace := by kernel_rfl
theorem unfollowed_ : Try.prog.unfollowed 3 = Rows.fnExactHearRowRow.unfollowed := by kernel_rfl
theorem recurses_ : Try.prog.recurses 3 = Rows.fnExactHearRowRow.recurses := by kernel_rfl
theorem varsNamed_ : Try.prog.varsNamed 3 = Rows.fnExactHearRowRow.named := by kernel_rfl
theorem closed_ : joinedFacts Try.prog 3 Try.f3 Rows.fnExactHearRowSpec Rows.fnExactHearRowRow = true := by
  unfold joinedFacts
  rw [inPlace_, unfollowed_, recurses_, varsNamed_]
  kernel_rfl
theorem over : Rows.fnExactHearRowRow.holds Try.pinned (OpenSpec.ofChange Rows.fnExactHearRowSpec) :=
  OpenClaim.holds_of_wide 3 Try.f3 rfl rfl rfl rfl rfl rfl rfl ⟨rfl, rfl, rfl, rfl, rfl⟩ rfl rfl rfl rfl rfl funcNamed_ Try.func3 closed_
    (of_decide_eq_true (by kernel_rfl)) (by unfold Func.isWrapper; first | (rw [if_pos (by decide +kernel)]; kernel_rfl) | (rw [if_neg (by decide +kernel)]; exact ⟨rfl, rfl⟩))
    (fun os started H enc _ => lifted os started H enc)
theorem proved : Rows.FnExactHearRowSaid := over
#print axioms proved
end Go.Proofs.Ytkddpilambnicaa.fnExactHearRow
namespace Go.Proofs.Ytkddpilambnicaa
/-- The row, under a short name, for the claim. -/
theorem fnExactHearRow_holds : Rows.FnExactHearRowSaid := fnExactHearRow.proved
end Go.Proofs.Ytkddpilambnicaa
