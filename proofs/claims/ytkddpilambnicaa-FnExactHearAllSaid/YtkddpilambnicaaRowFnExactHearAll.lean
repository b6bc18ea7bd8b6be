/- The law FnExactHearAll as the row states it: out of the pure law (YtkddpilambnicaaPureFnExactHearAll) and the walk of the law's Go function. Conditions: those of the row alone. -/
import Derived.Test.YtkddpilambnicaaRows
import Derived.Test.YtkddpilambnicaaPFnExactHearAllx14
import Derived.Test.YtkddpilambnicaaPureFnExactHearAll
import Derived.Test.YtkddpilambnicaaOpens
import Derived.WalkKit
import Derived.ProofKit
import Derived.OpenShut
import Derived.ShutString
import Derived.ChangeOld
import Derived.Below
import Derived.SizedLaws
namespace Go.Proofs.Ytkddpilambnicaa.fnExactHearAll
open Go.ChangeShapes Go.WideShapes Go.ChangeAt Go.RowKit Go.Proofs.Ytkddpilambnicaa.Opens Go.Proofs.YtkddpilambnicaaW.PrintWords Go.Proofs.Ytkddpilambnicaa.PFnExactHearAll
open Go.ChangeMaps (open_string shut_string)
set_option linter.unusedVariables false
theorem own : ownKnob Try.prog.godebug = none := by kernel_rfl
theorem laidOut : laidOutB Try.prog = true := by kernel_rfl
theorem o3 : Opens Try.prog 3 (Kd.int .i64) (fun x => (Lit.int .i64 x).wf = true) := opens_int Try.underlying3
theorem o25 : Opens Try.prog 25 (Kd.slice 3 (Kd.int .i64)) (fun x => (x.length ≤ maxLen ∧ ∀ y1 ∈ x, (Lit.int .i64 y1).wf = true)) := opens_slice Try.underlying25 (by kernel_rfl) o3
theorem o22 : Opens Try.prog 22 (Kd.slice 25 (Kd.slice 3 (Kd.int .i64))) (fun x => (x.length ≤ maxLen ∧ ∀ y2 ∈ x, (y2.length ≤ maxLen ∧ ∀ y3 ∈ y2, (Lit.int .i64 y3).wf = true))) := opens_slice Try.underlying22 (by kernel_rfl) o25
theorem p24_ : Opens Try.prog 24 (Kd.pair (Kd.int .i64) (Kd.pair (Kd.slice 25 (Kd.slice 3 (Kd.int .i64))) (Kd.int .i64))) (fun x => ((Lit.int .i64 x.1).wf = true ∧ (x.2.1.length ≤ maxLen ∧ ∀ y4 ∈ x.2.1, (y4.length ≤ maxLen ∧ ∀ y5 ∈ y4, (Lit.int .i64 y5).wf = true)) ∧ (Lit.int .i64 x.2.2).wf = true)) := opens_fields Try.underlying24 (by kernel_rfl) (opensF_cons rfl (by kernel_rfl) o3 (opensF_cons rfl (by kernel_rfl) o22 (opensF_one rfl (by kernel_rfl) o3))) (fun _ h => h)
theorem o27 : Opens Try.prog 27 k27 (fun x => ((x.f0.length ≤ maxLen ∧ ∀ y6 ∈ x.f0, (Lit.int .i64 y6).wf = true))) := opens_struct Try.underlying27 (by kernel_rfl) (opensF_one rfl (by kernel_rfl) o25) (fun x : S27 => (x.f0)) (fun p : (List (Int)) => (⟨p⟩ : S27)) (fun _ => rfl) (fun _ _ _ h => h) (fun _ h => h)
theorem o41 : Opens Try.prog 41 (Kd.slice 27 k27) (fun x => (x.length ≤ maxLen ∧ ∀ y7 ∈ x, ((y7.f0.length ≤ maxLen ∧ ∀ y8 ∈ y7.f0, (Lit.int .i64 y8).wf = true)))) := opens_slice Try.underlying41 (by kernel_rfl) o27
set_option maxRecDepth 100000 in
theorem lifted (os : Os) (started : os.Started) (H : Type) (enc : TypeId × Value → H) :
    ReturnsInHanded {} Try.checked os 4 .any (Rows.fnExactHearAllSpec.pre6 enc Try.prog Try.f4 Rows.fnExactHearAllRow.domain false) (Rows.fnExactHearAllSpec.post enc Try.prog Try.f4 false true false false) := by
  refine returnsInHanded_of_change_sized (C := Try.checked) own started (by kernel_rfl) Try.func4
    (ChangeSpec.witness6 (enc := enc) (C := Try.checked) false ⟨#[], #[.agg #[.int .i64 0, .slice none 0 0, .int .i64 0], .slice none 0 0, .int .i64 0], []⟩ 8 (by kernel_rfl) (by kernel_rfl) (by kernel_rfl) (by kernel_rfl)) ?_
  intro W base args ds gs before hval0 hW hcnd hsz0 _
  have hval : ∀ (j : Nat) t v, Try.f4.params[j]? = some t → args[j]? = some v → Value.okWide Try.prog W .any base t v := hval0
  have hW' := hW
  obtain ⟨p, q, hA0, hV, rfl, hfz, hnd⟩ := hW
  have hA : DataW.TrodAll enc Try.prog W 0 (fun _ => true) true Try.f4.params.toList args.toList ds p := hA0
  rw [Try.params4] at hA hval
  obtain ⟨v0, vs0, d0, ds0, p0, q0, hargs, rfl, rfl, h0, r0⟩ := trodAll_cons hA
  obtain ⟨v1, vs1, d1, ds1, p1, q1, rfl, rfl, rfl, h1, r1⟩ := trodAll_cons r0
  obtain ⟨v2, vs2, d2, ds2, p2, q2, rfl, rfl, rfl, h2, r2⟩ := trodAll_cons r1
  obtain ⟨rfl, rfl, rfl⟩ := trodAll_nil r2
  obtain rfl : args = #[v0, v1, v2] := by cases args; simp_all
  obtain ⟨rfl, rfl⟩ := trodVars_none hV
  have k0 := h0
  have lt0 : ∀ x ∈ p0, x.block < W.heap.size := by obtain ⟨m, hm⟩ := k0; exact DataW.trod_lt m _ _ _ hm
  obtain ⟨cs0, x0, rfl, hK0, g0⟩ := arg_struct Try.underlying24 p24_ (hval 0 24 v0 rfl rfl) h0
  obtain ⟨_, _, rfl, rfl, _, _, rfl, ⟨A0_1, c0_1, rfl, hc0_1, hr0_1⟩, rfl⟩ := hK0
  obtain ⟨g0_0, g0_1, g0_2⟩ := g0
  have k1 := h1
  have lt1 : ∀ x ∈ p1, x.block < W.heap.size := by obtain ⟨m, hm⟩ := k1; exact DataW.trod_lt m _ _ _ hm
  obtain ⟨A1, c1, l1, rfl, hc1, hr1, g1⟩ := arg_slice Try.underlying41 o41 (hval 1 41 v1 rfl rfl) h1
  obtain ⟨a2, rfl, rfl, rfl, w2⟩ := open_int Try.underlying3 (hval 2 3 v2 rfl rfl) h2
  clear hA0 hval0 hsz0
  obtain ⟨k, hk⟩ := Pure.FnExactHearAll x0.1 x0.2.1 x0.2.2 l1 a2 g0_0 g0_1 g0_2 g1 w2
  refine (laws_FnExactHearAll.calls k x0.1 A0_1 c0_1 x0.2.1 x0.2.2 A1 c1 l1 a2 true W hr0_1 hc0_1 hr1 hc1 rfl hk).mono fun e W' ⟨he, bel0⟩ => ?_
  have bel : Below W.heap.size W W' := bel0
  subst he
  exact ⟨_, rfl, _, _, _, [], _, [], hW', trodAll_mk1 (shut_bool Try.underlying4 _), (trodAll_cons_mk (Below.trod laidOut (by kernel_rfl) (of_decide_eq_true (by kernel_rfl)) k0 bel lt0) (trodAll_cons_mk (Below.trod laidOut (by kernel_rfl) (of_decide_eq_true (by kernel_rfl)) k1 bel lt1) (trodAll_cons_mk (shut_int Try.underlying3 w2) trodAll_mk0))), rfl, bel.frame _, fun h => by cases h⟩
theorem funcNamed_ : Try.prog.funcNamed Rows.fnExactHearAllRow.func = some 4 := by kernel_rfl
theorem inPlace_ : Try.prog.inPlace 4 = Rows.fnExactHearAllRow.inPlace := by kernel_rfl
theorem unfollowed_ : Try.prog.unfollowed 4 = Rows.fnExactHearAllRow.unfollowed := by kernel_rfl
theorem recurses_ : Try.prog.recurses 4 = Rows.fnExactHearAllRow.recurses := by kernel_rfl
theorem varsNamed_ : Try.prog.varsNamed 4 = Rows.fnExactHearAllRow.named := by kernel_rfl
theorem closed_ : joinedFacts Try.prog 4 Try.f4 Rows.fnExactHearAllSpec Rows.fnExactHearAllRow = true := by
  unfold joinedFacts
  rw [inPlace_, unfollowed_, recurses_, varsNamed_]
  kernel_rfl
theorem over : Rows.fnExactHearAllRow.holds Try.pinned (OpenSpec.ofChange Rows.fnExactHearAllSpec) :=
  OpenClaim.holds_of_wide 4 Try.f4 rfl rfl rfl rfl rfl rfl rfl ⟨rfl, rfl, rfl, rfl, rfl⟩ rfl rfl rfl rfl rfl funcNamed_ Try.func4 closed_
    (of_decide_eq_true (by kernel_rfl)) (by unfold Func.isWrapper; first | (rw [if_pos (by decide +kernel)]; kernel_rfl) | (rw [if_neg (by decide +kernel)]; exact ⟨rfl, rfl⟩))
    (fun os started H enc _ => lifted os started H enc)
theorem proved : Rows.FnExactHearAllSaid := over
#print axioms proved
end Go.Proofs.Ytkddpilambnicaa.fnExactHearAll
namespace Go.Proofs.Ytkddpilambnicaa
/-- The row, under a short name, for the claim. -/
theorem fnExactHearAll_holds : Rows.FnExactHearAllSaid := fnExactHearAll.proved
end Go.Proofs.Ytkddpilambnicaa
