/- The law FnExactBestMeasure as the row states it: out of the pure law (YtndcgckgkkhbpaaPureFnExactBestMeasure) and the walk of the law's Go function. Conditions: those of the row alone. -/
import Derived.Test.YtndcgckgkkhbpaaRows
import Derived.Test.YtndcgckgkkhbpaaPFnExactBestMeasurex10
import Derived.Test.YtndcgckgkkhbpaaPureFnExactBestMeasure
import Derived.Test.YtndcgckgkkhbpaaOpens
import Derived.WalkKit
import Derived.ProofKit
import Derived.OpenShut
import Derived.ShutString
import Derived.ChangeOld
import Derived.Below
import Derived.SizedLaws
namespace Go.Proofs.Ytndcgckgkkhbpaa.fnExactBestMeasure
open Go.ChangeShapes Go.WideShapes Go.ChangeAt Go.RowKit Go.Proofs.Ytndcgckgkkhbpaa.Opens Go.Proofs.YtndcgckgkkhbpaaW.PrintWords Go.Proofs.Ytndcgckgkkhbpaa.PFnExactBestMeasure
open Go.ChangeMaps (open_string shut_string)
set_option linter.unusedVariables false
theorem own : ownKnob Try.prog.godebug = none := by kernel_rfl
theorem laidOut : laidOutB Try.prog = true := by kernel_rfl
theorem o3 : Opens Try.prog 3 (Kd.int .i64) (fun x => (Lit.int .i64 x).wf = true) := opens_int Try.underlying3
theorem o30 : Opens Try.prog 30 (Kd.slice 3 (Kd.int .i64)) (fun x => (x.length ≤ maxLen ∧ ∀ y1 ∈ x, (Lit.int .i64 y1).wf = true)) := opens_slice Try.underlying30 (by kernel_rfl) o3
theorem o91 : Opens Try.prog 91 k91 (fun x => ((x.f0.length ≤ maxLen ∧ ∀ y2 ∈ x.f0, (Lit.int .i64 y2).wf = true))) := opens_struct Try.underlying91 (by kernel_rfl) (opensF_one rfl (by kernel_rfl) o30) (fun x : S91 => (x.f0)) (fun p : (List (Int)) => (⟨p⟩ : S91)) (fun _ => rfl) (fun _ _ _ h => h) (fun _ h => h)
theorem o59 : Opens Try.prog 59 (Kd.slice 91 k91) (fun x => (x.length ≤ maxLen ∧ ∀ y3 ∈ x, ((y3.f0.length ≤ maxLen ∧ ∀ y4 ∈ y3.f0, (Lit.int .i64 y4).wf = true)))) := opens_slice Try.underlying59 (by kernel_rfl) o91
theorem o9 : Opens Try.prog 9 Kd.string (fun x => x.size ≤ maxLen) := opens_string Try.underlying9
theorem o60 : Opens Try.prog 60 (Kd.slice 9 Kd.string) (fun x => (x.length ≤ maxLen ∧ ∀ y5 ∈ x, y5.size ≤ maxLen)) := opens_slice Try.underlying60 (by kernel_rfl) o9
set_option maxRecDepth 100000 in
theorem lifted (os : Os) (started : os.Started) (H : Type) (enc : TypeId × Value → H) :
    ReturnsInHanded {} Try.checked os 12 .any (Rows.fnExactBestMeasureSpec.pre6 enc Try.prog Try.f12 Rows.fnExactBestMeasureRow.domain false) (Rows.fnExactBestMeasureSpec.post enc Try.prog Try.f12 false true false false) := by
  refine returnsInHanded_of_change_sized (C := Try.checked) own started (by kernel_rfl) Try.func12
    (ChangeSpec.witness6 (enc := enc) (C := Try.checked) false ⟨#[], #[.slice none 0 0, .slice none 0 0], []⟩ 8 (by kernel_rfl) (by kernel_rfl) (by kernel_rfl) (by kernel_rfl)) ?_
  intro W base args ds gs before hval0 hW hcnd hsz0 _
  have hval : ∀ (j : Nat) t v, Try.f12.params[j]? = some t → args[j]? = some v → Value.okWide Try.prog W .any base t v := hval0
  have hW' := hW
  obtain ⟨p, q, hA0, hV, rfl, hfz, hnd⟩ := hW
  have hA : DataW.TrodAll enc Try.prog W 0 (fun _ => true) true Try.f12.params.toList args.toList ds p := hA0
  rw [Try.params12] at hA hval
  obtain ⟨v0, vs0, d0, ds0, p0, q0, hargs, rfl, rfl, h0, r0⟩ := trodAll_cons hA
  obtain ⟨v1, vs1, d1, ds1, p1, q1, rfl, rfl, rfl, h1, r1⟩ := trodAll_cons r0
  obtain ⟨rfl, rfl, rfl⟩ := trodAll_nil r1
  obtain rfl : args = #[v0, v1] := by cases args; simp_all
  obtain ⟨rfl, rfl⟩ := trodVars_none hV
  have k0 := h0
  have lt0 : ∀ x ∈ p0, x.block < W.heap.size := by obtain ⟨m, hm⟩ := k0; exact DataW.trod_lt m _ _ _ hm
  obtain ⟨A0, c0, l0, rfl, hc0, hr0, g0⟩ := arg_slice Try.underlying59 o59 (hval 0 59 v0 rfl rfl) h0
  have k1 := h1
  have lt1 : ∀ x ∈ p1, x.block < W.heap.size := by obtain ⟨m, hm⟩ := k1; exact DataW.trod_lt m _ _ _ hm
  obtain ⟨A1, c1, l1, rfl, hc1, hr1, g1⟩ := arg_slice Try.underlying60 o60 (hval 1 60 v1 rfl rfl) h1
  clear hA0 hval0 hsz0
  obtain ⟨k, hk⟩ := Pure.FnExactBestMeasure l0 l1 g0 g1
  refine (laws_FnExactBestMeasure.calls k A0 c0 l0 A1 c1 l1 true W hr0 hc0 hr1 hc1 rfl hk).mono fun e W' ⟨he, bel0⟩ => ?_
  have bel : Below W.heap.size W W' := bel0
  subst he
  exact ⟨_, rfl, _, _, _, [], _, [], hW', trodAll_mk1 (shut_bool Try.underlying4 _), (trodAll_cons_mk (Below.trod laidOut (by kernel_rfl) (of_decide_eq_true (by kernel_rfl)) k0 bel lt0) (trodAll_cons_mk (Below.trod laidOut (by kernel_rfl) (of_decide_eq_true (by kernel_rfl)) k1 bel lt1) trodAll_mk0)), rfl, bel.frame _, fun h => by cases h⟩
theorem funcNamed_ : Try.prog.funcNamed Rows.fnExactBestMeasureRow.func = some 12 := by kernel_rfl
theorem inPlace_ : Try.prog.inPlace 12 = Rows.fnExactBestMeasureRow.inPlace := by kernel_rfl
theorem unfollowed_ : Try.prog.unfollowed 12 = Rows.fnExactBestMeasureRow.unfollowed := by kernel_rfl
theorem recurses_ : Try.prog.recurses 12 = Rows.fnExactBestMeasureRow.recurses := by kernel_rfl
theorem varsNamed_ : Try.prog.varsNamed 12 = Rows.fnExactBestMeasureRow.named := by kernel_rfl
theorem closed_ : joinedFacts Try.prog 12 Try.f12 Rows.fnExactBestMeasureSpec Rows.fnExactBestMeasureRow = true := by
  unfold joinedFacts
  rw [inPlace_, unfollowed_, recurses_, varsNamed_]
  kernel_rfl
theorem over : Rows.fnExactBestMeasureRow.holds Try.pinned (OpenSpec.ofChange Rows.fnExactBestMeasureSpec) :=
  OpenClaim.holds_of_wide 12 Try.f12 rfl rfl rfl rfl rfl rfl rfl ⟨rfl, rfl, rfl, rfl, rfl⟩ rfl rfl rfl rfl rfl funcNamed_ Try.func12 closed_
    (of_decide_eq_true (by kernel_rfl)) (by unfold Func.isWrapper; first | (rw [if_pos (by decide +kernel)]; kernel_rfl) | (rw [if_neg (by decide +kernel)]; exact ⟨rfl, rfl⟩))
    (fun os started H enc _ => lifted os started H enc)
theorem proved : Rows.FnExactBestMeasureSaid := over
#print axioms proved
end Go.Proofs.Ytndcgckgkkhbpaa.fnExactBestMeasure
namespace Go.Proofs.Ytndcgckgkkhbpaa
/-- The row, under a short name, for the claim. -/
theorem fnExactBestMeasure_holds : Rows.FnExactBestMeasureSaid := fnExactBestMeasure.proved
end Go.Proofs.Ytndcgckgkkhbpaa
