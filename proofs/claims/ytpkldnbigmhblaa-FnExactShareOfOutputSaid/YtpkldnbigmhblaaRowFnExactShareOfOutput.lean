/- The law FnExactShareOfOutput as the row states it: out of the pure law (YtpkldnbigmhblaaPureFnExactShareOfOutput) and the walk of the law's Go function. Conditions: those of the row alone. -/
import Derived.Test.YtpkldnbigmhblaaRows
import Derived.Test.YtpkldnbigmhblaaPFnExactShareOfOutputx2
import Derived.Test.YtpkldnbigmhblaaPureFnExactShareOfOutput
import Derived.Test.YtpkldnbigmhblaaOpens
import Derived.WalkKit
import Derived.ProofKit
import Derived.OpenShut
import Derived.ShutString
import Derived.ChangeOld
import Derived.Below
import Derived.SizedLaws
namespace Go.Proofs.Ytpkldnbigmhblaa.fnExactShareOfOutput
open Go.ChangeShapes Go.WideShapes Go.ChangeAt Go.RowKit Go.Proofs.Ytpkldnbigmhblaa.Opens Go.Proofs.YtpkldnbigmhblaaW.PrintWords Go.Proofs.Ytpkldnbigmhblaa.PFnExactShareOfOutput
open Go.ChangeMaps (open_string shut_string)
set_option linter.unusedVariables false
theorem own : ownKnob Try.prog.godebug = none := by kernel_rfl
theorem laidOut : laidOutB Try.prog = true := by kernel_rfl
theorem o3 : Opens Try.prog 3 (Kd.int .i64) (fun x => (Lit.int .i64 x).wf = true) := opens_int Try.underlying3
theorem o9 : Opens Try.prog 9 Kd.string (fun x => x.size ≤ maxLen) := opens_string Try.underlying9
theorem o46 : Opens Try.prog 46 k46 (fun x => (x.f0.size ≤ maxLen ∧ (Lit.int .i64 x.f1).wf = true)) := opens_struct Try.underlying46 (by kernel_rfl) (opensF_cons rfl (by kernel_rfl) o9 (opensF_one rfl (by kernel_rfl) o3)) (fun x : S46 => (x.f0, x.f1)) (fun p : (ByteArray) × (Int) => (⟨p.1, p.2⟩ : S46)) (fun _ => rfl) (fun _ _ _ h => h) (fun _ h => h)
theorem o29 : Opens Try.prog 29 (Kd.slice 46 k46) (fun x => (x.length ≤ maxLen ∧ ∀ y1 ∈ x, (y1.f0.size ≤ maxLen ∧ (Lit.int .i64 y1.f1).wf = true))) := opens_slice Try.underlying29 (by kernel_rfl) o46
set_option maxRecDepth 100000 in
theorem lifted (os : Os) (started : os.Started) (H : Type) (enc : TypeId × Value → H) :
    ReturnsInHanded {} Try.checked os 6 .any (Rows.fnExactShareOfOutputSpec.pre6 enc Try.prog Try.f6 Rows.fnExactShareOfOutputRow.domain false) (Rows.fnExactShareOfOutputSpec.post enc Try.prog Try.f6 false true false false) := by
  refine returnsInHanded_of_change_sized (C := Try.checked) own started (by kernel_rfl) Try.func6
    (ChangeSpec.witness6 (enc := enc) (C := Try.checked) false ⟨#[], #[.slice none 0 0, .string ByteArray.empty], []⟩ 8 (by kernel_rfl) (by kernel_rfl) (by kernel_rfl) (by kernel_rfl)) ?_
  intro W base args ds gs before hval0 hW hcnd hsz0 _
  have hval : ∀ (j : Nat) t v, Try.f6.params[j]? = some t → args[j]? = some v → Value.okWide Try.prog W .any base t v := hval0
  have hW' := hW
  obtain ⟨p, q, hA0, hV, rfl, hfz, hnd⟩ := hW
  have hA : DataW.TrodAll enc Try.prog W 0 (fun _ => true) true Try.f6.params.toList args.toList ds p := hA0
  rw [Try.params6] at hA hval
  obtain ⟨v0, vs0, d0, ds0, p0, q0, hargs, rfl, rfl, h0, r0⟩ := trodAll_cons hA
  obtain ⟨v1, vs1, d1, ds1, p1, q1, rfl, rfl, rfl, h1, r1⟩ := trodAll_cons r0
  obtain ⟨rfl, rfl, rfl⟩ := trodAll_nil r1
  obtain rfl : args = #[v0, v1] := by cases args; simp_all
  obtain ⟨rfl, rfl⟩ := trodVars_none hV
  have k0 := h0
  have lt0 : ∀ x ∈ p0, x.block < W.heap.size := by obtain ⟨m, hm⟩ := k0; exact DataW.trod_lt m _ _ _ hm
  obtain ⟨A0, c0, l0, rfl, hc0, hr0, g0⟩ := arg_slice Try.underlying29 o29 (hval 0 29 v0 rfl rfl) h0
  obtain ⟨a1, rfl, rfl, rfl, y1⟩ := open_string Try.underlying9 (hval 1 9 v1 rfl rfl) h1
  clear hA0 hval0 hsz0
  obtain ⟨k, hk⟩ := Pure.FnExactShareOfOutput l0 a1 g0 y1
  refine (laws_FnExactShareOfOutput.calls k A0 c0 l0 a1 true W hr0 hc0 hk).mono fun e W' ⟨he, bel0⟩ => ?_
  have bel : Below W.heap.size W W' := bel0
  subst he
  exact ⟨_, rfl, _, _, _, [], _, [], hW', trodAll_mk1 (shut_bool Try.underlying4 _), (trodAll_cons_mk (Below.trod laidOut (by kernel_rfl) (of_decide_eq_true (by kernel_rfl)) k0 bel lt0) (trodAll_cons_mk (shut_string Try.underlying9 y1) trodAll_mk0)), rfl, bel.frame _, fun h => by cases h⟩
theorem over : Rows.fnExactShareOfOutputRow.holds Try.pinned (OpenSpec.ofChange Rows.fnExactShareOfOutputSpec) :=
  OpenClaim.holds_of_wide 6 Try.f6 rfl rfl rfl rfl rfl rfl rfl ⟨rfl, rfl, rfl, rfl, rfl⟩ rfl rfl rfl rfl rfl (by kernel_rfl) Try.func6 (by kernel_rfl)
    (of_decide_eq_true (by kernel_rfl)) (by unfold Func.isWrapper; first | (rw [if_pos (by decide +kernel)]; kernel_rfl) | (rw [if_neg (by decide +kernel)]; exact ⟨rfl, rfl⟩))
    (fun os started H enc _ => lifted os started H enc)
theorem proved : Rows.FnExactShareOfOutputSaid := over
#print axioms proved
end Go.Proofs.Ytpkldnbigmhblaa.fnExactShareOfOutput
namespace Go.Proofs.Ytpkldnbigmhblaa
/-- The row, under a short name, for the claim. -/
theorem fnExactShareOfOutput_holds : Rows.FnExactShareOfOutputSaid := fnExactShareOfOutput.proved
end Go.Proofs.Ytpkldnbigmhblaa
