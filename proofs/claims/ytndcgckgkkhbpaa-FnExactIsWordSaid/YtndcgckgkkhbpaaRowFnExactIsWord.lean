/- The law FnExactIsWord as the row states it: out of the pure law (YtndcgckgkkhbpaaPureFnExactIsWord) and the walk of the law's Go function. Conditions: those of the row alone. -/
import Derived.Test.YtndcgckgkkhbpaaRows
import Derived.Test.YtndcgckgkkhbpaaPFnExactIsWordx7
import Derived.Test.YtndcgckgkkhbpaaPureFnExactIsWord
import Derived.Test.YtndcgckgkkhbpaaOpens
import Derived.WalkKit
import Derived.ProofKit
import Derived.OpenShut
import Derived.ShutString
import Derived.ChangeOld
import Derived.Below
import Derived.SizedLaws
namespace Go.Proofs.Ytndcgckgkkhbpaa.fnExactIsWord
open Go.ChangeShapes Go.WideShapes Go.ChangeAt Go.RowKit Go.Proofs.Ytndcgckgkkhbpaa.Opens Go.Proofs.YtndcgckgkkhbpaaW.PrintWords Go.Proofs.Ytndcgckgkkhbpaa.PFnExactIsWord
open Go.ChangeMaps (open_string shut_string)
set_option linter.unusedVariables false
theorem own : ownKnob Try.prog.godebug = none := by kernel_rfl
theorem laidOut : laidOutB Try.prog = true := by kernel_rfl
theorem o3 : Opens Try.prog 3 (Kd.int .i64) (fun x => (Lit.int .i64 x).wf = true) := opens_int Try.underlying3
theorem o30 : Opens Try.prog 30 (Kd.slice 3 (Kd.int .i64)) (fun x => (x.length ≤ maxLen ∧ ∀ y1 ∈ x, (Lit.int .i64 y1).wf = true)) := opens_slice Try.underlying30 (by kernel_rfl) o3
theorem p32_ : Opens Try.prog 32 (Kd.slice 3 (Kd.int .i64)) (fun x => ((x.length ≤ maxLen ∧ ∀ y2 ∈ x, (Lit.int .i64 y2).wf = true))) := opens_fields Try.underlying32 (by kernel_rfl) (opensF_one rfl (by kernel_rfl) o30) (fun _ h => h)
set_option maxRecDepth 100000 in
theorem lifted (os : Os) (started : os.Started) (H : Type) (enc : TypeId × Value → H) :
    ReturnsInHanded {} Try.checked os 4 .any (Rows.fnExactIsWordSpec.pre6 enc Try.prog Try.f4 Rows.fnExactIsWordRow.domain false) (Rows.fnExactIsWordSpec.post enc Try.prog Try.f4 false true false false) := by
  refine returnsInHanded_of_change_sized (C := Try.checked) own started (by kernel_rfl) Try.func4
    (ChangeSpec.witness6 (enc := enc) (C := Try.checked) false ⟨#[], #[.agg #[.slice none 0 0]], []⟩ 8 (by kernel_rfl) (by kernel_rfl) (by kernel_rfl) (by kernel_rfl)) ?_
  intro W base args ds gs before hval0 hW hcnd hsz0 _
  have hval : ∀ (j : Nat) t v, Try.f4.params[j]? = some t → args[j]? = some v → Value.okWide Try.prog W .any base t v := hval0
  have hW' := hW
  obtain ⟨p, q, hA0, hV, rfl, hfz, hnd⟩ := hW
  have hA : DataW.TrodAll enc Try.prog W 0 (fun _ => true) true Try.f4.params.toList args.toList ds p := hA0
  rw [Try.params4] at hA hval
  obtain ⟨v0, vs0, d0, ds0, p0, q0, hargs, rfl, rfl, h0, r0⟩ := trodAll_cons hA
  obtain ⟨rfl, rfl, rfl⟩ := trodAll_nil r0
  obtain rfl : args = #[v0] := by cases args; simp_all
  obtain ⟨rfl, rfl⟩ := trodVars_none hV
  have k0 := h0
  have lt0 : ∀ x ∈ p0, x.block < W.heap.size := by obtain ⟨m, hm⟩ := k0; exact DataW.trod_lt m _ _ _ hm
  obtain ⟨cs0, x0, rfl, hK0, g0⟩ := arg_struct Try.underlying32 p32_ (hval 0 32 v0 rfl rfl) h0
  obtain ⟨A0_0, c0_0, rfl, hc0_0, hr0_0⟩ := hK0
  have g0_0 := g0
  clear hA0 hval0 hsz0
  obtain ⟨k, hk⟩ := Pure.FnExactIsWord x0 g0_0
  refine (laws_FnExactIsWord.calls k A0_0 c0_0 x0 true W hr0_0 hc0_0 rfl hk).mono fun e W' ⟨he, bel0⟩ => ?_
  have bel : Below W.heap.size W W' := bel0
  subst he
  exact ⟨_, rfl, _, _, _, [], _, [], hW', trodAll_mk1 (shut_bool Try.underlying4 _), (trodAll_cons_mk (Below.trod laidOut (by kernel_rfl) (of_decide_eq_true (by kernel_rfl)) k0 bel lt0) trodAll_mk0), rfl, bel.frame _, fun h => by cases h⟩
theorem funcNamed_ : Try.prog.funcNamed Rows.fnExactIsWordRow.func = some 4 := by kernel_rfl
theorem inPlace_ : Try.prog.inPlace 4 = Rows.fnExactIsWordRow.inPlace := by kernel_rfl
theorem unfollowed_ : Try.prog.unfollowed 4 = Rows.fnExactIsWordRow.unfollowed := by kernel_rfl
theorem recurses_ : Try.prog.recurses 4 = Rows.fnExactIsWordRow.recurses := by kernel_rfl
theorem varsNamed_ : Try.prog.varsNamed 4 = Rows.fnExactIsWordRow.named := by kernel_rfl
theorem closed_ : joinedFacts Try.prog 4 Try.f4 Rows.fnExactIsWordSpec Rows.fnExactIsWordRow = true := by
  unfold joinedFacts
  rw [inPlace_, unfollowed_, recurses_, varsNamed_]
  kernel_rfl
theorem over : Rows.fnExactIsWordRow.holds Try.pinned (OpenSpec.ofChange Rows.fnExactIsWordSpec) :=
  OpenClaim.holds_of_wide 4 Try.f4 rfl rfl rfl rfl rfl rfl rfl ⟨rfl, rfl, rfl, rfl, rfl⟩ rfl rfl rfl rfl rfl funcNamed_ Try.func4 closed_
    (of_decide_eq_true (by kernel_rfl)) (by unfold Func.isWrapper; first | (rw [if_pos (by decide +kernel)]; kernel_rfl) | (rw [if_neg (by decide +kernel)]; exact ⟨rfl, rfl⟩))
    (fun os started H enc _ => lifted os started H enc)
theorem proved : Rows.FnExactIsWordSaid := over
#print axioms proved
end Go.Proofs.Ytndcgckgkkhbpaa.fnExactIsWord
namespace Go.Proofs.Ytndcgckgkkhbpaa
/-- The row, under a short name, for the claim. -/
theorem fnExactIsWord_holds : Rows.FnExactIsWordSaid := fnExactIsWord.proved
end Go.Proofs.Ytndcgckgkkhbpaa
