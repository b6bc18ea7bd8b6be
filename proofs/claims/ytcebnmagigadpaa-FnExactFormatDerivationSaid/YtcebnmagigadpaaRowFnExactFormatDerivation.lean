/- The law FnExactFormatDerivation as the row states it: out of the pure law (YtcebnmagigadpaaPureFnExactFormatDerivation) and the walk of the law's Go function. Conditions: those of the row alone. -/
import Derived.Test.YtcebnmagigadpaaRows
import Derived.Test.YtcebnmagigadpaaPFnExactFormatDerivationx6
import Derived.Test.YtcebnmagigadpaaPureFnExactFormatDerivation
import Derived.Test.YtcebnmagigadpaaOpens
import Derived.WalkKit
import Derived.ProofKit
import Derived.OpenShut
import Derived.ShutString
import Derived.ChangeOld
import Derived.Below
import Derived.SizedLaws
namespace Go.Proofs.Ytcebnmagigadpaa.fnExactFormatDerivation
open Go.ChangeShapes Go.WideShapes Go.ChangeAt Go.RowKit Go.Proofs.Ytcebnmagigadpaa.Opens Go.Proofs.YtcebnmagigadpaaW.PrintWords Go.Proofs.Ytcebnmagigadpaa.PFnExactFormatDerivation
open Go.ChangeMaps (open_string shut_string)
set_option linter.unusedVariables false
theorem own : ownKnob Try.prog.godebug = none := by kernel_rfl
theorem laidOut : laidOutB Try.prog = true := by kernel_rfl
theorem o5 : Opens Try.prog 5 (Kd.int .u8) (fun x => (Lit.int .u8 x).wf = true) := opens_int Try.underlying5
theorem o199 : Opens Try.prog 199 k199 (fun x => ((Lit.int .u8 x.f0).wf = true ∧ (Lit.int .u8 x.f1).wf = true)) := opens_struct Try.underlying199 (by kernel_rfl) (opensF_cons rfl (by kernel_rfl) o5 (opensF_one rfl (by kernel_rfl) o5)) (fun x : S199 => (x.f0, x.f1)) (fun p : (Int) × (Int) => (⟨p.1, p.2⟩ : S199)) (fun _ => rfl) (fun _ _ _ h => h) (fun _ h => h)
theorem o113 : Opens Try.prog 113 (Kd.slice 199 k199) (fun x => (x.length ≤ maxLen ∧ ∀ y1 ∈ x, ((Lit.int .u8 y1.f0).wf = true ∧ (Lit.int .u8 y1.f1).wf = true))) := opens_slice Try.underlying113 (by kernel_rfl) o199
theorem o115 : Opens Try.prog 115 k115 (fun x => ((x.f0.length ≤ maxLen ∧ ∀ y2 ∈ x.f0, ((Lit.int .u8 y2.f0).wf = true ∧ (Lit.int .u8 y2.f1).wf = true)))) := opens_struct Try.underlying115 (by kernel_rfl) (opensF_one rfl (by kernel_rfl) o113) (fun x : S115 => (x.f0)) (fun p : (List (S199)) => (⟨p⟩ : S115)) (fun _ => rfl) (fun _ _ _ h => h) (fun _ h => h)
theorem o51 : Opens Try.prog 51 (Kd.slice 115 k115) (fun x => (x.length ≤ maxLen ∧ ∀ y3 ∈ x, ((y3.f0.length ≤ maxLen ∧ ∀ y4 ∈ y3.f0, ((Lit.int .u8 y4.f0).wf = true ∧ (Lit.int .u8 y4.f1).wf = true))))) := opens_slice Try.underlying51 (by kernel_rfl) o115
set_option maxRecDepth 100000 in
theorem lifted (os : Os) (started : os.Started) (H : Type) (enc : TypeId × Value → H) :
    ReturnsInHanded {} Try.checked os 7 .any (Rows.fnExactFormatDerivationSpec.pre6 enc Try.prog Try.f7 Rows.fnExactFormatDerivationRow.domain false) (Rows.fnExactFormatDerivationSpec.post enc Try.prog Try.f7 false true false false) := by
  refine returnsInHanded_of_change_sized (C := Try.checked) own started (by kernel_rfl) Try.func7
    (ChangeSpec.witness6 (enc := enc) (C := Try.checked) false ⟨#[], #[.slice none 0 0], []⟩ 8 (by kernel_rfl) (by kernel_rfl) (by kernel_rfl) (by kernel_rfl)) ?_
  intro W base args ds gs before hval0 hW hcnd hsz0 _
  have hval : ∀ (j : Nat) t v, Try.f7.params[j]? = some t → args[j]? = some v → Value.okWide Try.prog W .any base t v := hval0
  have hW' := hW
  obtain ⟨p, q, hA0, hV, rfl, hfz, hnd⟩ := hW
  have hA : DataW.TrodAll enc Try.prog W 0 (fun _ => true) true Try.f7.params.toList args.toList ds p := hA0
  rw [Try.params7] at hA hval
  obtain ⟨v0, vs0, d0, ds0, p0, q0, hargs, rfl, rfl, h0, r0⟩ := trodAll_cons hA
  obtain ⟨rfl, rfl, rfl⟩ := trodAll_nil r0
  obtain rfl : args = #[v0] := by cases args; simp_all
  obtain ⟨rfl, rfl⟩ := trodVars_none hV
  have k0 := h0
  have lt0 : ∀ x ∈ p0, x.block < W.heap.size := by obtain ⟨m, hm⟩ := k0; exact DataW.trod_lt m _ _ _ hm
  obtain ⟨A0, c0, l0, rfl, hc0, hr0, g0⟩ := arg_slice Try.underlying51 o51 (hval 0 51 v0 rfl rfl) h0
  clear hA0 hval0 hsz0
  obtain ⟨k, hk⟩ := Pure.FnExactFormatDerivation l0 g0
  refine (laws_FnExactFormatDerivation.calls k A0 c0 l0 true W hr0 hc0 rfl hk).mono fun e W' ⟨he, bel0⟩ => ?_
  have bel : Below W.heap.size W W' := bel0
  subst he
  exact ⟨_, rfl, _, _, _, [], _, [], hW', trodAll_mk1 (shut_bool Try.underlying4 _), (trodAll_cons_mk (Below.trod laidOut (by kernel_rfl) (of_decide_eq_true (by kernel_rfl)) k0 bel lt0) trodAll_mk0), rfl, bel.frame _, fun h => by cases h⟩
theorem funcNamed_ : Try.prog.funcNamed Rows.fnExactFormatDerivationRow.func = some 7 := by kernel_rfl
theorem inPlace_ : Try.prog.inPlace 7 = Rows.fnExactFormatDerivationRow.inPlace := by kernel_rfl
theorem unfollowed_ : Try.prog.unfollowed 7 = Rows.fnExactFormatDerivationRow.unfollowed := by kernel_rfl
theorem recurses_ : Try.prog.recurses 7 = Rows.fnExactFormatDerivationRow.recurses := by kernel_rfl
theorem varsNamed_ : Try.prog.varsNamed 7 = Rows.fnExactFormatDerivationRow.named := by kernel_rfl
theorem closed_ : joinedFacts Try.prog 7 Try.f7 Rows.fnExactFormatDerivationSpec Rows.fnExactFormatDerivationRow = true := by
  unfold joinedFacts
  rw [inPlace_, unfollowed_, recurses_, varsNamed_]
  kernel_rfl
theorem over : Rows.fnExactFormatDerivationRow.holds Try.pinned (OpenSpec.ofChange Rows.fnExactFormatDerivationSpec) :=
  OpenClaim.holds_of_wide 7 Try.f7 rfl rfl rfl rfl rfl rfl rfl ⟨rfl, rfl, rfl, rfl, rfl⟩ rfl rfl rfl rfl rfl funcNamed_ Try.func7 closed_
    (of_decide_eq_true (by kernel_rfl)) (by unfold Func.isWrapper; first | (rw [if_pos (by decide +kernel)]; kernel_rfl) | (rw [if_neg (by decide +kernel)]; exact ⟨rfl, rfl⟩))
    (fun os started H enc _ => lifted os started H enc)
theorem proved : Rows.FnExactFormatDerivationSaid := over
#print axioms proved
end Go.Proofs.Ytcebnmagigadpaa.fnExactFormatDerivation
namespace Go.Proofs.Ytcebnmagigadpaa
/-- The row, under a short name, for the claim. -/
theorem fnExactFormatDerivation_holds : Rows.FnExactFormatDerivationSaid := fnExactFormatDerivation.proved
end Go.Proofs.Ytcebnmagigadpaa
