/- The law FnExactDifferencesFor as the row states it: out of the pure law (YtkddpilambnicaaGreatPureFnExactDifferencesFor) and the walk of the law's Go function. Conditions: those of the row alone. -/
import Derived.Test.YtkddpilambnicaaGreatRows
import Derived.Test.YtkddpilambnicaaGreatPFnExactDifferencesForx25
import Derived.Test.YtkddpilambnicaaGreatPureFnExactDifferencesFor
import Derived.Test.YtkddpilambnicaaGreatOpens
import Derived.WalkKit
import Derived.ProofKit
import Derived.OpenShut
import Derived.ShutString
import Derived.ChangeOld
import Derived.Below
import Derived.SizedLaws
namespace Go.Proofs.YtkddpilambnicaaGreat.fnExactDifferencesFor
open Go.ChangeShapes Go.WideShapes Go.ChangeAt Go.RowKit Go.Proofs.YtkddpilambnicaaGreat.Opens Go.Proofs.YtkddpilambnicaaGreatW.PrintWords Go.Proofs.YtkddpilambnicaaGreat.PFnExactDifferencesFor
open Go.ChangeMaps (open_string shut_string)
set_option linter.unusedVariables false
theorem own : ownKnob Tryz.prog.godebug = none := by kernel_rfl
theorem laidOut : laidOutB Tryz.prog = true := by kernel_rfl
theorem o3 : Opens Tryz.prog 3 (Kd.int .i64) (fun x => (Lit.int .i64 x).wf = true) := opens_int Tryz.underlying3
theorem o23 : Opens Tryz.prog 23 (Kd.slice 3 (Kd.int .i64)) (fun x => (x.length ≤ maxLen ∧ ∀ y1 ∈ x, (Lit.int .i64 y1).wf = true)) := opens_slice Tryz.underlying23 (by kernel_rfl) o3
theorem o31 : Opens Tryz.prog 31 (Kd.slice 23 (Kd.slice 3 (Kd.int .i64))) (fun x => (x.length ≤ maxLen ∧ ∀ y2 ∈ x, (y2.length ≤ maxLen ∧ ∀ y3 ∈ y2, (Lit.int .i64 y3).wf = true))) := opens_slice Tryz.underlying31 (by kernel_rfl) o23
theorem o5 : Opens Tryz.prog 5 (Kd.int .u8) (fun x => (Lit.int .u8 x).wf = true) := opens_int Tryz.underlying5
theorem o107 : Opens Tryz.prog 107 k107 (fun x => ((Lit.int .u8 x.f0).wf = true ∧ (Lit.int .u8 x.f1).wf = true)) := opens_struct Tryz.underlying107 (by kernel_rfl) (opensF_cons rfl (by kernel_rfl) o5 (opensF_one rfl (by kernel_rfl) o5)) (fun x : S107 => (x.f0, x.f1)) (fun p : (Int) × (Int) => (⟨p.1, p.2⟩ : S107)) (fun _ => rfl) (fun _ _ _ h => h) (fun _ h => h)
theorem o73 : Opens Tryz.prog 73 (Kd.slice 107 k107) (fun x => (x.length ≤ maxLen ∧ ∀ y4 ∈ x, ((Lit.int .u8 y4.f0).wf = true ∧ (Lit.int .u8 y4.f1).wf = true))) := opens_slice Tryz.underlying73 (by kernel_rfl) o107
theorem o75 : Opens Tryz.prog 75 k75 (fun x => ((x.f0.length ≤ maxLen ∧ ∀ y5 ∈ x.f0, ((Lit.int .u8 y5.f0).wf = true ∧ (Lit.int .u8 y5.f1).wf = true)))) := opens_struct Tryz.underlying75 (by kernel_rfl) (opensF_one rfl (by kernel_rfl) o73) (fun x : S75 => (x.f0)) (fun p : (List (S107)) => (⟨p⟩ : S75)) (fun _ => rfl) (fun _ _ _ h => h) (fun _ h => h)
theorem o30 : Opens Tryz.prog 30 (Kd.slice 75 k75) (fun x => (x.length ≤ maxLen ∧ ∀ y6 ∈ x, ((y6.f0.length ≤ maxLen ∧ ∀ y7 ∈ y6.f0, ((Lit.int .u8 y7.f0).wf = true ∧ (Lit.int .u8 y7.f1).wf = true))))) := opens_slice Tryz.underlying30 (by kernel_rfl) o75
theorem o9 : Opens Tryz.prog 9 Kd.string (fun x => x.size ≤ maxLen) := opens_string Tryz.underlying9
theorem o22 : Opens Tryz.prog 22 (Kd.slice 9 Kd.string) (fun x => (x.length ≤ maxLen ∧ ∀ y8 ∈ x, y8.size ≤ maxLen)) := opens_slice Tryz.underlying22 (by kernel_rfl) o9
theorem p33_ : Opens Tryz.prog 33 (Kd.pair Kd.string (Kd.pair (Kd.slice 9 Kd.string) (Kd.pair (Kd.slice 75 k75) (Kd.slice 23 (Kd.slice 3 (Kd.int .i64)))))) (fun x => (x.1.size ≤ maxLen ∧ (x.2.1.length ≤ maxLen ∧ ∀ y9 ∈ x.2.1, y9.size ≤ maxLen) ∧ (x.2.2.1.length ≤ maxLen ∧ ∀ y10 ∈ x.2.2.1, ((y10.f0.length ≤ maxLen ∧ ∀ y11 ∈ y10.f0, ((Lit.int .u8 y11.f0).wf = true ∧ (Lit.int .u8 y11.f1).wf = true)))) ∧ (x.2.2.2.length ≤ maxLen ∧ ∀ y12 ∈ x.2.2.2, (y12.length ≤ maxLen ∧ ∀ y13 ∈ y12, (Lit.int .i64 y13).wf = true)))) := opens_fields Tryz.underlying33 (by kernel_rfl) (opensF_cons rfl (by kernel_rfl) o9 (opensF_cons rfl (by kernel_rfl) o22 (opensF_cons rfl (by kernel_rfl) o30 (opensF_one rfl (by kernel_rfl) o31)))) (fun _ h => h)
set_option maxRecDepth 100000 in
theorem lifted (os : Os) (started : os.Started) (H : Type) (enc : TypeId × Value → H) :
    ReturnsInHanded {} Tryz.checked os 4 .any (Rows.fnExactDifferencesForSpec.pre6 enc Tryz.prog Tryz.f4 Rows.fnExactDifferencesForRow.domain false) (Rows.fnExactDifferencesForSpec.post enc Tryz.prog Tryz.f4 false true false false) := by
  refine returnsInHanded_of_change_sized (C := Tryz.checked) own started (by kernel_rfl) Tryz.func4
    (ChangeSpec.witness6 (enc := enc) (C := Tryz.checked) false ⟨#[], #[.agg #[.string ByteArray.empty, .slice none 0 0, .slice none 0 0, .slice none 0 0], .int .i64 0], []⟩ 8 (by kernel_rfl) (by kernel_rfl) (by kernel_rfl) (by kernel_rfl)) ?_
  intro W base args ds gs before hval0 hW hcnd hsz0 _
  have hval : ∀ (j : Nat) t v, Tryz.f4.params[j]? = some t → args[j]? = some v → Value.okWide Tryz.prog W .any base t v := hval0
  have hW' := hW
  obtain ⟨p, q, hA0, hV, rfl, hfz, hnd⟩ := hW
  have hA : DataW.TrodAll enc Tryz.prog W 0 (fun _ => true) true Tryz.f4.params.toList args.toList ds p := hA0
  rw [Tryz.params4] at hA hval
  obtain ⟨v0, vs0, d0, ds0, p0, q0, hargs, rfl, rfl, h0, r0⟩ := trodAll_cons hA
  obtain ⟨v1, vs1, d1, ds1, p1, q1, rfl, rfl, rfl, h1, r1⟩ := trodAll_cons r0
  obtain ⟨rfl, rfl, rfl⟩ := trodAll_nil r1
  obtain rfl : args = #[v0, v1] := by cases args; simp_all
  obtain ⟨rfl, rfl⟩ := trodVars_none hV
  have k0 := h0
  have lt0 : ∀ x ∈ p0, x.block < W.heap.size := by obtain ⟨m, hm⟩ := k0; exact DataW.trod_lt m _ _ _ hm
  obtain ⟨cs0, x0, rfl, hK0, g0⟩ := arg_struct Tryz.underlying33 p33_ (hval 0 33 v0 rfl rfl) h0
  obtain ⟨_, _, rfl, rfl, _, _, rfl, ⟨A0_1, c0_1, rfl, hc0_1, hr0_1⟩, _, _, rfl, ⟨A0_2, c0_2, rfl, hc0_2, hr0_2⟩, ⟨A0_3, c0_3, rfl, hc0_3, hr0_3⟩⟩ := hK0
  obtain ⟨g0_0, g0_1, g0_2, g0_3⟩ := g0
  obtain ⟨a1, rfl, rfl, rfl, w1⟩ := open_int Tryz.underlying3 (hval 1 3 v1 rfl rfl) h1
  clear hA0 hval0 hsz0
  obtain ⟨k, hk⟩ := Pure.FnExactDifferencesFor x0.1 x0.2.1 x0.2.2.1 x0.2.2.2 a1 g0_0 g0_1 g0_2 g0_3 w1
  refine (laws_FnExactDifferencesFor.calls k x0.1 A0_1 c0_1 x0.2.1 A0_2 c0_2 x0.2.2.1 A0_3 c0_3 x0.2.2.2 a1 true W hr0_1 hc0_1 hr0_2 hc0_2 hr0_3 hc0_3 rfl hk).mono fun e W' ⟨he, bel0⟩ => ?_
  have bel : Below W.heap.size W W' := bel0
  subst he
  exact ⟨_, rfl, _, _, _, [], _, [], hW', trodAll_mk1 (shut_bool Tryz.underlying4 _), (trodAll_cons_mk (Below.trod laidOut (by kernel_rfl) (of_decide_eq_true (by kernel_rfl)) k0 bel lt0) (trodAll_cons_mk (shut_int Tryz.underlying3 w1) trodAll_mk0)), rfl, bel.frame _, fun h => by cases h⟩
theorem funcNamed_ : Tryz.prog.funcNamed Rows.fnExactDifferencesForRow.func = some 4 := by kernel_rfl
theorem inPlace_ : Tryz.prog.inPlace 4 = Rows.fnExactDifferencesForRow.inPlace := by kernel_rfl
theorem unfollowed_ : Tryz.prog.unfollowed 4 = Rows.fnExactDifferencesForRow.unfollowed := by kernel_rfl
theorem recurses_ : Tryz.prog.recurses 4 = Rows.fnExactDifferencesForRow.recurses := by kernel_rfl
theorem varsNamed_ : Tryz.prog.varsNamed 4 = Rows.fnExactDifferencesForRow.named := by kernel_rfl
theorem closed_ : joinedFacts Tryz.prog 4 Tryz.f4 Rows.fnExactDifferencesForSpec Rows.fnExactDifferencesForRow = true := by
  unfold joinedFacts
  rw [inPlace_, unfollowed_, recurses_, varsNamed_]
  kernel_rfl
theorem over : Rows.fnExactDifferencesForRow.holds Tryz.pinned (OpenSpec.ofChange Rows.fnExactDifferencesForSpec) :=
  OpenClaim.holds_of_wide 4 Tryz.f4 rfl rfl rfl rfl rfl rfl rfl ⟨rfl, rfl, rfl, rfl, rfl⟩ rfl rfl rfl rfl rfl funcNamed_ Tryz.func4 closed_
    (of_decide_eq_true (by kernel_rfl)) (by unfold Func.isWrapper; first | (rw [if_pos (by decide +kernel)]; kernel_rfl) | (rw [if_neg (by decide +kernel)]; exact ⟨rfl, rfl⟩))
    (fun os started H enc _ => lifted os started H enc)
theorem proved : Rows.FnExactDifferencesForSaid := over
#print axioms proved
end Go.Proofs.YtkddpilambnicaaGreat.fnExactDifferencesFor
namespace Go.Proofs.YtkddpilambnicaaGreat
/-- The row, under a short name, for the claim. -/
theorem fnExactDifferencesFor_holds : Rows.FnExactDifferencesForSaid := fnExactDifferencesFor.proved
end Go.Proofs.YtkddpilambnicaaGreat
