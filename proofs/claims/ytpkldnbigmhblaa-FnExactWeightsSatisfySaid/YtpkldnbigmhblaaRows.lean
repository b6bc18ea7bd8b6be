/-
  No cell of these rows narrows 'for every input' (looked for: loops, veiled, ifaces, maps, wideKeys, modest, calm, conditions, laid).
  DERIVED. THE GIVEN ROWS OF THIS SEAT. 6 by the template 'for every input the law returns true; each argument reads behind the call as it read before'; 0 by the template 'total and deterministic' (their statements: YtpkldnbigmhblaaTotals.lean).
  GIVEN WITH THE SEED: the statements are not yours to turn. If you find one false, say at which input.
  Laid BY PROGRAM, IN A SANDBOX (cutbox-rows.mjs): the forced cells as the released guide's own fill.sh prints them over the translation a059aff458e20de8… (all of the seat's roots in one cut). By AI agents, Wed Nov 11 2026. No macro, syntax, notation, axiom, sorry.
-/
import Derived.Test.YtpkldnbigmhblaaChecked
import GoSem.Claim
import GoSem.ClaimJoined
import GoSem.ClaimMapViews
import Derived.JoinedTies
import Derived.KernelRfl
namespace Go.Proofs.Ytpkldnbigmhblaa
/- THE CELL 'sum', in the pinned program and in every row, IS THE sha256 OF THE DUMP (.gsa) THAT YtpkldnbigmhblaaProg.lean LOADS. Nothing in Lean hashes anything: it is a label: what it is worth is what the hold of that sum in a sandbox is worth. -/
noncomputable def Try.pinned : Pinned := { name := "ytpkldnbigmhblaa", sum := "a059aff458e20de8502e96fdf7eb7ea662b4a9e117a2ab2ebd48a8abd58c983d", checked := Try.checked }
namespace Rows
def none {H : Type} : Left H := { results := [], args := [] }

/-- 'laws.FnExactMistakeBound': WHATEVER THE INPUT: true; the input reads as it did. -/
def fnExactMistakeBoundSpec : ChangeSpec := { name := "fnExactMistakeBound", fn := fun _ => fun
  | [d] => { results := [.lit (.bool true)], args := [d] }
  | _ => none }
def fnExactMistakeBoundRow : OpenClaim := { program := "ytpkldnbigmhblaa", sum := "a059aff458e20de8502e96fdf7eb7ea662b4a9e117a2ab2ebd48a8abd58c983d", func := "loop.example/g02080/laws.FnExactMistakeBound", spec := "fnExactMistakeBound", apart := false }
def FnExactMistakeBoundSaid : Prop := fnExactMistakeBoundRow.holds Try.pinned (OpenSpec.ofChange fnExactMistakeBoundSpec)

/-- ITS FALSE NEIGHBOUR: 'it returns false'. Refute it at one input. -/
def fnExactMistakeBoundWrong : ChangeSpec := { name := "fnExactMistakeBound", fn := fun _ => fun
  | [d] => { results := [.lit (.bool false)], args := [d] }
  | _ => none }
def FnExactMistakeBoundWrongFalsely : Prop := fnExactMistakeBoundRow.holds Try.pinned (OpenSpec.ofChange fnExactMistakeBoundWrong)

/-- 'laws.FnExactAreWeights': WHATEVER THE INPUT: true; the input reads as it did. -/
def fnExactAreWeightsSpec : ChangeSpec := { name := "fnExactAreWeights", fn := fun _ => fun
  | [d1, d2] => { results := [.lit (.bool true)], args := [d1, d2] }
  | _ => none }
def fnExactAreWeightsRow : OpenClaim := { program := "ytpkldnbigmhblaa", sum := "a059aff458e20de8502e96fdf7eb7ea662b4a9e117a2ab2ebd48a8abd58c983d", func := "loop.example/g02080/laws.FnExactAreWeights", spec := "fnExactAreWeights", apart := false }
def FnExactAreWeightsSaid : Prop := fnExactAreWeightsRow.holds Try.pinned (OpenSpec.ofChange fnExactAreWeightsSpec)

/-- ITS FALSE NEIGHBOUR: 'it returns false'. Refute it at one input. -/
def fnExactAreWeightsWrong : ChangeSpec := { name := "fnExactAreWeights", fn := fun _ => fun
  | [d1, d2] => { results := [.lit (.bool false)], args := [d1, d2] }
  | _ => none }
def FnExactAreWeightsWrongFalsely : Prop := fnExactAreWeightsRow.holds Try.pinned (OpenSpec.ofChange fnExactAreWeightsWrong)

/-- 'laws.FnExactHarmonyOf': WHATEVER THE INPUT: true; the input reads as it did. -/
def fnExactHarmonyOfSpec : ChangeSpec := { name := "fnExactHarmonyOf", fn := fun _ => fun
  | [d1, d2] => { results := [.lit (.bool true)], args := [d1, d2] }
  | _ => none }
def fnExactHarmonyOfRow : OpenClaim := { program := "ytpkldnbigmhblaa", sum := "a059aff458e20de8502e96fdf7eb7ea662b4a9e117a2ab2ebd48a8abd58c983d", func := "loop.example/g02080/laws.FnExactHarmonyOf", spec := "fnExactHarmonyOf", apart := false }
def FnExactHarmonyOfSaid : Prop := fnExactHarmonyOfRow.holds Try.pinned (OpenSpec.ofChange fnExactHarmonyOfSpec)

/-- ITS FALSE NEIGHBOUR: 'it returns false'. Refute it at one input. -/
def fnExactHarmonyOfWrong : ChangeSpec := { name := "fnExactHarmonyOf", fn := fun _ => fun
  | [d1, d2] => { results := [.lit (.bool false)], args := [d1, d2] }
  | _ => none }
def FnExactHarmonyOfWrongFalsely : Prop := fnExactHarmonyOfRow.holds Try.pinned (OpenSpec.ofChange fnExactHarmonyOfWrong)

/-- 'laws.FnExactShareOfOutput': WHATEVER THE INPUT: true; the input reads as it did. -/
def fnExactShareOfOutputSpec : ChangeSpec := { name := "fnExactShareOfOutput", fn := fun _ => fun
  | [d1, d2] => { results := [.lit (.bool true)], args := [d1, d2] }
  | _ => none }
def fnExactShareOfOutputRow : OpenClaim := { program := "ytpkldnbigmhblaa", sum := "a059aff458e20de8502e96fdf7eb7ea662b4a9e117a2ab2ebd48a8abd58c983d", func := "loop.example/g02080/laws.FnExactShareOfOutput", spec := "fnExactShareOfOutput", apart := false }
def FnExactShareOfOutputSaid : Prop := fnExactShareOfOutputRow.holds Try.pinned (OpenSpec.ofChange fnExactShareOfOutputSpec)

/-- ITS FALSE NEIGHBOUR: 'it returns false'. Refute it at one input. -/
def fnExactShareOfOutputWrong : ChangeSpec := { name := "fnExactShareOfOutput", fn := fun _ => fun
  | [d1, d2] => { results := [.lit (.bool false)], args := [d1, d2] }
  | _ => none }
def FnExactShareOfOutputWrongFalsely : Prop := fnExactShareOfOutputRow.holds Try.pinned (OpenSpec.ofChange fnExactShareOfOutputWrong)

/-- 'laws.FnExactTotalShares': WHATEVER THE INPUT: true; the input reads as it did. -/
def fnExactTotalSharesSpec : ChangeSpec := { name := "fnExactTotalShares", fn := fun _ => fun
  | [d] => { results := [.lit (.bool true)], args := [d] }
  | _ => none }
def fnExactTotalSharesRow : OpenClaim := { program := "ytpkldnbigmhblaa", sum := "a059aff458e20de8502e96fdf7eb7ea662b4a9e117a2ab2ebd48a8abd58c983d", func := "loop.example/g02080/laws.FnExactTotalShares", spec := "fnExactTotalShares", apart := false }
def FnExactTotalSharesSaid : Prop := fnExactTotalSharesRow.holds Try.pinned (OpenSpec.ofChange fnExactTotalSharesSpec)

/-- ITS FALSE NEIGHBOUR: 'it returns false'. Refute it at one input. -/
def fnExactTotalSharesWrong : ChangeSpec := { name := "fnExactTotalShares", fn := fun _ => fun
  | [d] => { results := [.lit (.bool false)], args := [d] }
  | _ => none }
def FnExactTotalSharesWrongFalsely : Prop := fnExactTotalSharesRow.holds Try.pinned (OpenSpec.ofChange fnExactTotalSharesWrong)

/-- 'laws.FnExactWeightsSatisfy': WHATEVER THE INPUT: true; the input reads as it did. -/
def fnExactWeightsSatisfySpec : ChangeSpec := { name := "fnExactWeightsSatisfy", fn := fun _ => fun
  | [d1, d2] => { results := [.lit (.bool true)], args := [d1, d2] }
  | _ => none }
def fnExactWeightsSatisfyRow : OpenClaim := { program := "ytpkldnbigmhblaa", sum := "a059aff458e20de8502e96fdf7eb7ea662b4a9e117a2ab2ebd48a8abd58c983d", func := "loop.example/g02080/laws.FnExactWeightsSatisfy", spec := "fnExactWeightsSatisfy", apart := false }
def FnExactWeightsSatisfySaid : Prop := fnExactWeightsSatisfyRow.holds Try.pinned (OpenSpec.ofChange fnExactWeightsSatisfySpec)

/-- ITS FALSE NEIGHBOUR: 'it returns false'. Refute it at one input. -/
def fnExactWeightsSatisfyWrong : ChangeSpec := { name := "fnExactWeightsSatisfy", fn := fun _ => fun
  | [d1, d2] => { results := [.lit (.bool false)], args := [d1, d2] }
  | _ => none }
def FnExactWeightsSatisfyWrongFalsely : Prop := fnExactWeightsSatisfyRow.holds Try.pinned (OpenSpec.ofChange fnExactWeightsSatisfyWrong)

/- THE SECOND FORM. 'bulk': how many values and letters a reading holds, each counted each time it is reached (what is shared counts as often as it is met; a slice's spare places count too). A statement '..UptoSaid' is the law's where the arguments, and the package variables that the reading takes, are together of bulk at most 1048576: NARROWER than '..Said'. Prove '..Said' where nothing that the law and all that it calls make is longer than what came in: it says more and counts as full. Else prove '..UptoSaid'. A law counts once. -/
mutual
def uptoBulk {H : Type} : DataW H → Nat
  | .lit (.string bytes) => bytes.length + 1
  | .lit _ => 1
  | .nil => 1
  | .ptr d => uptoBulk d + 1
  | .slice elems spare => uptoBulkAll elems + uptoBulkAll spare + 1
  | .agg parts => uptoBulkAll parts + 1
  | .iface _ d => uptoBulk d + 1
  | .map entries => uptoBulkEntries entries + 1
  | .held _ => 1
def uptoBulkAll {H : Type} : List (DataW H) → Nat
  | [] => 0
  | d :: r => uptoBulk d + uptoBulkAll r
def uptoBulkEntries {H : Type} : List (Lit × DataW H) → Nat
  | [] => 0
  | x :: r => uptoBulkEntry x + uptoBulkEntries r
def uptoBulkEntry {H : Type} : Lit × DataW H → Nat
  | (.string bytes, d) => bytes.length + uptoBulk d + 1
  | (_, d) => uptoBulk d + 1
 end
def uptoSmall : (H : Type) → List (DataW H) → Bool := fun _ ds => decide (uptoBulkAll ds ≤ 1048576)
def OpenSpec.upto (s : _root_.Go.ChangeSpec) : _root_.Go.OpenSpec := { _root_.Go.OpenSpec.ofChange s with cond := some uptoSmall }

/-- 'laws.FnExactMistakeBound', WHERE WHAT IT READS IS OF BULK AT MOST 1048576: true; the input reads as it did. -/
def fnExactMistakeBoundUptoRow : OpenClaim := { program := "ytpkldnbigmhblaa", sum := "a059aff458e20de8502e96fdf7eb7ea662b4a9e117a2ab2ebd48a8abd58c983d", func := "loop.example/g02080/laws.FnExactMistakeBound", spec := "fnExactMistakeBound", apart := false, narrowed := true }
def FnExactMistakeBoundUptoSaid : Prop := fnExactMistakeBoundUptoRow.holds Try.pinned (OpenSpec.upto fnExactMistakeBoundSpec)

/-- 'laws.FnExactAreWeights', WHERE WHAT IT READS IS OF BULK AT MOST 1048576: true; the input reads as it did. -/
def fnExactAreWeightsUptoRow : OpenClaim := { program := "ytpkldnbigmhblaa", sum := "a059aff458e20de8502e96fdf7eb7ea662b4a9e117a2ab2ebd48a8abd58c983d", func := "loop.example/g02080/laws.FnExactAreWeights", spec := "fnExactAreWeights", apart := false, narrowed := true }
def FnExactAreWeightsUptoSaid : Prop := fnExactAreWeightsUptoRow.holds Try.pinned (OpenSpec.upto fnExactAreWeightsSpec)

/-- 'laws.FnExactHarmonyOf', WHERE WHAT IT READS IS OF BULK AT MOST 1048576: true; the input reads as it did. -/
def fnExactHarmonyOfUptoRow : OpenClaim := { program := "ytpkldnbigmhblaa", sum := "a059aff458e20de8502e96fdf7eb7ea662b4a9e117a2ab2ebd48a8abd58c983d", func := "loop.example/g02080/laws.FnExactHarmonyOf", spec := "fnExactHarmonyOf", apart := false, narrowed := true }
def FnExactHarmonyOfUptoSaid : Prop := fnExactHarmonyOfUptoRow.holds Try.pinned (OpenSpec.upto fnExactHarmonyOfSpec)

/-- 'laws.FnExactShareOfOutput', WHERE WHAT IT READS IS OF BULK AT MOST 1048576: true; the input reads as it did. -/
def fnExactShareOfOutputUptoRow : OpenClaim := { program := "ytpkldnbigmhblaa", sum := "a059aff458e20de8502e96fdf7eb7ea662b4a9e117a2ab2ebd48a8abd58c983d", func := "loop.example/g02080/laws.FnExactShareOfOutput", spec := "fnExactShareOfOutput", apart := false, narrowed := true }
def FnExactShareOfOutputUptoSaid : Prop := fnExactShareOfOutputUptoRow.holds Try.pinned (OpenSpec.upto fnExactShareOfOutputSpec)

/-- 'laws.FnExactTotalShares', WHERE WHAT IT READS IS OF BULK AT MOST 1048576: true; the input reads as it did. -/
def fnExactTotalSharesUptoRow : OpenClaim := { program := "ytpkldnbigmhblaa", sum := "a059aff458e20de8502e96fdf7eb7ea662b4a9e117a2ab2ebd48a8abd58c983d", func := "loop.example/g02080/laws.FnExactTotalShares", spec := "fnExactTotalShares", apart := false, narrowed := true }
def FnExactTotalSharesUptoSaid : Prop := fnExactTotalSharesUptoRow.holds Try.pinned (OpenSpec.upto fnExactTotalSharesSpec)

/-- 'laws.FnExactWeightsSatisfy', WHERE WHAT IT READS IS OF BULK AT MOST 1048576: true; the input reads as it did. -/
def fnExactWeightsSatisfyUptoRow : OpenClaim := { program := "ytpkldnbigmhblaa", sum := "a059aff458e20de8502e96fdf7eb7ea662b4a9e117a2ab2ebd48a8abd58c983d", func := "loop.example/g02080/laws.FnExactWeightsSatisfy", spec := "fnExactWeightsSatisfy", apart := false, narrowed := true }
def FnExactWeightsSatisfyUptoSaid : Prop := fnExactWeightsSatisfyUptoRow.holds Try.pinned (OpenSpec.upto fnExactWeightsSatisfySpec)

end Rows
end Go.Proofs.Ytpkldnbigmhblaa
