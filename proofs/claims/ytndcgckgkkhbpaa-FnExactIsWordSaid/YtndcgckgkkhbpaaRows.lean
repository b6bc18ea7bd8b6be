/-
  No cell of these rows narrows 'for every input' (looked for: loops, veiled, ifaces, maps, wideKeys, modest, calm, conditions, laid).
  DERIVED. THE GIVEN ROWS OF THIS SEAT. 11 by the template 'for every input the law returns true; each argument reads behind the call as it read before'; 0 by the template 'total and deterministic' (their statements: YtndcgckgkkhbpaaTotals.lean).
  GIVEN WITH THE SEED: the statements are not yours to turn. If you find one false, say at which input.
  Laid BY PROGRAM, IN A SANDBOX (cutbox-rows.mjs): the forced cells as the released guide's own fill.sh prints them over the translation 6c26276b333f599a… (all of the seat's roots in one cut). By AI agents, Wed Nov 11 2026. No macro, syntax, notation, axiom, sorry.
-/
import Derived.Test.YtndcgckgkkhbpaaChecked
import GoSem.Claim
import GoSem.ClaimJoined
import GoSem.ClaimMapViews
import Derived.JoinedTies
import Derived.KernelRfl
namespace Go.Proofs.Ytndcgckgkkhbpaa
/- THE CELL 'sum', in the pinned program and in every row, IS THE sha256 OF THE DUMP (.gsa) THAT YtndcgckgkkhbpaaProg.lean LOADS. Nothing in Lean hashes anything: it is a label: what it is worth is what the hold of that sum in a sandbox is worth. -/
noncomputable def Try.pinned : Pinned := { name := "ytndcgckgkkhbpaa", sum := "6c26276b333f599a0bf14f5ad44410b48a13cf6afd5527f2ce558e4ce6957bc6", checked := Try.checked }
namespace Rows
def none {H : Type} : Left H := { results := [], args := [] }

/-- 'laws.FnExactNewLearner': WHATEVER THE INPUT: true; the input reads as it did. -/
def fnExactNewLearnerSpec : ChangeSpec := { name := "fnExactNewLearner", fn := fun _ => fun
  | [d] => { results := [.lit (.bool true)], args := [d] }
  | _ => none }
def fnExactNewLearnerRow : OpenClaim := { program := "ytndcgckgkkhbpaa", sum := "6c26276b333f599a0bf14f5ad44410b48a13cf6afd5527f2ce558e4ce6957bc6", func := "loop.example/g02080/laws.FnExactNewLearner", spec := "fnExactNewLearner", unfollowed := true, recurses := true, apart := false }
def FnExactNewLearnerSaid : Prop := fnExactNewLearnerRow.holds Try.pinned (OpenSpec.ofChange fnExactNewLearnerSpec)

/-- ITS FALSE NEIGHBOUR: 'it returns false'. Refute it at one input. -/
def fnExactNewLearnerWrong : ChangeSpec := { name := "fnExactNewLearner", fn := fun _ => fun
  | [d] => { results := [.lit (.bool false)], args := [d] }
  | _ => none }
def FnExactNewLearnerWrongFalsely : Prop := fnExactNewLearnerRow.holds Try.pinned (OpenSpec.ofChange fnExactNewLearnerWrong)

/-- 'laws.FnExactIsWord': WHATEVER THE INPUT: true; the input reads as it did. -/
def fnExactIsWordSpec : ChangeSpec := { name := "fnExactIsWord", fn := fun _ => fun
  | [d] => { results := [.lit (.bool true)], args := [d] }
  | _ => none }
def fnExactIsWordRow : OpenClaim := { program := "ytndcgckgkkhbpaa", sum := "6c26276b333f599a0bf14f5ad44410b48a13cf6afd5527f2ce558e4ce6957bc6", func := "loop.example/g02080/laws.FnExactIsWord", spec := "fnExactIsWord", unfollowed := true, recurses := true, apart := false }
def FnExactIsWordSaid : Prop := fnExactIsWordRow.holds Try.pinned (OpenSpec.ofChange fnExactIsWordSpec)

/-- ITS FALSE NEIGHBOUR: 'it returns false'. Refute it at one input. -/
def fnExactIsWordWrong : ChangeSpec := { name := "fnExactIsWord", fn := fun _ => fun
  | [d] => { results := [.lit (.bool false)], args := [d] }
  | _ => none }
def FnExactIsWordWrongFalsely : Prop := fnExactIsWordRow.holds Try.pinned (OpenSpec.ofChange fnExactIsWordWrong)

/-- 'laws.FnExactFindWeights': WHATEVER THE INPUT: true; the input reads as it did. -/
def fnExactFindWeightsSpec : ChangeSpec := { name := "fnExactFindWeights", fn := fun _ => fun
  | [d1, d2] => { results := [.lit (.bool true)], args := [d1, d2] }
  | _ => none }
def fnExactFindWeightsRow : OpenClaim := { program := "ytndcgckgkkhbpaa", sum := "6c26276b333f599a0bf14f5ad44410b48a13cf6afd5527f2ce558e4ce6957bc6", func := "loop.example/g02080/laws.FnExactFindWeights", spec := "fnExactFindWeights", unfollowed := true, recurses := true, apart := false }
def FnExactFindWeightsSaid : Prop := fnExactFindWeightsRow.holds Try.pinned (OpenSpec.ofChange fnExactFindWeightsSpec)

/-- ITS FALSE NEIGHBOUR: 'it returns false'. Refute it at one input. -/
def fnExactFindWeightsWrong : ChangeSpec := { name := "fnExactFindWeights", fn := fun _ => fun
  | [d1, d2] => { results := [.lit (.bool false)], args := [d1, d2] }
  | _ => none }
def FnExactFindWeightsWrongFalsely : Prop := fnExactFindWeightsRow.holds Try.pinned (OpenSpec.ofChange fnExactFindWeightsWrong)

/-- 'laws.FnExactParseChoices': WHATEVER THE INPUT: true; the input reads as it did. -/
def fnExactParseChoicesSpec : ChangeSpec := { name := "fnExactParseChoices", fn := fun _ => fun
  | [d] => { results := [.lit (.bool true)], args := [d] }
  | _ => none }
def fnExactParseChoicesRow : OpenClaim := { program := "ytndcgckgkkhbpaa", sum := "6c26276b333f599a0bf14f5ad44410b48a13cf6afd5527f2ce558e4ce6957bc6", func := "loop.example/g02080/laws.FnExactParseChoices", spec := "fnExactParseChoices", unfollowed := true, recurses := true, apart := false }
def FnExactParseChoicesSaid : Prop := fnExactParseChoicesRow.holds Try.pinned (OpenSpec.ofChange fnExactParseChoicesSpec)

/-- ITS FALSE NEIGHBOUR: 'it returns false'. Refute it at one input. -/
def fnExactParseChoicesWrong : ChangeSpec := { name := "fnExactParseChoices", fn := fun _ => fun
  | [d] => { results := [.lit (.bool false)], args := [d] }
  | _ => none }
def FnExactParseChoicesWrongFalsely : Prop := fnExactParseChoicesRow.holds Try.pinned (OpenSpec.ofChange fnExactParseChoicesWrong)

/-- 'laws.FnExactBiasedStrata': WHATEVER THE INPUT: true; the input reads as it did. -/
def fnExactBiasedStrataSpec : ChangeSpec := { name := "fnExactBiasedStrata", fn := fun _ => fun
  | [d1, d2] => { results := [.lit (.bool true)], args := [d1, d2] }
  | _ => none }
def fnExactBiasedStrataRow : OpenClaim := { program := "ytndcgckgkkhbpaa", sum := "6c26276b333f599a0bf14f5ad44410b48a13cf6afd5527f2ce558e4ce6957bc6", func := "loop.example/g02080/laws.FnExactBiasedStrata", spec := "fnExactBiasedStrata", unfollowed := true, recurses := true, apart := false }
def FnExactBiasedStrataSaid : Prop := fnExactBiasedStrataRow.holds Try.pinned (OpenSpec.ofChange fnExactBiasedStrataSpec)

/-- ITS FALSE NEIGHBOUR: 'it returns false'. Refute it at one input. -/
def fnExactBiasedStrataWrong : ChangeSpec := { name := "fnExactBiasedStrata", fn := fun _ => fun
  | [d1, d2] => { results := [.lit (.bool false)], args := [d1, d2] }
  | _ => none }
def FnExactBiasedStrataWrongFalsely : Prop := fnExactBiasedStrataRow.holds Try.pinned (OpenSpec.ofChange fnExactBiasedStrataWrong)

/-- 'laws.FnExactFootRows': WHATEVER THE INPUT: true; the input reads as it did. -/
def fnExactFootRowsSpec : ChangeSpec := { name := "fnExactFootRows", fn := fun _ => fun
  | [d1, d2] => { results := [.lit (.bool true)], args := [d1, d2] }
  | _ => none }
def fnExactFootRowsRow : OpenClaim := { program := "ytndcgckgkkhbpaa", sum := "6c26276b333f599a0bf14f5ad44410b48a13cf6afd5527f2ce558e4ce6957bc6", func := "loop.example/g02080/laws.FnExactFootRows", spec := "fnExactFootRows", unfollowed := true, recurses := true, apart := false }
def FnExactFootRowsSaid : Prop := fnExactFootRowsRow.holds Try.pinned (OpenSpec.ofChange fnExactFootRowsSpec)

/-- ITS FALSE NEIGHBOUR: 'it returns false'. Refute it at one input. -/
def fnExactFootRowsWrong : ChangeSpec := { name := "fnExactFootRows", fn := fun _ => fun
  | [d1, d2] => { results := [.lit (.bool false)], args := [d1, d2] }
  | _ => none }
def FnExactFootRowsWrongFalsely : Prop := fnExactFootRowsRow.holds Try.pinned (OpenSpec.ofChange fnExactFootRowsWrong)

/-- 'laws.FnExactActiveFaith': WHATEVER THE INPUT: true; the input reads as it did. -/
def fnExactActiveFaithSpec : ChangeSpec := { name := "fnExactActiveFaith", fn := fun _ => fun
  | [d1, d2, d3] => { results := [.lit (.bool true)], args := [d1, d2, d3] }
  | _ => none }
def fnExactActiveFaithRow : OpenClaim := { program := "ytndcgckgkkhbpaa", sum := "6c26276b333f599a0bf14f5ad44410b48a13cf6afd5527f2ce558e4ce6957bc6", func := "loop.example/g02080/laws.FnExactActiveFaith", spec := "fnExactActiveFaith", unfollowed := true, recurses := true, apart := false }
def FnExactActiveFaithSaid : Prop := fnExactActiveFaithRow.holds Try.pinned (OpenSpec.ofChange fnExactActiveFaithSpec)

/-- ITS FALSE NEIGHBOUR: 'it returns false'. Refute it at one input. -/
def fnExactActiveFaithWrong : ChangeSpec := { name := "fnExactActiveFaith", fn := fun _ => fun
  | [d1, d2, d3] => { results := [.lit (.bool false)], args := [d1, d2, d3] }
  | _ => none }
def FnExactActiveFaithWrongFalsely : Prop := fnExactActiveFaithRow.holds Try.pinned (OpenSpec.ofChange fnExactActiveFaithWrong)

/-- 'laws.FnExactHearRow': WHATEVER THE INPUT: true; the input reads as it did. -/
def fnExactHearRowSpec : ChangeSpec := { name := "fnExactHearRow", fn := fun _ => fun
  | [d1, d2] => { results := [.lit (.bool true)], args := [d1, d2] }
  | _ => none }
def fnExactHearRowRow : OpenClaim := { program := "ytndcgckgkkhbpaa", sum := "6c26276b333f599a0bf14f5ad44410b48a13cf6afd5527f2ce558e4ce6957bc6", func := "loop.example/g02080/laws.FnExactHearRow", spec := "fnExactHearRow", unfollowed := true, recurses := true, apart := false }
def FnExactHearRowSaid : Prop := fnExactHearRowRow.holds Try.pinned (OpenSpec.ofChange fnExactHearRowSpec)

/-- ITS FALSE NEIGHBOUR: 'it returns false'. Refute it at one input. -/
def fnExactHearRowWrong : ChangeSpec := { name := "fnExactHearRow", fn := fun _ => fun
  | [d1, d2] => { results := [.lit (.bool false)], args := [d1, d2] }
  | _ => none }
def FnExactHearRowWrongFalsely : Prop := fnExactHearRowRow.holds Try.pinned (OpenSpec.ofChange fnExactHearRowWrong)

/-- 'laws.FnExactStressOf': WHATEVER THE INPUT: true; the input reads as it did. -/
def fnExactStressOfSpec : ChangeSpec := { name := "fnExactStressOf", fn := fun _ => fun
  | [d1, d2] => { results := [.lit (.bool true)], args := [d1, d2] }
  | _ => none }
def fnExactStressOfRow : OpenClaim := { program := "ytndcgckgkkhbpaa", sum := "6c26276b333f599a0bf14f5ad44410b48a13cf6afd5527f2ce558e4ce6957bc6", func := "loop.example/g02080/laws.FnExactStressOf", spec := "fnExactStressOf", unfollowed := true, recurses := true, apart := false }
def FnExactStressOfSaid : Prop := fnExactStressOfRow.holds Try.pinned (OpenSpec.ofChange fnExactStressOfSpec)

/-- ITS FALSE NEIGHBOUR: 'it returns false'. Refute it at one input. -/
def fnExactStressOfWrong : ChangeSpec := { name := "fnExactStressOf", fn := fun _ => fun
  | [d1, d2] => { results := [.lit (.bool false)], args := [d1, d2] }
  | _ => none }
def FnExactStressOfWrongFalsely : Prop := fnExactStressOfRow.holds Try.pinned (OpenSpec.ofChange fnExactStressOfWrong)

/-- 'laws.FnExactBestMeasure': WHATEVER THE INPUT: true; the input reads as it did. -/
def fnExactBestMeasureSpec : ChangeSpec := { name := "fnExactBestMeasure", fn := fun _ => fun
  | [d1, d2] => { results := [.lit (.bool true)], args := [d1, d2] }
  | _ => none }
def fnExactBestMeasureRow : OpenClaim := { program := "ytndcgckgkkhbpaa", sum := "6c26276b333f599a0bf14f5ad44410b48a13cf6afd5527f2ce558e4ce6957bc6", func := "loop.example/g02080/laws.FnExactBestMeasure", spec := "fnExactBestMeasure", unfollowed := true, recurses := true, apart := false }
def FnExactBestMeasureSaid : Prop := fnExactBestMeasureRow.holds Try.pinned (OpenSpec.ofChange fnExactBestMeasureSpec)

/-- ITS FALSE NEIGHBOUR: 'it returns false'. Refute it at one input. -/
def fnExactBestMeasureWrong : ChangeSpec := { name := "fnExactBestMeasure", fn := fun _ => fun
  | [d1, d2] => { results := [.lit (.bool false)], args := [d1, d2] }
  | _ => none }
def FnExactBestMeasureWrongFalsely : Prop := fnExactBestMeasureRow.holds Try.pinned (OpenSpec.ofChange fnExactBestMeasureWrong)

/-- 'laws.FnExactHearAll': WHATEVER THE INPUT: true; the input reads as it did. -/
def fnExactHearAllSpec : ChangeSpec := { name := "fnExactHearAll", fn := fun _ => fun
  | [d1, d2, d3] => { results := [.lit (.bool true)], args := [d1, d2, d3] }
  | _ => none }
def fnExactHearAllRow : OpenClaim := { program := "ytndcgckgkkhbpaa", sum := "6c26276b333f599a0bf14f5ad44410b48a13cf6afd5527f2ce558e4ce6957bc6", func := "loop.example/g02080/laws.FnExactHearAll", spec := "fnExactHearAll", unfollowed := true, recurses := true, apart := false }
def FnExactHearAllSaid : Prop := fnExactHearAllRow.holds Try.pinned (OpenSpec.ofChange fnExactHearAllSpec)

/-- ITS FALSE NEIGHBOUR: 'it returns false'. Refute it at one input. -/
def fnExactHearAllWrong : ChangeSpec := { name := "fnExactHearAll", fn := fun _ => fun
  | [d1, d2, d3] => { results := [.lit (.bool false)], args := [d1, d2, d3] }
  | _ => none }
def FnExactHearAllWrongFalsely : Prop := fnExactHearAllRow.holds Try.pinned (OpenSpec.ofChange fnExactHearAllWrong)

/- THE SECOND FORM. 'bulk': how many values and letters a reading holds, each counted each time it is reached (what is shared counts as often as it is met; a slice's spare places count too). A statement '..UptoSaid' is the law's where the arguments, and the package variables that the reading takes, are together of bulk at most 1048576: NARROWER than '..Said'. Prove '..Said' where nothing that the law and all that it calls make is longer than what came in: it says more and counts as full. Else prove '..UptoSaid'. A law counts once. -/
mutual
def uptoBulk {H : Type} : DataW H → Nat
  | .lit (.string bytes) => bytes.length + 1
  | .lit _ => 1
  | .nil => 1
  | .ptr d => uptoBulk d + 1
  | .slice elems spare => uptoBulkAll elems + uptoBulkAll spare + 1
  | .agg parts => uptoBulkAll parts + 1
  | .iface _ d => uptoBulk d + 1
  | .map entries => uptoBulkEntries entries + 1
  | .held _ => 1
def uptoBulkAll {H : Type} : List (DataW H) → Nat
  | [] => 0
  | d :: r => uptoBulk d + uptoBulkAll r
def uptoBulkEntries {H : Type} : List (Lit × DataW H) → Nat
  | [] => 0
  | x :: r => uptoBulkEntry x + uptoBulkEntries r
def uptoBulkEntry {H : Type} : Lit × DataW H → Nat
  | (.string bytes, d) => bytes.length + uptoBulk d + 1
  | (_, d) => uptoBulk d + 1
 end
def uptoSmall : (H : Type) → List (DataW H) → Bool := fun _ ds => decide (uptoBulkAll ds ≤ 1048576)
def OpenSpec.upto (s : _root_.Go.ChangeSpec) : _root_.Go.OpenSpec := { _root_.Go.OpenSpec.ofChange s with cond := some uptoSmall }

/-- 'laws.FnExactNewLearner', WHERE WHAT IT READS IS OF BULK AT MOST 1048576: true; the input reads as it did. -/
def fnExactNewLearnerUptoRow : OpenClaim := { program := "ytndcgckgkkhbpaa", sum := "6c26276b333f599a0bf14f5ad44410b48a13cf6afd5527f2ce558e4ce6957bc6", func := "loop.example/g02080/laws.FnExactNewLearner", spec := "fnExactNewLearner", unfollowed := true, recurses := true, apart := false, narrowed := true }
def FnExactNewLearnerUptoSaid : Prop := fnExactNewLearnerUptoRow.holds Try.pinned (OpenSpec.upto fnExactNewLearnerSpec)

/-- 'laws.FnExactIsWord', WHERE WHAT IT READS IS OF BULK AT MOST 1048576: true; the input reads as it did. -/
def fnExactIsWordUptoRow : OpenClaim := { program := "ytndcgckgkkhbpaa", sum := "6c26276b333f599a0bf14f5ad44410b48a13cf6afd5527f2ce558e4ce6957bc6", func := "loop.example/g02080/laws.FnExactIsWord", spec := "fnExactIsWord", unfollowed := true, recurses := true, apart := false, narrowed := true }
def FnExactIsWordUptoSaid : Prop := fnExactIsWordUptoRow.holds Try.pinned (OpenSpec.upto fnExactIsWordSpec)

/-- 'laws.FnExactFindWeights', WHERE WHAT IT READS IS OF BULK AT MOST 1048576: true; the input reads as it did. -/
def fnExactFindWeightsUptoRow : OpenClaim := { program := "ytndcgckgkkhbpaa", sum := "6c26276b333f599a0bf14f5ad44410b48a13cf6afd5527f2ce558e4ce6957bc6", func := "loop.example/g02080/laws.FnExactFindWeights", spec := "fnExactFindWeights", unfollowed := true, recurses := true, apart := false, narrowed := true }
def FnExactFindWeightsUptoSaid : Prop := fnExactFindWeightsUptoRow.holds Try.pinned (OpenSpec.upto fnExactFindWeightsSpec)

/-- 'laws.FnExactParseChoices', WHERE WHAT IT READS IS OF BULK AT MOST 1048576: true; the input reads as it did. -/
def fnExactParseChoicesUptoRow : OpenClaim := { program := "ytndcgckgkkhbpaa", sum := "6c26276b333f599a0bf14f5ad44410b48a13cf6afd5527f2ce558e4ce6957bc6", func := "loop.example/g02080/laws.FnExactParseChoices", spec := "fnExactParseChoices", unfollowed := true, recurses := true, apart := false, narrowed := true }
def FnExactParseChoicesUptoSaid : Prop := fnExactParseChoicesUptoRow.holds Try.pinned (OpenSpec.upto fnExactParseChoicesSpec)

/-- 'laws.FnExactBiasedStrata', WHERE WHAT IT READS IS OF BULK AT MOST 1048576: true; the input reads as it did. -/
def fnExactBiasedStrataUptoRow : OpenClaim := { program := "ytndcgckgkkhbpaa", sum := "6c26276b333f599a0bf14f5ad44410b48a13cf6afd5527f2ce558e4ce6957bc6", func := "loop.example/g02080/laws.FnExactBiasedStrata", spec := "fnExactBiasedStrata", unfollowed := true, recurses := true, apart := false, narrowed := true }
def FnExactBiasedStrataUptoSaid : Prop := fnExactBiasedStrataUptoRow.holds Try.pinned (OpenSpec.upto fnExactBiasedStrataSpec)

/-- 'laws.FnExactFootRows', WHERE WHAT IT READS IS OF BULK AT MOST 1048576: true; the input reads as it did. -/
def fnExactFootRowsUptoRow : OpenClaim := { program := "ytndcgckgkkhbpaa", sum := "6c26276b333f599a0bf14f5ad44410b48a13cf6afd5527f2ce558e4ce6957bc6", func := "loop.example/g02080/laws.FnExactFootRows", spec := "fnExactFootRows", unfollowed := true, recurses := true, apart := false, narrowed := true }
def FnExactFootRowsUptoSaid : Prop := fnExactFootRowsUptoRow.holds Try.pinned (OpenSpec.upto fnExactFootRowsSpec)

/-- 'laws.FnExactActiveFaith', WHERE WHAT IT READS IS OF BULK AT MOST 1048576: true; the input reads as it did. -/
def fnExactActiveFaithUptoRow : OpenClaim := { program := "ytndcgckgkkhbpaa", sum := "6c26276b333f599a0bf14f5ad44410b48a13cf6afd5527f2ce558e4ce6957bc6", func := "loop.example/g02080/laws.FnExactActiveFaith", spec := "fnExactActiveFaith", unfollowed := true, recurses := true, apart := false, narrowed := true }
def FnExactActiveFaithUptoSaid : Prop := fnExactActiveFaithUptoRow.holds Try.pinned (OpenSpec.upto fnExactActiveFaithSpec)

/-- 'laws.FnExactHearRow', WHERE WHAT IT READS IS OF BULK AT MOST 1048576: true; the input reads as it did. -/
def fnExactHearRowUptoRow : OpenClaim := { program := "ytndcgckgkkhbpaa", sum := "6c26276b333f599a0bf14f5ad44410b48a13cf6afd5527f2ce558e4ce6957bc6", func := "loop.example/g02080/laws.FnExactHearRow", spec := "fnExactHearRow", unfollowed := true, recurses := true, apart := false, narrowed := true }
def FnExactHearRowUptoSaid : Prop := fnExactHearRowUptoRow.holds Try.pinned (OpenSpec.upto fnExactHearRowSpec)

/-- 'laws.FnExactStressOf', WHERE WHAT IT READS IS OF BULK AT MOST 1048576: true; the input reads as it did. -/
def fnExactStressOfUptoRow : OpenClaim := { program := "ytndcgckgkkhbpaa", sum := "6c26276b333f599a0bf14f5ad44410b48a13cf6afd5527f2ce558e4ce6957bc6", func := "loop.example/g02080/laws.FnExactStressOf", spec := "fnExactStressOf", unfollowed := true, recurses := true, apart := false, narrowed := true }
def FnExactStressOfUptoSaid : Prop := fnExactStressOfUptoRow.holds Try.pinned (OpenSpec.upto fnExactStressOfSpec)

/-- 'laws.FnExactBestMeasure', WHERE WHAT IT READS IS OF BULK AT MOST 1048576: true; the input reads as it did. -/
def fnExactBestMeasureUptoRow : OpenClaim := { program := "ytndcgckgkkhbpaa", sum := "6c26276b333f599a0bf14f5ad44410b48a13cf6afd5527f2ce558e4ce6957bc6", func := "loop.example/g02080/laws.FnExactBestMeasure", spec := "fnExactBestMeasure", unfollowed := true, recurses := true, apart := false, narrowed := true }
def FnExactBestMeasureUptoSaid : Prop := fnExactBestMeasureUptoRow.holds Try.pinned (OpenSpec.upto fnExactBestMeasureSpec)

/-- 'laws.FnExactHearAll', WHERE WHAT IT READS IS OF BULK AT MOST 1048576: true; the input reads as it did. -/
def fnExactHearAllUptoRow : OpenClaim := { program := "ytndcgckgkkhbpaa", sum := "6c26276b333f599a0bf14f5ad44410b48a13cf6afd5527f2ce558e4ce6957bc6", func := "loop.example/g02080/laws.FnExactHearAll", spec := "fnExactHearAll", unfollowed := true, recurses := true, apart := false, narrowed := true }
def FnExactHearAllUptoSaid : Prop := fnExactHearAllUptoRow.holds Try.pinned (OpenSpec.upto fnExactHearAllSpec)

end Rows
end Go.Proofs.Ytndcgckgkkhbpaa
