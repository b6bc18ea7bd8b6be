/-
  No cell of these rows narrows 'for every input' (looked for: loops, veiled, ifaces, maps, wideKeys, modest, calm, conditions, laid).
  DERIVED. THE GIVEN ROWS OF THIS SEAT. 11 by the template 'for every input the law returns true; each argument reads behind the call as it read before'; 0 by the template 'total and deterministic' (their statements: YtcebnmagigadpaaTotals.lean).
  GIVEN WITH THE SEED: the statements are not yours to turn. If you find one false, say at which input.
  Laid BY PROGRAM, IN A SANDBOX (cutbox-rows.mjs): the forced cells as the released guide's own fill.sh prints them over the translation daa763c897b714b4… (all of the seat's roots in one cut). By AI agents, Wed Nov 11 2026. No macro, syntax, notation, axiom, sorry.
-/
import Derived.Test.YtcebnmagigadpaaChecked
import GoSem.Claim
import GoSem.ClaimJoined
import GoSem.ClaimMapViews
import Derived.JoinedTies
import Derived.KernelRfl
namespace Go.Proofs.Ytcebnmagigadpaa
/- THE CELL 'sum', in the pinned program and in every row, IS THE sha256 OF THE DUMP (.gsa) THAT YtcebnmagigadpaaProg.lean LOADS. Nothing in Lean hashes anything: it is a label: what it is worth is what the hold of that sum in a sandbox is worth. -/
noncomputable def Try.pinned : Pinned := { name := "ytcebnmagigadpaa", sum := "daa763c897b714b4509fbf9471d981084c86bf2ba91204930a38b8d41b50b867", checked := Try.checked }
namespace Rows
def none {H : Type} : Left H := { results := [], args := [] }

/-- 'laws.FnExactEqualLearners': WHATEVER THE INPUT: true; the input reads as it did. -/
def fnExactEqualLearnersSpec : ChangeSpec := { name := "fnExactEqualLearners", fn := fun _ => fun
  | [d1, d2] => { results := [.lit (.bool true)], args := [d1, d2] }
  | _ => none }
def fnExactEqualLearnersRow : OpenClaim := { program := "ytcebnmagigadpaa", sum := "daa763c897b714b4509fbf9471d981084c86bf2ba91204930a38b8d41b50b867", func := "loop.example/g02080/laws.FnExactEqualLearners", spec := "fnExactEqualLearners", unfollowed := true, recurses := true, apart := false }
def FnExactEqualLearnersSaid : Prop := fnExactEqualLearnersRow.holds Try.pinned (OpenSpec.ofChange fnExactEqualLearnersSpec)

/-- ITS FALSE NEIGHBOUR: 'it returns false'. Refute it at one input. -/
def fnExactEqualLearnersWrong : ChangeSpec := { name := "fnExactEqualLearners", fn := fun _ => fun
  | [d1, d2] => { results := [.lit (.bool false)], args := [d1, d2] }
  | _ => none }
def FnExactEqualLearnersWrongFalsely : Prop := fnExactEqualLearnersRow.holds Try.pinned (OpenSpec.ofChange fnExactEqualLearnersWrong)

/-- 'laws.FnExactNewLearner': WHATEVER THE INPUT: true; the input reads as it did. -/
def fnExactNewLearnerSpec : ChangeSpec := { name := "fnExactNewLearner", fn := fun _ => fun
  | [d] => { results := [.lit (.bool true)], args := [d] }
  | _ => none }
def fnExactNewLearnerRow : OpenClaim := { program := "ytcebnmagigadpaa", sum := "daa763c897b714b4509fbf9471d981084c86bf2ba91204930a38b8d41b50b867", func := "loop.example/g02080/laws.FnExactNewLearner", spec := "fnExactNewLearner", unfollowed := true, recurses := true, apart := false }
def FnExactNewLearnerSaid : Prop := fnExactNewLearnerRow.holds Try.pinned (OpenSpec.ofChange fnExactNewLearnerSpec)

/-- ITS FALSE NEIGHBOUR: 'it returns false'. Refute it at one input. -/
def fnExactNewLearnerWrong : ChangeSpec := { name := "fnExactNewLearner", fn := fun _ => fun
  | [d] => { results := [.lit (.bool false)], args := [d] }
  | _ => none }
def FnExactNewLearnerWrongFalsely : Prop := fnExactNewLearnerRow.holds Try.pinned (OpenSpec.ofChange fnExactNewLearnerWrong)

/-- 'laws.FnExactIsWord': WHATEVER THE INPUT: true; the input reads as it did. -/
def fnExactIsWordSpec : ChangeSpec := { name := "fnExactIsWord", fn := fun _ => fun
  | [d] => { results := [.lit (.bool true)], args := [d] }
  | _ => none }
def fnExactIsWordRow : OpenClaim := { program := "ytcebnmagigadpaa", sum := "daa763c897b714b4509fbf9471d981084c86bf2ba91204930a38b8d41b50b867", func := "loop.example/g02080/laws.FnExactIsWord", spec := "fnExactIsWord", unfollowed := true, recurses := true, apart := false }
def FnExactIsWordSaid : Prop := fnExactIsWordRow.holds Try.pinned (OpenSpec.ofChange fnExactIsWordSpec)

/-- ITS FALSE NEIGHBOUR: 'it returns false'. Refute it at one input. -/
def fnExactIsWordWrong : ChangeSpec := { name := "fnExactIsWord", fn := fun _ => fun
  | [d] => { results := [.lit (.bool false)], args := [d] }
  | _ => none }
def FnExactIsWordWrongFalsely : Prop := fnExactIsWordRow.holds Try.pinned (OpenSpec.ofChange fnExactIsWordWrong)

/-- 'laws.FnExactFindWeights': WHATEVER THE INPUT: true; the input reads as it did. -/
def fnExactFindWeightsSpec : ChangeSpec := { name := "fnExactFindWeights", fn := fun _ => fun
  | [d1, d2] => { results := [.lit (.bool true)], args := [d1, d2] }
  | _ => none }
def fnExactFindWeightsRow : OpenClaim := { program := "ytcebnmagigadpaa", sum := "daa763c897b714b4509fbf9471d981084c86bf2ba91204930a38b8d41b50b867", func := "loop.example/g02080/laws.FnExactFindWeights", spec := "fnExactFindWeights", unfollowed := true, recurses := true, apart := false }
def FnExactFindWeightsSaid : Prop := fnExactFindWeightsRow.holds Try.pinned (OpenSpec.ofChange fnExactFindWeightsSpec)

/-- ITS FALSE NEIGHBOUR: 'it returns false'. Refute it at one input. -/
def fnExactFindWeightsWrong : ChangeSpec := { name := "fnExactFindWeights", fn := fun _ => fun
  | [d1, d2] => { results := [.lit (.bool false)], args := [d1, d2] }
  | _ => none }
def FnExactFindWeightsWrongFalsely : Prop := fnExactFindWeightsRow.holds Try.pinned (OpenSpec.ofChange fnExactFindWeightsWrong)

/-- 'laws.FnExactFormatDerivation': WHATEVER THE INPUT: true; the input reads as it did. -/
def fnExactFormatDerivationSpec : ChangeSpec := { name := "fnExactFormatDerivation", fn := fun _ => fun
  | [d] => { results := [.lit (.bool true)], args := [d] }
  | _ => none }
def fnExactFormatDerivationRow : OpenClaim := { program := "ytcebnmagigadpaa", sum := "daa763c897b714b4509fbf9471d981084c86bf2ba91204930a38b8d41b50b867", func := "loop.example/g02080/laws.FnExactFormatDerivation", spec := "fnExactFormatDerivation", inPlace := ["internal/bytealg.IndexByteString", "internal/abi.NoEscape", "internal/bytealg.MakeNoZero"], apart := false }
def FnExactFormatDerivationSaid : Prop := fnExactFormatDerivationRow.holds Try.pinned (OpenSpec.ofChange fnExactFormatDerivationSpec)

/-- ITS FALSE NEIGHBOUR: 'it returns false'. Refute it at one input. -/
def fnExactFormatDerivationWrong : ChangeSpec := { name := "fnExactFormatDerivation", fn := fun _ => fun
  | [d] => { results := [.lit (.bool false)], args := [d] }
  | _ => none }
def FnExactFormatDerivationWrongFalsely : Prop := fnExactFormatDerivationRow.holds Try.pinned (OpenSpec.ofChange fnExactFormatDerivationWrong)

/-- 'laws.FnExactParseChoices': WHATEVER THE INPUT: true; the input reads as it did. -/
def fnExactParseChoicesSpec : ChangeSpec := { name := "fnExactParseChoices", fn := fun _ => fun
  | [d] => { results := [.lit (.bool true)], args := [d] }
  | _ => none }
def fnExactParseChoicesRow : OpenClaim := { program := "ytcebnmagigadpaa", sum := "daa763c897b714b4509fbf9471d981084c86bf2ba91204930a38b8d41b50b867", func := "loop.example/g02080/laws.FnExactParseChoices", spec := "fnExactParseChoices", unfollowed := true, recurses := true, apart := false }
def FnExactParseChoicesSaid : Prop := fnExactParseChoicesRow.holds Try.pinned (OpenSpec.ofChange fnExactParseChoicesSpec)

/-- ITS FALSE NEIGHBOUR: 'it returns false'. Refute it at one input. -/
def fnExactParseChoicesWrong : ChangeSpec := { name := "fnExactParseChoices", fn := fun _ => fun
  | [d] => { results := [.lit (.bool false)], args := [d] }
  | _ => none }
def FnExactParseChoicesWrongFalsely : Prop := fnExactParseChoicesRow.holds Try.pinned (OpenSpec.ofChange fnExactParseChoicesWrong)

/-- 'laws.FnExactBiasedStrata': WHATEVER THE INPUT: true; the input reads as it did. -/
def fnExactBiasedStrataSpec : ChangeSpec := { name := "fnExactBiasedStrata", fn := fun _ => fun
  | [d1, d2] => { results := [.lit (.bool true)], args := [d1, d2] }
  | _ => none }
def fnExactBiasedStrataRow : OpenClaim := { program := "ytcebnmagigadpaa", sum := "daa763c897b714b4509fbf9471d981084c86bf2ba91204930a38b8d41b50b867", func := "loop.example/g02080/laws.FnExactBiasedStrata", spec := "fnExactBiasedStrata", unfollowed := true, recurses := true, apart := false }
def FnExactBiasedStrataSaid : Prop := fnExactBiasedStrataRow.holds Try.pinned (OpenSpec.ofChange fnExactBiasedStrataSpec)

/-- ITS FALSE NEIGHBOUR: 'it returns false'. Refute it at one input. -/
def fnExactBiasedStrataWrong : ChangeSpec := { name := "fnExactBiasedStrata", fn := fun _ => fun
  | [d1, d2] => { results := [.lit (.bool false)], args := [d1, d2] }
  | _ => none }
def FnExactBiasedStrataWrongFalsely : Prop := fnExactBiasedStrataRow.holds Try.pinned (OpenSpec.ofChange fnExactBiasedStrataWrong)

/-- 'laws.FnExactWeightsOfRanking': WHATEVER THE INPUT: true; the input reads as it did. -/
def fnExactWeightsOfRankingSpec : ChangeSpec := { name := "fnExactWeightsOfRanking", fn := fun _ => fun
  | [d] => { results := [.lit (.bool true)], args := [d] }
  | _ => none }
def fnExactWeightsOfRankingRow : OpenClaim := { program := "ytcebnmagigadpaa", sum := "daa763c897b714b4509fbf9471d981084c86bf2ba91204930a38b8d41b50b867", func := "loop.example/g02080/laws.FnExactWeightsOfRanking", spec := "fnExactWeightsOfRanking", unfollowed := true, recurses := true, apart := false }
def FnExactWeightsOfRankingSaid : Prop := fnExactWeightsOfRankingRow.holds Try.pinned (OpenSpec.ofChange fnExactWeightsOfRankingSpec)

/-- ITS FALSE NEIGHBOUR: 'it returns false'. Refute it at one input. -/
def fnExactWeightsOfRankingWrong : ChangeSpec := { name := "fnExactWeightsOfRanking", fn := fun _ => fun
  | [d] => { results := [.lit (.bool false)], args := [d] }
  | _ => none }
def FnExactWeightsOfRankingWrongFalsely : Prop := fnExactWeightsOfRankingRow.holds Try.pinned (OpenSpec.ofChange fnExactWeightsOfRankingWrong)

/-- 'laws.FnExactFootRows': WHATEVER THE INPUT: true; the input reads as it did. -/
def fnExactFootRowsSpec : ChangeSpec := { name := "fnExactFootRows", fn := fun _ => fun
  | [d1, d2] => { results := [.lit (.bool true)], args := [d1, d2] }
  | _ => none }
def fnExactFootRowsRow : OpenClaim := { program := "ytcebnmagigadpaa", sum := "daa763c897b714b4509fbf9471d981084c86bf2ba91204930a38b8d41b50b867", func := "loop.example/g02080/laws.FnExactFootRows", spec := "fnExactFootRows", unfollowed := true, recurses := true, apart := false }
def FnExactFootRowsSaid : Prop := fnExactFootRowsRow.holds Try.pinned (OpenSpec.ofChange fnExactFootRowsSpec)

/-- ITS FALSE NEIGHBOUR: 'it returns false'. Refute it at one input. -/
def fnExactFootRowsWrong : ChangeSpec := { name := "fnExactFootRows", fn := fun _ => fun
  | [d1, d2] => { results := [.lit (.bool false)], args := [d1, d2] }
  | _ => none }
def FnExactFootRowsWrongFalsely : Prop := fnExactFootRowsRow.holds Try.pinned (OpenSpec.ofChange fnExactFootRowsWrong)

/-- 'laws.FnExactFaithBelow': WHATEVER THE INPUT: true; the input reads as it did. -/
def fnExactFaithBelowSpec : ChangeSpec := { name := "fnExactFaithBelow", fn := fun _ => fun
  | [d1, d2] => { results := [.lit (.bool true)], args := [d1, d2] }
  | _ => none }
def fnExactFaithBelowRow : OpenClaim := { program := "ytcebnmagigadpaa", sum := "daa763c897b714b4509fbf9471d981084c86bf2ba91204930a38b8d41b50b867", func := "loop.example/g02080/laws.FnExactFaithBelow", spec := "fnExactFaithBelow", unfollowed := true, recurses := true, apart := false }
def FnExactFaithBelowSaid : Prop := fnExactFaithBelowRow.holds Try.pinned (OpenSpec.ofChange fnExactFaithBelowSpec)

/-- ITS FALSE NEIGHBOUR: 'it returns false'. Refute it at one input. -/
def fnExactFaithBelowWrong : ChangeSpec := { name := "fnExactFaithBelow", fn := fun _ => fun
  | [d1, d2] => { results := [.lit (.bool false)], args := [d1, d2] }
  | _ => none }
def FnExactFaithBelowWrongFalsely : Prop := fnExactFaithBelowRow.holds Try.pinned (OpenSpec.ofChange fnExactFaithBelowWrong)

/-- 'laws.FnExactIsLearner': WHATEVER THE INPUT: true; the input reads as it did. -/
def fnExactIsLearnerSpec : ChangeSpec := { name := "fnExactIsLearner", fn := fun _ => fun
  | [d] => { results := [.lit (.bool true)], args := [d] }
  | _ => none }
def fnExactIsLearnerRow : OpenClaim := { program := "ytcebnmagigadpaa", sum := "daa763c897b714b4509fbf9471d981084c86bf2ba91204930a38b8d41b50b867", func := "loop.example/g02080/laws.FnExactIsLearner", spec := "fnExactIsLearner", unfollowed := true, recurses := true, apart := false }
def FnExactIsLearnerSaid : Prop := fnExactIsLearnerRow.holds Try.pinned (OpenSpec.ofChange fnExactIsLearnerSpec)

/-- ITS FALSE NEIGHBOUR: 'it returns false'. Refute it at one input. -/
def fnExactIsLearnerWrong : ChangeSpec := { name := "fnExactIsLearner", fn := fun _ => fun
  | [d] => { results := [.lit (.bool false)], args := [d] }
  | _ => none }
def FnExactIsLearnerWrongFalsely : Prop := fnExactIsLearnerRow.holds Try.pinned (OpenSpec.ofChange fnExactIsLearnerWrong)

/- THE SECOND FORM. 'bulk': how many values and letters a reading holds, each counted each time it is reached (what is shared counts as often as it is met; a slice's spare places count too). A statement '..UptoSaid' is the law's where the arguments, and the package variables that the reading takes, are together of bulk at most 1048576: NARROWER than '..Said'. Prove '..Said' where nothing that the law and all that it calls make is longer than what came in: it says more and counts as full. Else prove '..UptoSaid'. A law counts once. -/
mutual
def uptoBulk {H : Type} : DataW H → Nat
  | .lit (.string bytes) => bytes.length + 1
  | .lit _ => 1
  | .nil => 1
  | .ptr d => uptoBulk d + 1
  | .slice elems spare => uptoBulkAll elems + uptoBulkAll spare + 1
  | .agg parts => uptoBulkAll parts + 1
  | .iface _ d => uptoBulk d + 1
  | .map entries => uptoBulkEntries entries + 1
  | .held _ => 1
def uptoBulkAll {H : Type} : List (DataW H) → Nat
  | [] => 0
  | d :: r => uptoBulk d + uptoBulkAll r
def uptoBulkEntries {H : Type} : List (Lit × DataW H) → Nat
  | [] => 0
  | x :: r => uptoBulkEntry x + uptoBulkEntries r
def uptoBulkEntry {H : Type} : Lit × DataW H → Nat
  | (.string bytes, d) => bytes.length + uptoBulk d + 1
  | (_, d) => uptoBulk d + 1
 end
def uptoSmall : (H : Type) → List (DataW H) → Bool := fun _ ds => decide (uptoBulkAll ds ≤ 1048576)
def OpenSpec.upto (s : _root_.Go.ChangeSpec) : _root_.Go.OpenSpec := { _root_.Go.OpenSpec.ofChange s with cond := some uptoSmall }

/-- 'laws.FnExactEqualLearners', WHERE WHAT IT READS IS OF BULK AT MOST 1048576: true; the input reads as it did. -/
def fnExactEqualLearnersUptoRow : OpenClaim := { program := "ytcebnmagigadpaa", sum := "daa763c897b714b4509fbf9471d981084c86bf2ba91204930a38b8d41b50b867", func := "loop.example/g02080/laws.FnExactEqualLearners", spec := "fnExactEqualLearners", unfollowed := true, recurses := true, apart := false, narrowed := true }
def FnExactEqualLearnersUptoSaid : Prop := fnExactEqualLearnersUptoRow.holds Try.pinned (OpenSpec.upto fnExactEqualLearnersSpec)

/-- 'laws.FnExactNewLearner', WHERE WHAT IT READS IS OF BULK AT MOST 1048576: true; the input reads as it did. -/
def fnExactNewLearnerUptoRow : OpenClaim := { program := "ytcebnmagigadpaa", sum := "daa763c897b714b4509fbf9471d981084c86bf2ba91204930a38b8d41b50b867", func := "loop.example/g02080/laws.FnExactNewLearner", spec := "fnExactNewLearner", unfollowed := true, recurses := true, apart := false, narrowed := true }
def FnExactNewLearnerUptoSaid : Prop := fnExactNewLearnerUptoRow.holds Try.pinned (OpenSpec.upto fnExactNewLearnerSpec)

/-- 'laws.FnExactIsWord', WHERE WHAT IT READS IS OF BULK AT MOST 1048576: true; the input reads as it did. -/
def fnExactIsWordUptoRow : OpenClaim := { program := "ytcebnmagigadpaa", sum := "daa763c897b714b4509fbf9471d981084c86bf2ba91204930a38b8d41b50b867", func := "loop.example/g02080/laws.FnExactIsWord", spec := "fnExactIsWord", unfollowed := true, recurses := true, apart := false, narrowed := true }
def FnExactIsWordUptoSaid : Prop := fnExactIsWordUptoRow.holds Try.pinned (OpenSpec.upto fnExactIsWordSpec)

/-- 'laws.FnExactFindWeights', WHERE WHAT IT READS IS OF BULK AT MOST 1048576: true; the input reads as it did. -/
def fnExactFindWeightsUptoRow : OpenClaim := { program := "ytcebnmagigadpaa", sum := "daa763c897b714b4509fbf9471d981084c86bf2ba91204930a38b8d41b50b867", func := "loop.example/g02080/laws.FnExactFindWeights", spec := "fnExactFindWeights", unfollowed := true, recurses := true, apart := false, narrowed := true }
def FnExactFindWeightsUptoSaid : Prop := fnExactFindWeightsUptoRow.holds Try.pinned (OpenSpec.upto fnExactFindWeightsSpec)

/-- 'laws.FnExactFormatDerivation', WHERE WHAT IT READS IS OF BULK AT MOST 1048576: true; the input reads as it did. -/
def fnExactFormatDerivationUptoRow : OpenClaim := { program := "ytcebnmagigadpaa", sum := "daa763c897b714b4509fbf9471d981084c86bf2ba91204930a38b8d41b50b867", func := "loop.example/g02080/laws.FnExactFormatDerivation", spec := "fnExactFormatDerivation", inPlace := ["internal/bytealg.IndexByteString", "internal/abi.NoEscape", "internal/bytealg.MakeNoZero"], apart := false, narrowed := true }
def FnExactFormatDerivationUptoSaid : Prop := fnExactFormatDerivationUptoRow.holds Try.pinned (OpenSpec.upto fnExactFormatDerivationSpec)

/-- 'laws.FnExactParseChoices', WHERE WHAT IT READS IS OF BULK AT MOST 1048576: true; the input reads as it did. -/
def fnExactParseChoicesUptoRow : OpenClaim := { program := "ytcebnmagigadpaa", sum := "daa763c897b714b4509fbf9471d981084c86bf2ba91204930a38b8d41b50b867", func := "loop.example/g02080/laws.FnExactParseChoices", spec := "fnExactParseChoices", unfollowed := true, recurses := true, apart := false, narrowed := true }
def FnExactParseChoicesUptoSaid : Prop := fnExactParseChoicesUptoRow.holds Try.pinned (OpenSpec.upto fnExactParseChoicesSpec)

/-- 'laws.FnExactBiasedStrata', WHERE WHAT IT READS IS OF BULK AT MOST 1048576: true; the input reads as it did. -/
def fnExactBiasedStrataUptoRow : OpenClaim := { program := "ytcebnmagigadpaa", sum := "daa763c897b714b4509fbf9471d981084c86bf2ba91204930a38b8d41b50b867", func := "loop.example/g02080/laws.FnExactBiasedStrata", spec := "fnExactBiasedStrata", unfollowed := true, recurses := true, apart := false, narrowed := true }
def FnExactBiasedStrataUptoSaid : Prop := fnExactBiasedStrataUptoRow.holds Try.pinned (OpenSpec.upto fnExactBiasedStrataSpec)

/-- 'laws.FnExactWeightsOfRanking', WHERE WHAT IT READS IS OF BULK AT MOST 1048576: true; the input reads as it did. -/
def fnExactWeightsOfRankingUptoRow : OpenClaim := { program := "ytcebnmagigadpaa", sum := "daa763c897b714b4509fbf9471d981084c86bf2ba91204930a38b8d41b50b867", func := "loop.example/g02080/laws.FnExactWeightsOfRanking", spec := "fnExactWeightsOfRanking", unfollowed := true, recurses := true, apart := false, narrowed := true }
def FnExactWeightsOfRankingUptoSaid : Prop := fnExactWeightsOfRankingUptoRow.holds Try.pinned (OpenSpec.upto fnExactWeightsOfRankingSpec)

/-- 'laws.FnExactFootRows', WHERE WHAT IT READS IS OF BULK AT MOST 1048576: true; the input reads as it did. -/
def fnExactFootRowsUptoRow : OpenClaim := { program := "ytcebnmagigadpaa", sum := "daa763c897b714b4509fbf9471d981084c86bf2ba91204930a38b8d41b50b867", func := "loop.example/g02080/laws.FnExactFootRows", spec := "fnExactFootRows", unfollowed := true, recurses := true, apart := false, narrowed := true }
def FnExactFootRowsUptoSaid : Prop := fnExactFootRowsUptoRow.holds Try.pinned (OpenSpec.upto fnExactFootRowsSpec)

/-- 'laws.FnExactFaithBelow', WHERE WHAT IT READS IS OF BULK AT MOST 1048576: true; the input reads as it did. -/
def fnExactFaithBelowUptoRow : OpenClaim := { program := "ytcebnmagigadpaa", sum := "daa763c897b714b4509fbf9471d981084c86bf2ba91204930a38b8d41b50b867", func := "loop.example/g02080/laws.FnExactFaithBelow", spec := "fnExactFaithBelow", unfollowed := true, recurses := true, apart := false, narrowed := true }
def FnExactFaithBelowUptoSaid : Prop := fnExactFaithBelowUptoRow.holds Try.pinned (OpenSpec.upto fnExactFaithBelowSpec)

/-- 'laws.FnExactIsLearner', WHERE WHAT IT READS IS OF BULK AT MOST 1048576: true; the input reads as it did. -/
def fnExactIsLearnerUptoRow : OpenClaim := { program := "ytcebnmagigadpaa", sum := "daa763c897b714b4509fbf9471d981084c86bf2ba91204930a38b8d41b50b867", func := "loop.example/g02080/laws.FnExactIsLearner", spec := "fnExactIsLearner", unfollowed := true, recurses := true, apart := false, narrowed := true }
def FnExactIsLearnerUptoSaid : Prop := fnExactIsLearnerUptoRow.holds Try.pinned (OpenSpec.upto fnExactIsLearnerSpec)

end Rows
end Go.Proofs.Ytcebnmagigadpaa
