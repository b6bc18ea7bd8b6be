/-
  No cell of these rows narrows 'for every input' (looked for: loops, veiled, ifaces, maps, wideKeys, modest, calm, conditions, laid).
  DERIVED. THE GIVEN ROWS OF THIS SEAT. 9 by the template 'for every input the law returns true; each argument reads behind the call as it read before'; 0 by the template 'total and deterministic' (their statements: YtkddpilambnicaaTotals.lean).
  GIVEN WITH THE SEED: the statements are not yours to turn. If you find one false, say at which input.
  Laid BY PROGRAM, IN A SANDBOX (cutbox-rows.mjs): the forced cells as the released guide's own fill.sh prints them over the translation 4cf4c30d21117cba… (all of the seat's roots in one cut). By AI agents, Wed Nov 11 2026. No macro, syntax, notation, axiom, sorry.
-/
import Derived.Test.YtkddpilambnicaaChecked
import GoSem.Claim
import GoSem.ClaimJoined
import GoSem.ClaimMapViews
import Derived.JoinedTies
import Derived.KernelRfl
namespace Go.Proofs.Ytkddpilambnicaa
/- THE CELL 'sum', in the pinned program and in every row, IS THE sha256 OF THE DUMP (.gsa) THAT YtkddpilambnicaaProg.lean LOADS. Nothing in Lean hashes anything: it is a label: what it is worth is what the hold of that sum in a sandbox is worth. -/
noncomputable def Try.pinned : Pinned := { name := "ytkddpilambnicaa", sum := "4cf4c30d21117cbaccf24b16ec59eab0f04bfdaa85224866646ef2cbe0470b9c", checked := Try.checked }
namespace Rows
def none {H : Type} : Left H := { results := [], args := [] }

/-- 'laws.FnExactHearRow': WHATEVER THE INPUT: true; the input reads as it did. -/
def fnExactHearRowSpec : ChangeSpec := { name := "fnExactHearRow", fn := fun _ => fun
  | [d1, d2] => { results := [.lit (.bool true)], args := [d1, d2] }
  | _ => none }
def fnExactHearRowRow : OpenClaim := { program := "ytkddpilambnicaa", sum := "4cf4c30d21117cbaccf24b16ec59eab0f04bfdaa85224866646ef2cbe0470b9c", func := "loop.example/g02080/laws.FnExactHearRow", spec := "fnExactHearRow", unfollowed := true, recurses := true, apart := false }
def FnExactHearRowSaid : Prop := fnExactHearRowRow.holds Try.pinned (OpenSpec.ofChange fnExactHearRowSpec)

/-- ITS FALSE NEIGHBOUR: 'it returns false'. Refute it at one input. -/
def fnExactHearRowWrong : ChangeSpec := { name := "fnExactHearRow", fn := fun _ => fun
  | [d1, d2] => { results := [.lit (.bool false)], args := [d1, d2] }
  | _ => none }
def FnExactHearRowWrongFalsely : Prop := fnExactHearRowRow.holds Try.pinned (OpenSpec.ofChange fnExactHearRowWrong)

/-- 'laws.FnExactHearAll': WHATEVER THE INPUT: true; the input reads as it did. -/
def fnExactHearAllSpec : ChangeSpec := { name := "fnExactHearAll", fn := fun _ => fun
  | [d1, d2, d3] => { results := [.lit (.bool true)], args := [d1, d2, d3] }
  | _ => none }
def fnExactHearAllRow : OpenClaim := { program := "ytkddpilambnicaa", sum := "4cf4c30d21117cbaccf24b16ec59eab0f04bfdaa85224866646ef2cbe0470b9c", func := "loop.example/g02080/laws.FnExactHearAll", spec := "fnExactHearAll", unfollowed := true, recurses := true, apart := false }
def FnExactHearAllSaid : Prop := fnExactHearAllRow.holds Try.pinned (OpenSpec.ofChange fnExactHearAllSpec)

/-- ITS FALSE NEIGHBOUR: 'it returns false'. Refute it at one input. -/
def fnExactHearAllWrong : ChangeSpec := { name := "fnExactHearAll", fn := fun _ => fun
  | [d1, d2, d3] => { results := [.lit (.bool false)], args := [d1, d2, d3] }
  | _ => none }
def FnExactHearAllWrongFalsely : Prop := fnExactHearAllRow.holds Try.pinned (OpenSpec.ofChange fnExactHearAllWrong)

/-- 'laws.FnExactFindWeights': WHATEVER THE INPUT: true; the input reads as it did. -/
def fnExactFindWeightsSpec : ChangeSpec := { name := "fnExactFindWeights", fn := fun _ => fun
  | [d1, d2] => { results := [.lit (.bool true)], args := [d1, d2] }
  | _ => none }
def fnExactFindWeightsRow : OpenClaim := { program := "ytkddpilambnicaa", sum := "4cf4c30d21117cbaccf24b16ec59eab0f04bfdaa85224866646ef2cbe0470b9c", func := "loop.example/g02080/laws.FnExactFindWeights", spec := "fnExactFindWeights", unfollowed := true, recurses := true, apart := false }
def FnExactFindWeightsSaid : Prop := fnExactFindWeightsRow.holds Try.pinned (OpenSpec.ofChange fnExactFindWeightsSpec)

/-- ITS FALSE NEIGHBOUR: 'it returns false'. Refute it at one input. -/
def fnExactFindWeightsWrong : ChangeSpec := { name := "fnExactFindWeights", fn := fun _ => fun
  | [d1, d2] => { results := [.lit (.bool false)], args := [d1, d2] }
  | _ => none }
def FnExactFindWeightsWrongFalsely : Prop := fnExactFindWeightsRow.holds Try.pinned (OpenSpec.ofChange fnExactFindWeightsWrong)

/-- 'laws.FnExactBiasedStrata': WHATEVER THE INPUT: true; the input reads as it did. -/
def fnExactBiasedStrataSpec : ChangeSpec := { name := "fnExactBiasedStrata", fn := fun _ => fun
  | [d1, d2] => { results := [.lit (.bool true)], args := [d1, d2] }
  | _ => none }
def fnExactBiasedStrataRow : OpenClaim := { program := "ytkddpilambnicaa", sum := "4cf4c30d21117cbaccf24b16ec59eab0f04bfdaa85224866646ef2cbe0470b9c", func := "loop.example/g02080/laws.FnExactBiasedStrata", spec := "fnExactBiasedStrata", unfollowed := true, recurses := true, apart := false }
def FnExactBiasedStrataSaid : Prop := fnExactBiasedStrataRow.holds Try.pinned (OpenSpec.ofChange fnExactBiasedStrataSpec)

/-- ITS FALSE NEIGHBOUR: 'it returns false'. Refute it at one input. -/
def fnExactBiasedStrataWrong : ChangeSpec := { name := "fnExactBiasedStrata", fn := fun _ => fun
  | [d1, d2] => { results := [.lit (.bool false)], args := [d1, d2] }
  | _ => none }
def FnExactBiasedStrataWrongFalsely : Prop := fnExactBiasedStrataRow.holds Try.pinned (OpenSpec.ofChange fnExactBiasedStrataWrong)

/-- 'laws.FnExactParseChoices': WHATEVER THE INPUT: true; the input reads as it did. -/
def fnExactParseChoicesSpec : ChangeSpec := { name := "fnExactParseChoices", fn := fun _ => fun
  | [d] => { results := [.lit (.bool true)], args := [d] }
  | _ => none }
def fnExactParseChoicesRow : OpenClaim := { program := "ytkddpilambnicaa", sum := "4cf4c30d21117cbaccf24b16ec59eab0f04bfdaa85224866646ef2cbe0470b9c", func := "loop.example/g02080/laws.FnExactParseChoices", spec := "fnExactParseChoices", unfollowed := true, recurses := true, apart := false }
def FnExactParseChoicesSaid : Prop := fnExactParseChoicesRow.holds Try.pinned (OpenSpec.ofChange fnExactParseChoicesSpec)

/-- ITS FALSE NEIGHBOUR: 'it returns false'. Refute it at one input. -/
def fnExactParseChoicesWrong : ChangeSpec := { name := "fnExactParseChoices", fn := fun _ => fun
  | [d] => { results := [.lit (.bool false)], args := [d] }
  | _ => none }
def FnExactParseChoicesWrongFalsely : Prop := fnExactParseChoicesRow.holds Try.pinned (OpenSpec.ofChange fnExactParseChoicesWrong)

/-- 'laws.FnExactFootRows': WHATEVER THE INPUT: true; the input reads as it did. -/
def fnExactFootRowsSpec : ChangeSpec := { name := "fnExactFootRows", fn := fun _ => fun
  | [d1, d2] => { results := [.lit (.bool true)], args := [d1, d2] }
  | _ => none }
def fnExactFootRowsRow : OpenClaim := { program := "ytkddpilambnicaa", sum := "4cf4c30d21117cbaccf24b16ec59eab0f04bfdaa85224866646ef2cbe0470b9c", func := "loop.example/g02080/laws.FnExactFootRows", spec := "fnExactFootRows", unfollowed := true, recurses := true, apart := false }
def FnExactFootRowsSaid : Prop := fnExactFootRowsRow.holds Try.pinned (OpenSpec.ofChange fnExactFootRowsSpec)

/-- ITS FALSE NEIGHBOUR: 'it returns false'. Refute it at one input. -/
def fnExactFootRowsWrong : ChangeSpec := { name := "fnExactFootRows", fn := fun _ => fun
  | [d1, d2] => { results := [.lit (.bool false)], args := [d1, d2] }
  | _ => none }
def FnExactFootRowsWrongFalsely : Prop := fnExactFootRowsRow.holds Try.pinned (OpenSpec.ofChange fnExactFootRowsWrong)

/-- 'laws.FnExactStressOf': WHATEVER THE INPUT: true; the input reads as it did. -/
def fnExactStressOfSpec : ChangeSpec := { name := "fnExactStressOf", fn := fun _ => fun
  | [d1, d2] => { results := [.lit (.bool true)], args := [d1, d2] }
  | _ => none }
def fnExactStressOfRow : OpenClaim := { program := "ytkddpilambnicaa", sum := "4cf4c30d21117cbaccf24b16ec59eab0f04bfdaa85224866646ef2cbe0470b9c", func := "loop.example/g02080/laws.FnExactStressOf", spec := "fnExactStressOf", unfollowed := true, recurses := true, apart := false }
def FnExactStressOfSaid : Prop := fnExactStressOfRow.holds Try.pinned (OpenSpec.ofChange fnExactStressOfSpec)

/-- ITS FALSE NEIGHBOUR: 'it returns false'. Refute it at one input. -/
def fnExactStressOfWrong : ChangeSpec := { name := "fnExactStressOf", fn := fun _ => fun
  | [d1, d2] => { results := [.lit (.bool false)], args := [d1, d2] }
  | _ => none }
def FnExactStressOfWrongFalsely : Prop := fnExactStressOfRow.holds Try.pinned (OpenSpec.ofChange fnExactStressOfWrong)

/-- 'laws.FnExactFindParses': WHATEVER THE INPUT: true; the input reads as it did. -/
def fnExactFindParsesSpec : ChangeSpec := { name := "fnExactFindParses", fn := fun _ => fun
  | [d] => { results := [.lit (.bool true)], args := [d] }
  | _ => none }
def fnExactFindParsesRow : OpenClaim := { program := "ytkddpilambnicaa", sum := "4cf4c30d21117cbaccf24b16ec59eab0f04bfdaa85224866646ef2cbe0470b9c", func := "loop.example/g02080/laws.FnExactFindParses", spec := "fnExactFindParses", unfollowed := true, recurses := true, apart := false }
def FnExactFindParsesSaid : Prop := fnExactFindParsesRow.holds Try.pinned (OpenSpec.ofChange fnExactFindParsesSpec)

/-- ITS FALSE NEIGHBOUR: 'it returns false'. Refute it at one input. -/
def fnExactFindParsesWrong : ChangeSpec := { name := "fnExactFindParses", fn := fun _ => fun
  | [d] => { results := [.lit (.bool false)], args := [d] }
  | _ => none }
def FnExactFindParsesWrongFalsely : Prop := fnExactFindParsesRow.holds Try.pinned (OpenSpec.ofChange fnExactFindParsesWrong)

/-- 'laws.FnExactStressRanking': WHATEVER THE INPUT: true; the input reads as it did. -/
def fnExactStressRankingSpec : ChangeSpec := { name := "fnExactStressRanking", fn := fun _ => fun
  | [d] => { results := [.lit (.bool true)], args := [d] }
  | _ => none }
def fnExactStressRankingRow : OpenClaim := { program := "ytkddpilambnicaa", sum := "4cf4c30d21117cbaccf24b16ec59eab0f04bfdaa85224866646ef2cbe0470b9c", func := "loop.example/g02080/laws.FnExactStressRanking", spec := "fnExactStressRanking", unfollowed := true, recurses := true, apart := false }
def FnExactStressRankingSaid : Prop := fnExactStressRankingRow.holds Try.pinned (OpenSpec.ofChange fnExactStressRankingSpec)

/-- ITS FALSE NEIGHBOUR: 'it returns false'. Refute it at one input. -/
def fnExactStressRankingWrong : ChangeSpec := { name := "fnExactStressRanking", fn := fun _ => fun
  | [d] => { results := [.lit (.bool false)], args := [d] }
  | _ => none }
def FnExactStressRankingWrongFalsely : Prop := fnExactStressRankingRow.holds Try.pinned (OpenSpec.ofChange fnExactStressRankingWrong)

/- THE SECOND FORM. 'bulk': how many values and letters a reading holds, each counted each time it is reached (what is shared counts as often as it is met; a slice's spare places count too). A statement '..UptoSaid' is the law's where the arguments, and the package variables that the reading takes, are together of bulk at most 1048576: NARROWER than '..Said'. Prove '..Said' where nothing that the law and all that it calls make is longer than what came in: it says more and counts as full. Else prove '..UptoSaid'. A law counts once. -/
mutual
def uptoBulk {H : Type} : DataW H → Nat
  | .lit (.string bytes) => bytes.length + 1
  | .lit _ => 1
  | .nil => 1
  | .ptr d => uptoBulk d + 1
  | .slice elems spare => uptoBulkAll elems + uptoBulkAll spare + 1
  | .agg parts => uptoBulkAll parts + 1
  | .iface _ d => uptoBulk d + 1
  | .map entries => uptoBulkEntries entries + 1
  | .held _ => 1
def uptoBulkAll {H : Type} : List (DataW H) → Nat
  | [] => 0
  | d :: r => uptoBulk d + uptoBulkAll r
def uptoBulkEntries {H : Type} : List (Lit × DataW H) → Nat
  | [] => 0
  | x :: r => uptoBulkEntry x + uptoBulkEntries r
def uptoBulkEntry {H : Type} : Lit × DataW H → Nat
  | (.string bytes, d) => bytes.length + uptoBulk d + 1
  | (_, d) => uptoBulk d + 1
 end
def uptoSmall : (H : Type) → List (DataW H) → Bool := fun _ ds => decide (uptoBulkAll ds ≤ 1048576)
def OpenSpec.upto (s : _root_.Go.ChangeSpec) : _root_.Go.OpenSpec := { _root_.Go.OpenSpec.ofChange s with cond := some uptoSmall }

/-- 'laws.FnExactHearRow', WHERE WHAT IT READS IS OF BULK AT MOST 1048576: true; the input reads as it did. -/
def fnExactHearRowUptoRow : OpenClaim := { program := "ytkddpilambnicaa", sum := "4cf4c30d21117cbaccf24b16ec59eab0f04bfdaa85224866646ef2cbe0470b9c", func := "loop.example/g02080/laws.FnExactHearRow", spec := "fnExactHearRow", unfollowed := true, recurses := true, apart := false, narrowed := true }
def FnExactHearRowUptoSaid : Prop := fnExactHearRowUptoRow.holds Try.pinned (OpenSpec.upto fnExactHearRowSpec)

/-- 'laws.FnExactHearAll', WHERE WHAT IT READS IS OF BULK AT MOST 1048576: true; the input reads as it did. -/
def fnExactHearAllUptoRow : OpenClaim := { program := "ytkddpilambnicaa", sum := "4cf4c30d21117cbaccf24b16ec59eab0f04bfdaa85224866646ef2cbe0470b9c", func := "loop.example/g02080/laws.FnExactHearAll", spec := "fnExactHearAll", unfollowed := true, recurses := true, apart := false, narrowed := true }
def FnExactHearAllUptoSaid : Prop := fnExactHearAllUptoRow.holds Try.pinned (OpenSpec.upto fnExactHearAllSpec)

/-- 'laws.FnExactFindWeights', WHERE WHAT IT READS IS OF BULK AT MOST 1048576: true; the input reads as it did. -/
def fnExactFindWeightsUptoRow : OpenClaim := { program := "ytkddpilambnicaa", sum := "4cf4c30d21117cbaccf24b16ec59eab0f04bfdaa85224866646ef2cbe0470b9c", func := "loop.example/g02080/laws.FnExactFindWeights", spec := "fnExactFindWeights", unfollowed := true, recurses := true, apart := false, narrowed := true }
def FnExactFindWeightsUptoSaid : Prop := fnExactFindWeightsUptoRow.holds Try.pinned (OpenSpec.upto fnExactFindWeightsSpec)

/-- 'laws.FnExactBiasedStrata', WHERE WHAT IT READS IS OF BULK AT MOST 1048576: true; the input reads as it did. -/
def fnExactBiasedStrataUptoRow : OpenClaim := { program := "ytkddpilambnicaa", sum := "4cf4c30d21117cbaccf24b16ec59eab0f04bfdaa85224866646ef2cbe0470b9c", func := "loop.example/g02080/laws.FnExactBiasedStrata", spec := "fnExactBiasedStrata", unfollowed := true, recurses := true, apart := false, narrowed := true }
def FnExactBiasedStrataUptoSaid : Prop := fnExactBiasedStrataUptoRow.holds Try.pinned (OpenSpec.upto fnExactBiasedStrataSpec)

/-- 'laws.FnExactParseChoices', WHERE WHAT IT READS IS OF BULK AT MOST 1048576: true; the input reads as it did. -/
def fnExactParseChoicesUptoRow : OpenClaim := { program := "ytkddpilambnicaa", sum := "4cf4c30d21117cbaccf24b16ec59eab0f04bfdaa85224866646ef2cbe0470b9c", func := "loop.example/g02080/laws.FnExactParseChoices", spec := "fnExactParseChoices", unfollowed := true, recurses := true, apart := false, narrowed := true }
def FnExactParseChoicesUptoSaid : Prop := fnExactParseChoicesUptoRow.holds Try.pinned (OpenSpec.upto fnExactParseChoicesSpec)

/-- 'laws.FnExactFootRows', WHERE WHAT IT READS IS OF BULK AT MOST 1048576: true; the input reads as it did. -/
def fnExactFootRowsUptoRow : OpenClaim := { program := "ytkddpilambnicaa", sum := "4cf4c30d21117cbaccf24b16ec59eab0f04bfdaa85224866646ef2cbe0470b9c", func := "loop.example/g02080/laws.FnExactFootRows", spec := "fnExactFootRows", unfollowed := true, recurses := true, apart := false, narrowed := true }
def FnExactFootRowsUptoSaid : Prop := fnExactFootRowsUptoRow.holds Try.pinned (OpenSpec.upto fnExactFootRowsSpec)

/-- 'laws.FnExactStressOf', WHERE WHAT IT READS IS OF BULK AT MOST 1048576: true; the input reads as it did. -/
def fnExactStressOfUptoRow : OpenClaim := { program := "ytkddpilambnicaa", sum := "4cf4c30d21117cbaccf24b16ec59eab0f04bfdaa85224866646ef2cbe0470b9c", func := "loop.example/g02080/laws.FnExactStressOf", spec := "fnExactStressOf", unfollowed := true, recurses := true, apart := false, narrowed := true }
def FnExactStressOfUptoSaid : Prop := fnExactStressOfUptoRow.holds Try.pinned (OpenSpec.upto fnExactStressOfSpec)

/-- 'laws.FnExactFindParses', WHERE WHAT IT READS IS OF BULK AT MOST 1048576: true; the input reads as it did. -/
def fnExactFindParsesUptoRow : OpenClaim := { program := "ytkddpilambnicaa", sum := "4cf4c30d21117cbaccf24b16ec59eab0f04bfdaa85224866646ef2cbe0470b9c", func := "loop.example/g02080/laws.FnExactFindParses", spec := "fnExactFindParses", unfollowed := true, recurses := true, apart := false, narrowed := true }
def FnExactFindParsesUptoSaid : Prop := fnExactFindParsesUptoRow.holds Try.pinned (OpenSpec.upto fnExactFindParsesSpec)

/-- 'laws.FnExactStressRanking', WHERE WHAT IT READS IS OF BULK AT MOST 1048576: true; the input reads as it did. -/
def fnExactStressRankingUptoRow : OpenClaim := { program := "ytkddpilambnicaa", sum := "4cf4c30d21117cbaccf24b16ec59eab0f04bfdaa85224866646ef2cbe0470b9c", func := "loop.example/g02080/laws.FnExactStressRanking", spec := "fnExactStressRanking", unfollowed := true, recurses := true, apart := false, narrowed := true }
def FnExactStressRankingUptoSaid : Prop := fnExactStressRankingUptoRow.holds Try.pinned (OpenSpec.upto fnExactStressRankingSpec)

end Rows
end Go.Proofs.Ytkddpilambnicaa
