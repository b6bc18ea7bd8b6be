/-
  No cell of these rows narrows 'for every input' (looked for: loops, veiled, ifaces, maps, wideKeys, modest, calm, conditions, laid).
  DERIVED. THE GIVEN ROWS OF THIS SEAT. 3 by the template 'for every input the law returns true; each argument reads behind the call as it read before'; 0 by the template 'total and deterministic' (their statements: YtkddpilambnicaaGreatTotals.lean).
  GIVEN WITH THE SEED: the statements are not yours to turn. If you find one false, say at which input.
  Laid BY PROGRAM, IN A SANDBOX (cutbox-rows.mjs): the forced cells as the released guide's own fill.sh prints them over the translation c7210814fcfdbef1… (all of the seat's roots in one cut). By AI agents, Wed Nov 11 2026. No macro, syntax, notation, axiom, sorry.
-/
import Derived.Test.YtkddpilambnicaaGreatChecked
import GoSem.Claim
import GoSem.ClaimJoined
import GoSem.ClaimMapViews
import Derived.JoinedTies
import Derived.KernelRfl
namespace Go.Proofs.YtkddpilambnicaaGreat
/- THE CELL 'sum', in the pinned program and in every row, IS THE sha256 OF THE DUMP (.gsa) THAT YtkddpilambnicaaGreatProg.lean LOADS. Nothing in Lean hashes anything: it is a label: what it is worth is what the hold of that sum in a sandbox is worth. -/
noncomputable def Tryz.pinned : Pinned := { name := "ytkddpilambnicaagreat", sum := "c7210814fcfdbef11a40318aebee3bb5f0b63b7f2ed6293d644add0c8b819395", checked := Tryz.checked }
namespace Rows
def none {H : Type} : Left H := { results := [], args := [] }

/-- 'laws.FnExactIsConverged': WHATEVER THE INPUT: true; the input reads as it did. -/
def fnExactIsConvergedSpec : ChangeSpec := { name := "fnExactIsConverged", fn := fun _ => fun
  | [d1, d2, d3] => { results := [.lit (.bool true)], args := [d1, d2, d3] }
  | _ => none }
def fnExactIsConvergedRow : OpenClaim := { program := "ytkddpilambnicaagreat", sum := "c7210814fcfdbef11a40318aebee3bb5f0b63b7f2ed6293d644add0c8b819395", func := "loop.example/g02080/laws.FnExactIsConverged", spec := "fnExactIsConverged", inPlace := ["internal/bytealg.IndexByteString"], unfollowed := true, recurses := true, apart := false }
def FnExactIsConvergedSaid : Prop := fnExactIsConvergedRow.holds Tryz.pinned (OpenSpec.ofChange fnExactIsConvergedSpec)

/-- ITS FALSE NEIGHBOUR: 'it returns false'. Refute it at one input. -/
def fnExactIsConvergedWrong : ChangeSpec := { name := "fnExactIsConverged", fn := fun _ => fun
  | [d1, d2, d3] => { results := [.lit (.bool false)], args := [d1, d2, d3] }
  | _ => none }
def FnExactIsConvergedWrongFalsely : Prop := fnExactIsConvergedRow.holds Tryz.pinned (OpenSpec.ofChange fnExactIsConvergedWrong)

/-- 'laws.FnExactDifferencesFor': WHATEVER THE INPUT: true; the input reads as it did. -/
def fnExactDifferencesForSpec : ChangeSpec := { name := "fnExactDifferencesFor", fn := fun _ => fun
  | [d1, d2] => { results := [.lit (.bool true)], args := [d1, d2] }
  | _ => none }
def fnExactDifferencesForRow : OpenClaim := { program := "ytkddpilambnicaagreat", sum := "c7210814fcfdbef11a40318aebee3bb5f0b63b7f2ed6293d644add0c8b819395", func := "loop.example/g02080/laws.FnExactDifferencesFor", spec := "fnExactDifferencesFor", inPlace := ["internal/bytealg.IndexByteString"], unfollowed := true, recurses := true, apart := false }
def FnExactDifferencesForSaid : Prop := fnExactDifferencesForRow.holds Tryz.pinned (OpenSpec.ofChange fnExactDifferencesForSpec)

/-- ITS FALSE NEIGHBOUR: 'it returns false'. Refute it at one input. -/
def fnExactDifferencesForWrong : ChangeSpec := { name := "fnExactDifferencesFor", fn := fun _ => fun
  | [d1, d2] => { results := [.lit (.bool false)], args := [d1, d2] }
  | _ => none }
def FnExactDifferencesForWrongFalsely : Prop := fnExactDifferencesForRow.holds Tryz.pinned (OpenSpec.ofChange fnExactDifferencesForWrong)

/-- 'laws.FnExactWeightedWinners': WHATEVER THE INPUT: true; the input reads as it did. -/
def fnExactWeightedWinnersSpec : ChangeSpec := { name := "fnExactWeightedWinners", fn := fun _ => fun
  | [d1, d2] => { results := [.lit (.bool true)], args := [d1, d2] }
  | _ => none }
def fnExactWeightedWinnersRow : OpenClaim := { program := "ytkddpilambnicaagreat", sum := "c7210814fcfdbef11a40318aebee3bb5f0b63b7f2ed6293d644add0c8b819395", func := "loop.example/g02080/laws.FnExactWeightedWinners", spec := "fnExactWeightedWinners", inPlace := ["internal/bytealg.IndexByteString"], unfollowed := true, recurses := true, apart := false }
def FnExactWeightedWinnersSaid : Prop := fnExactWeightedWinnersRow.holds Tryz.pinned (OpenSpec.ofChange fnExactWeightedWinnersSpec)

/-- ITS FALSE NEIGHBOUR: 'it returns false'. Refute it at one input. -/
def fnExactWeightedWinnersWrong : ChangeSpec := { name := "fnExactWeightedWinners", fn := fun _ => fun
  | [d1, d2] => { results := [.lit (.bool false)], args := [d1, d2] }
  | _ => none }
def FnExactWeightedWinnersWrongFalsely : Prop := fnExactWeightedWinnersRow.holds Tryz.pinned (OpenSpec.ofChange fnExactWeightedWinnersWrong)

/- THE SECOND FORM. 'bulk': how many values and letters a reading holds, each counted each time it is reached (what is shared counts as often as it is met; a slice's spare places count too). A statement '..UptoSaid' is the law's where the arguments, and the package variables that the reading takes, are together of bulk at most 1048576: NARROWER than '..Said'. Prove '..Said' where nothing that the law and all that it calls make is longer than what came in: it says more and counts as full. Else prove '..UptoSaid'. A law counts once. -/
mutual
def uptoBulk {H : Type} : DataW H → Nat
  | .lit (.string bytes) => bytes.length + 1
  | .lit _ => 1
  | .nil => 1
  | .ptr d => uptoBulk d + 1
  | .slice elems spare => uptoBulkAll elems + uptoBulkAll spare + 1
  | .agg parts => uptoBulkAll parts + 1
  | .iface _ d => uptoBulk d + 1
  | .map entries => uptoBulkEntries entries + 1
  | .held _ => 1
def uptoBulkAll {H : Type} : List (DataW H) → Nat
  | [] => 0
  | d :: r => uptoBulk d + uptoBulkAll r
def uptoBulkEntries {H : Type} : List (Lit × DataW H) → Nat
  | [] => 0
  | x :: r => uptoBulkEntry x + uptoBulkEntries r
def uptoBulkEntry {H : Type} : Lit × DataW H → Nat
  | (.string bytes, d) => bytes.length + uptoBulk d + 1
  | (_, d) => uptoBulk d + 1
 end
def uptoSmall : (H : Type) → List (DataW H) → Bool := fun _ ds => decide (uptoBulkAll ds ≤ 1048576)
def OpenSpec.upto (s : _root_.Go.ChangeSpec) : _root_.Go.OpenSpec := { _root_.Go.OpenSpec.ofChange s with cond := some uptoSmall }

/-- 'laws.FnExactIsConverged', WHERE WHAT IT READS IS OF BULK AT MOST 1048576: true; the input reads as it did. -/
def fnExactIsConvergedUptoRow : OpenClaim := { program := "ytkddpilambnicaagreat", sum := "c7210814fcfdbef11a40318aebee3bb5f0b63b7f2ed6293d644add0c8b819395", func := "loop.example/g02080/laws.FnExactIsConverged", spec := "fnExactIsConverged", inPlace := ["internal/bytealg.IndexByteString"], unfollowed := true, recurses := true, apart := false, narrowed := true }
def FnExactIsConvergedUptoSaid : Prop := fnExactIsConvergedUptoRow.holds Tryz.pinned (OpenSpec.upto fnExactIsConvergedSpec)

/-- 'laws.FnExactDifferencesFor', WHERE WHAT IT READS IS OF BULK AT MOST 1048576: true; the input reads as it did. -/
def fnExactDifferencesForUptoRow : OpenClaim := { program := "ytkddpilambnicaagreat", sum := "c7210814fcfdbef11a40318aebee3bb5f0b63b7f2ed6293d644add0c8b819395", func := "loop.example/g02080/laws.FnExactDifferencesFor", spec := "fnExactDifferencesFor", inPlace := ["internal/bytealg.IndexByteString"], unfollowed := true, recurses := true, apart := false, narrowed := true }
def FnExactDifferencesForUptoSaid : Prop := fnExactDifferencesForUptoRow.holds Tryz.pinned (OpenSpec.upto fnExactDifferencesForSpec)

/-- 'laws.FnExactWeightedWinners', WHERE WHAT IT READS IS OF BULK AT MOST 1048576: true; the input reads as it did. -/
def fnExactWeightedWinnersUptoRow : OpenClaim := { program := "ytkddpilambnicaagreat", sum := "c7210814fcfdbef11a40318aebee3bb5f0b63b7f2ed6293d644add0c8b819395", func := "loop.example/g02080/laws.FnExactWeightedWinners", spec := "fnExactWeightedWinners", inPlace := ["internal/bytealg.IndexByteString"], unfollowed := true, recurses := true, apart := false, narrowed := true }
def FnExactWeightedWinnersUptoSaid : Prop := fnExactWeightedWinnersUptoRow.holds Tryz.pinned (OpenSpec.upto fnExactWeightedWinnersSpec)

end Rows
end Go.Proofs.YtkddpilambnicaaGreat
