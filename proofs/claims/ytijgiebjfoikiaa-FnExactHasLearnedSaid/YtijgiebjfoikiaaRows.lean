/-
  No cell of these rows narrows 'for every input' (looked for: loops, veiled, ifaces, maps, wideKeys, modest, calm, conditions, laid).
  DERIVED. THE GIVEN ROWS OF THIS SEAT. 4 by the template 'for every input the law returns true; each argument reads behind the call as it read before'; 0 by the template 'total and deterministic' (their statements: YtijgiebjfoikiaaTotals.lean).
  GIVEN WITH THE SEED: the statements are not yours to turn. If you find one false, say at which input.
  Laid BY PROGRAM, IN A SANDBOX (cutbox-rows.mjs): the forced cells as the released guide's own fill.sh prints them over the translation 3be10b0cc574c29f… (all of the seat's roots in one cut). By AI agents, Wed Nov 11 2026. No macro, syntax, notation, axiom, sorry.
-/
import Derived.Test.YtijgiebjfoikiaaChecked
import GoSem.Claim
import GoSem.ClaimJoined
import GoSem.ClaimMapViews
import Derived.JoinedTies
import Derived.KernelRfl
namespace Go.Proofs.Ytijgiebjfoikiaa
/- THE CELL 'sum', in the pinned program and in every row, IS THE sha256 OF THE DUMP (.gsa) THAT YtijgiebjfoikiaaProg.lean LOADS. Nothing in Lean hashes anything: it is a label: what it is worth is what the hold of that sum in a sandbox is worth. -/
noncomputable def Try.pinned : Pinned := { name := "ytijgiebjfoikiaa", sum := "3be10b0cc574c29fcba8a7536febf0a9c9fd92652e15e3b15278cbb294c026f8", checked := Try.checked }
namespace Rows
def none {H : Type} : Left H := { results := [], args := [] }

/-- 'laws.FnExactRestrictMeasure': WHATEVER THE INPUT: true; the input reads as it did. -/
def fnExactRestrictMeasureSpec : ChangeSpec := { name := "fnExactRestrictMeasure", fn := fun _ => fun
  | [d1, d2] => { results := [.lit (.bool true)], args := [d1, d2] }
  | _ => none }
def fnExactRestrictMeasureRow : OpenClaim := { program := "ytijgiebjfoikiaa", sum := "3be10b0cc574c29fcba8a7536febf0a9c9fd92652e15e3b15278cbb294c026f8", func := "loop.example/g02080/laws.FnExactRestrictMeasure", spec := "fnExactRestrictMeasure", unfollowed := true, recurses := true, apart := false }
def FnExactRestrictMeasureSaid : Prop := fnExactRestrictMeasureRow.holds Try.pinned (OpenSpec.ofChange fnExactRestrictMeasureSpec)

/-- ITS FALSE NEIGHBOUR: 'it returns false'. Refute it at one input. -/
def fnExactRestrictMeasureWrong : ChangeSpec := { name := "fnExactRestrictMeasure", fn := fun _ => fun
  | [d1, d2] => { results := [.lit (.bool false)], args := [d1, d2] }
  | _ => none }
def FnExactRestrictMeasureWrongFalsely : Prop := fnExactRestrictMeasureRow.holds Try.pinned (OpenSpec.ofChange fnExactRestrictMeasureWrong)

/-- 'laws.FnExactHasLearned': WHATEVER THE INPUT: true; the input reads as it did. -/
def fnExactHasLearnedSpec : ChangeSpec := { name := "fnExactHasLearned", fn := fun _ => fun
  | [d1, d2] => { results := [.lit (.bool true)], args := [d1, d2] }
  | _ => none }
def fnExactHasLearnedRow : OpenClaim := { program := "ytijgiebjfoikiaa", sum := "3be10b0cc574c29fcba8a7536febf0a9c9fd92652e15e3b15278cbb294c026f8", func := "loop.example/g02080/laws.FnExactHasLearned", spec := "fnExactHasLearned", unfollowed := true, recurses := true, apart := false }
def FnExactHasLearnedSaid : Prop := fnExactHasLearnedRow.holds Try.pinned (OpenSpec.ofChange fnExactHasLearnedSpec)

/-- ITS FALSE NEIGHBOUR: 'it returns false'. Refute it at one input. -/
def fnExactHasLearnedWrong : ChangeSpec := { name := "fnExactHasLearned", fn := fun _ => fun
  | [d1, d2] => { results := [.lit (.bool false)], args := [d1, d2] }
  | _ => none }
def FnExactHasLearnedWrongFalsely : Prop := fnExactHasLearnedRow.holds Try.pinned (OpenSpec.ofChange fnExactHasLearnedWrong)

/-- 'laws.FnExactActiveFaith': WHATEVER THE INPUT: true; the input reads as it did. -/
def fnExactActiveFaithSpec : ChangeSpec := { name := "fnExactActiveFaith", fn := fun _ => fun
  | [d1, d2, d3] => { results := [.lit (.bool true)], args := [d1, d2, d3] }
  | _ => none }
def fnExactActiveFaithRow : OpenClaim := { program := "ytijgiebjfoikiaa", sum := "3be10b0cc574c29fcba8a7536febf0a9c9fd92652e15e3b15278cbb294c026f8", func := "loop.example/g02080/laws.FnExactActiveFaith", spec := "fnExactActiveFaith", unfollowed := true, recurses := true, apart := false }
def FnExactActiveFaithSaid : Prop := fnExactActiveFaithRow.holds Try.pinned (OpenSpec.ofChange fnExactActiveFaithSpec)

/-- ITS FALSE NEIGHBOUR: 'it returns false'. Refute it at one input. -/
def fnExactActiveFaithWrong : ChangeSpec := { name := "fnExactActiveFaith", fn := fun _ => fun
  | [d1, d2, d3] => { results := [.lit (.bool false)], args := [d1, d2, d3] }
  | _ => none }
def FnExactActiveFaithWrongFalsely : Prop := fnExactActiveFaithRow.holds Try.pinned (OpenSpec.ofChange fnExactActiveFaithWrong)

/-- 'laws.FnExactHearRow': WHATEVER THE INPUT: true; the input reads as it did. -/
def fnExactHearRowSpec : ChangeSpec := { name := "fnExactHearRow", fn := fun _ => fun
  | [d1, d2] => { results := [.lit (.bool true)], args := [d1, d2] }
  | _ => none }
def fnExactHearRowRow : OpenClaim := { program := "ytijgiebjfoikiaa", sum := "3be10b0cc574c29fcba8a7536febf0a9c9fd92652e15e3b15278cbb294c026f8", func := "loop.example/g02080/laws.FnExactHearRow", spec := "fnExactHearRow", unfollowed := true, recurses := true, apart := false }
def FnExactHearRowSaid : Prop := fnExactHearRowRow.holds Try.pinned (OpenSpec.ofChange fnExactHearRowSpec)

/-- ITS FALSE NEIGHBOUR: 'it returns false'. Refute it at one input. -/
def fnExactHearRowWrong : ChangeSpec := { name := "fnExactHearRow", fn := fun _ => fun
  | [d1, d2] => { results := [.lit (.bool false)], args := [d1, d2] }
  | _ => none }
def FnExactHearRowWrongFalsely : Prop := fnExactHearRowRow.holds Try.pinned (OpenSpec.ofChange fnExactHearRowWrong)

/- THE SECOND FORM. 'bulk': how many values and letters a reading holds, each counted each time it is reached (what is shared counts as often as it is met; a slice's spare places count too). A statement '..UptoSaid' is the law's where the arguments, and the package variables that the reading takes, are together of bulk at most 1048576: NARROWER than '..Said'. Prove '..Said' where nothing that the law and all that it calls make is longer than what came in: it says more and counts as full. Else prove '..UptoSaid'. A law counts once. -/
mutual
def uptoBulk {H : Type} : DataW H → Nat
  | .lit (.string bytes) => bytes.length + 1
  | .lit _ => 1
  | .nil => 1
  | .ptr d => uptoBulk d + 1
  | .slice elems spare => uptoBulkAll elems + uptoBulkAll spare + 1
  | .agg parts => uptoBulkAll parts + 1
  | .iface _ d => uptoBulk d + 1
  | .map entries => uptoBulkEntries entries + 1
  | .held _ => 1
def uptoBulkAll {H : Type} : List (DataW H) → Nat
  | [] => 0
  | d :: r => uptoBulk d + uptoBulkAll r
def uptoBulkEntries {H : Type} : List (Lit × DataW H) → Nat
  | [] => 0
  | x :: r => uptoBulkEntry x + uptoBulkEntries r
def uptoBulkEntry {H : Type} : Lit × DataW H → Nat
  | (.string bytes, d) => bytes.length + uptoBulk d + 1
  | (_, d) => uptoBulk d + 1
 end
def uptoSmall : (H : Type) → List (DataW H) → Bool := fun _ ds => decide (uptoBulkAll ds ≤ 1048576)
def OpenSpec.upto (s : _root_.Go.ChangeSpec) : _root_.Go.OpenSpec := { _root_.Go.OpenSpec.ofChange s with cond := some uptoSmall }

/-- 'laws.FnExactRestrictMeasure', WHERE WHAT IT READS IS OF BULK AT MOST 1048576: true; the input reads as it did. -/
def fnExactRestrictMeasureUptoRow : OpenClaim := { program := "ytijgiebjfoikiaa", sum := "3be10b0cc574c29fcba8a7536febf0a9c9fd92652e15e3b15278cbb294c026f8", func := "loop.example/g02080/laws.FnExactRestrictMeasure", spec := "fnExactRestrictMeasure", unfollowed := true, recurses := true, apart := false, narrowed := true }
def FnExactRestrictMeasureUptoSaid : Prop := fnExactRestrictMeasureUptoRow.holds Try.pinned (OpenSpec.upto fnExactRestrictMeasureSpec)

/-- 'laws.FnExactHasLearned', WHERE WHAT IT READS IS OF BULK AT MOST 1048576: true; the input reads as it did. -/
def fnExactHasLearnedUptoRow : OpenClaim := { program := "ytijgiebjfoikiaa", sum := "3be10b0cc574c29fcba8a7536febf0a9c9fd92652e15e3b15278cbb294c026f8", func := "loop.example/g02080/laws.FnExactHasLearned", spec := "fnExactHasLearned", unfollowed := true, recurses := true, apart := false, narrowed := true }
def FnExactHasLearnedUptoSaid : Prop := fnExactHasLearnedUptoRow.holds Try.pinned (OpenSpec.upto fnExactHasLearnedSpec)

/-- 'laws.FnExactActiveFaith', WHERE WHAT IT READS IS OF BULK AT MOST 1048576: true; the input reads as it did. -/
def fnExactActiveFaithUptoRow : OpenClaim := { program := "ytijgiebjfoikiaa", sum := "3be10b0cc574c29fcba8a7536febf0a9c9fd92652e15e3b15278cbb294c026f8", func := "loop.example/g02080/laws.FnExactActiveFaith", spec := "fnExactActiveFaith", unfollowed := true, recurses := true, apart := false, narrowed := true }
def FnExactActiveFaithUptoSaid : Prop := fnExactActiveFaithUptoRow.holds Try.pinned (OpenSpec.upto fnExactActiveFaithSpec)

/-- 'laws.FnExactHearRow', WHERE WHAT IT READS IS OF BULK AT MOST 1048576: true; the input reads as it did. -/
def fnExactHearRowUptoRow : OpenClaim := { program := "ytijgiebjfoikiaa", sum := "3be10b0cc574c29fcba8a7536febf0a9c9fd92652e15e3b15278cbb294c026f8", func := "loop.example/g02080/laws.FnExactHearRow", spec := "fnExactHearRow", unfollowed := true, recurses := true, apart := false, narrowed := true }
def FnExactHearRowUptoSaid : Prop := fnExactHearRowUptoRow.holds Try.pinned (OpenSpec.upto fnExactHearRowSpec)

end Rows
end Go.Proofs.Ytijgiebjfoikiaa
