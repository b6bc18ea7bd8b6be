/- A call of a function value that lies in a place; a call's arguments, spelled otherwise. Conditions: each lemma's own. -/
import Derived.Test.YtkddpilambnicaaGreatWMore
import Derived.Test.YtkddpilambnicaaGreatWLast
namespace Go.Proofs.YtkddpilambnicaaGreat.Step
open Go.RowKit Go.Proofs.YtkddpilambnicaaGreatW.PrintWords Go.Proofs.YtkddpilambnicaaGreatW.PrintLast Go.Proofs.YtkddpilambnicaaGreatW.PrintMore

/-! a call of a function value that lies in a place, as an arm of go_wp2_with -/
section
variable {P : Program} {ops : Array Oper} {Q : Exit → Act → World → Prop}
end
end Go.Proofs.YtkddpilambnicaaGreat.Step
