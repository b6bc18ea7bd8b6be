/- slices.Values, slices.AppendSeq, slices.Collect at int slices: the values come in their order, into a new slice. Conditions: each lemma's own. -/
import Derived.RangeFuncBox
import Derived.RangeFuncLeaves
import Derived.Shelf.Abstract
import Derived.WalkKit
import Derived.OwnWalkIn
import Derived.TacticsInMore
import Derived.LoopNIn
import Derived.LoopIn
import Derived.Maps.AppendAt
import Derived.Test.YtkddpilambnicaaGreatStep
import Derived.Test.YtkddpilambnicaaGreatProg
namespace Go.Proofs.YtkddpilambnicaaGreat.Seq
open Go.RowKit Go.Shelf Go.Proofs.YtkddpilambnicaaGreatW.PrintWords Go.Proofs.YtkddpilambnicaaGreatW.PrintLast Go.Proofs.YtkddpilambnicaaGreatW.PrintMore

attribute [local go_sem] Oper.semAt_some







end Go.Proofs.YtkddpilambnicaaGreat.Seq
