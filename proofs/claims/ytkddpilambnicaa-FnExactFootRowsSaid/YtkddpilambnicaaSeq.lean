/- slices.Values, slices.AppendSeq, slices.Collect at int slices: the values come in their order, into a new slice. Conditions: each lemma's own. -/
import Derived.RangeFuncBox
import Derived.RangeFuncLeaves
import Derived.Shelf.Abstract
import Derived.WalkKit
import Derived.OwnWalkIn
import Derived.TacticsInMore
import Derived.LoopNIn
import Derived.LoopIn
import Derived.Maps.AppendAt
import Derived.Test.YtkddpilambnicaaStep
import Derived.Test.YtkddpilambnicaaProg
namespace Go.Proofs.Ytkddpilambnicaa.Seq
open Go.RowKit Go.Shelf Go.Proofs.YtkddpilambnicaaW.PrintWords Go.Proofs.YtkddpilambnicaaW.PrintLast Go.Proofs.YtkddpilambnicaaW.PrintMore

attribute [local go_sem] Oper.semAt_some







end Go.Proofs.Ytkddpilambnicaa.Seq
