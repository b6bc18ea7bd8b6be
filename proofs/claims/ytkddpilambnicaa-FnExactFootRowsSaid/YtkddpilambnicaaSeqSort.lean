/- slices.Sorted(slices.Values(s)) at int slices: a new slice that holds s's values sorted. Conditions: each lemma's own. -/
import Derived.Shelf.SortM.Plain
import Derived.Shelf.SortM.SortNone
import Derived.Lib.SlKeysI
import Derived.Test.YtkddpilambnicaaShelf
import Derived.Test.YtkddpilambnicaaSeq
namespace Go.Proofs.Ytkddpilambnicaa.Seq
open Go.RowKit Go.Shelf Go.Sort Go.Proofs.YtkddpilambnicaaW.PrintWords Go.Proofs.YtkddpilambnicaaW.PrintLast Go.Proofs.YtkddpilambnicaaW.PrintMore

attribute [local go_sem] Oper.semAt_some






end Go.Proofs.Ytkddpilambnicaa.Seq
