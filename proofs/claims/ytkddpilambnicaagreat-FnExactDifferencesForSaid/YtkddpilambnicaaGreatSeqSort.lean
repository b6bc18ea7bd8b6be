/- slices.Sorted(slices.Values(s)) at int slices: a new slice that holds s's values sorted. Conditions: each lemma's own. -/
import Derived.Shelf.SortM.Plain
import Derived.Shelf.SortM.SortNone
import Derived.Lib.SlKeysI
import Derived.Test.YtkddpilambnicaaGreatShelf
import Derived.Test.YtkddpilambnicaaGreatSeq
namespace Go.Proofs.YtkddpilambnicaaGreat.Seq
open Go.RowKit Go.Shelf Go.Sort Go.Proofs.YtkddpilambnicaaGreatW.PrintWords Go.Proofs.YtkddpilambnicaaGreatW.PrintLast Go.Proofs.YtkddpilambnicaaGreatW.PrintMore

attribute [local go_sem] Oper.semAt_some






end Go.Proofs.YtkddpilambnicaaGreat.Seq
