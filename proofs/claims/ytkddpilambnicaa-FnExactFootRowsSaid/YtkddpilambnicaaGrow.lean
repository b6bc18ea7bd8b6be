/- slices.Grow at the nil slice of ints: an empty slice, new where it has room. Conditions: the size is not negative, and within the model's greatest row. -/
import Derived.Shelf.Spec.SlicesGrow
import Derived.RangeFuncBox
import Derived.Test.YtkddpilambnicaaStep
import Derived.Test.YtkddpilambnicaaProg
namespace Go.Proofs.Ytkddpilambnicaa.Seq
open Go.RowKit Go.Shelf Go.Proofs.YtkddpilambnicaaW.PrintWords Go.Proofs.YtkddpilambnicaaW.PrintLast Go.Proofs.YtkddpilambnicaaW.PrintMore

def growRen : Go.Shelf.Ren := ⟨fun | 4 => 209 | n => n, fun | 22 => 25 | 25 => 3 | n => n, fun | n => n⟩

end Go.Proofs.Ytkddpilambnicaa.Seq
