/- Two variables in memory, each with a row of the call's own, beside others that stay: what an append to one of them and a store leave. For function values that write what they captured. Conditions: each lemma's own. -/
import Derived.Test.YtkddpilambnicaaWMore
import Derived.Test.YtkddpilambnicaaWApart
import Derived.Test.YtkddpilambnicaaWLast
set_option linter.unusedVariables false
set_option linter.unusedSimpArgs false
namespace Go.Proofs.Ytkddpilambnicaa.Two
open Go.RowKit Go.Proofs.YtkddpilambnicaaW.PrintWords Go.Proofs.YtkddpilambnicaaW.PrintLast Go.Proofs.YtkddpilambnicaaW.PrintMore
/-- The blocks of the variables. -/
def Zin (X : List (Nat × Obj)) (go gw k : Nat) : Prop := k = go ∨ k = gw ∨ ∃ p ∈ X, p.1 = k
/-- go: a variable that holds vo, a row of rows xs; gw: one that holds vw, a row ys; X: the other blocks. -/
structure Two {α β : Type} (d : Kd α) (e T : Nat) (d' : Kd β) (e' T' : Nat) (w0 w : World) (X : List (Nat × Obj)) (go gw : Nat) (vo vw : Value) (xs : List α) (ys : List β) : Prop where
  hb : Below w0.heap.size w0 w
  go_ge : w0.heap.size ≤ go
  gw_ge : w0.heap.size ≤ gw
  x_ge : ∀ p ∈ X, w0.heap.size ≤ p.1
  ne : go ≠ gw
  x_ne : ∀ p ∈ X, p.1 ≠ go ∧ p.1 ≠ gw
  so : Kd.S d e w w0.heap.size (fun k => some k ≠ vw.ownBlock ∧ ¬ Zin X go gw k) vo xs
  ro : d'.R e' w w0.heap.size (fun k => ¬ Zin X go gw k) vw ys
  bo : w.heap[go]? = some (.cells #[vo] T (0, 0))
  bw : w.heap[gw]? = some (.cells #[vw] T' (0, 0))
  bx : ∀ p ∈ X, w.heap[p.1]? = some p.2
namespace Two
variable {α β : Type} {d : Kd α} {e T : Nat} {d' : Kd β} {e' T' : Nat} {w0 w w1 : World} {X : List (Nat × Obj)} {go gw : Nat} {vo vw vo1 vw1 : Value} {xs xs1 : List α} {ys ys1 : List β}
end Two
end Go.Proofs.Ytkddpilambnicaa.Two
