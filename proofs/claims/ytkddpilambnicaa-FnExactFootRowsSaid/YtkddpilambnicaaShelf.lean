/- Contracts of Go's library laid at this seat's program by the kit's own tools. Conditions: each contract's own. -/
import Derived.Ground.SlgmProg
import Derived.Shelf.SortM.Plain
import Derived.Shelf.SortM.SortNone
import Derived.Test.YtkddpilambnicaaProg
namespace Go.Proofs
open Go.Shelf
def Try.laysSlM5_f92_ren : Go.Shelf.Ren := ⟨fun | 5 => 92 | 8 => 153 | 7 => 152 | 19 => 199 | 20 => 200 | 10 => 190 | 11 => 191 | 12 => 192 | 13 => 193 | 14 => 194 | 15 => 195 | 16 => 196 | 17 => 197 | 18 => 198 | 30 => 210 | 31 => 211 | 32 => 212 | 33 => 213 | 34 => 214 | 35 => 215 | 40 => 217 | n => n, fun | 23 => 25 | 25 => 3 | 3 => 3 | 32 => 154 | 22 => 25 | 0 => 0 | 44 => 194 | 46 => 196 | 4 => 4 | 36 => 186 | 35 => 185 | 41 => 191 | 5 => 5 | 9 => 9 | 53 => 201 | 57 => 205 | 63 => 208 | 64 => 209 | n => n, fun | n => n⟩
end Go.Proofs
