/- Contracts of Go's library laid at this seat's program by the kit's own tools. Conditions: each contract's own. -/
import Derived.Ground.SlgmProg
import Derived.Shelf.SortM.Plain
import Derived.Shelf.SortM.SortNone
import Derived.Test.YtndcgckgkkhbpaaProg
namespace Go.Proofs
open Go.Shelf
def Try.laysSlM5_f135_ren : Go.Shelf.Ren := ⟨fun | 5 => 135 | 8 => 191 | 7 => 190 | 19 => 215 | 20 => 216 | 10 => 206 | 11 => 207 | 12 => 208 | 13 => 209 | 14 => 210 | 15 => 211 | 16 => 212 | 17 => 213 | 18 => 214 | 30 => 221 | 31 => 222 | 32 => 223 | 33 => 224 | 34 => 225 | 35 => 226 | 40 => 228 | n => n, fun | 23 => 30 | 25 => 3 | 3 => 3 | 32 => 153 | 22 => 30 | 0 => 0 | 44 => 180 | 46 => 183 | 4 => 4 | 36 => 188 | 35 => 187 | 41 => 193 | 5 => 5 | 9 => 9 | 53 => 200 | 57 => 204 | 63 => 206 | 64 => 207 | n => n, fun | n => n⟩
theorem Try.laysSlM5_f135 : Go.Proofs.SlLaysM.n5 Try.prog Try.laysSlM5_f135_ren := {
  mixed := by kernel_rfl
  f5 := ⟨Try.f135.name, by decide, Try.func135.trans (congrArg some (by kernel_rfl))⟩
  f7 := ⟨Try.f190.name, by decide, Try.func190.trans (congrArg some (by kernel_rfl))⟩
  f8 := Try.func191.trans (congrArg some (by kernel_rfl))
  f10 := ⟨Try.f206.name, by decide, Try.func206.trans (congrArg some (by kernel_rfl))⟩
  f11 := ⟨Try.f207.name, by decide, Try.func207.trans (congrArg some (by kernel_rfl))⟩
  f12 := ⟨Try.f208.name, by decide, Try.func208.trans (congrArg some (by kernel_rfl))⟩
  f13 := ⟨Try.f209.name, by decide, Try.func209.trans (congrArg some (by kernel_rfl))⟩
  f14 := ⟨Try.f210.name, by decide, Try.func210.trans (congrArg some (by kernel_rfl))⟩
  f15 := ⟨Try.f211.name, by decide, Try.func211.trans (congrArg some (by kernel_rfl))⟩
  f16 := ⟨Try.f212.name, by decide, Try.func212.trans (congrArg some (by kernel_rfl))⟩
  f17 := ⟨Try.f213.name, by decide, Try.func213.trans (congrArg some (by kernel_rfl))⟩
  f18 := ⟨Try.f214.name, by decide, Try.func214.trans (congrArg some (by kernel_rfl))⟩
  f19 := Try.func215.trans (congrArg some (by kernel_rfl))
  f20 := Try.func216.trans (congrArg some (by kernel_rfl))
  f30 := ⟨Try.f221.name, by decide, Try.func221.trans (congrArg some (by kernel_rfl))⟩
  f31 := Try.func222.trans (congrArg some (by kernel_rfl))
  f32 := Try.func223.trans (congrArg some (by kernel_rfl))
  f33 := ⟨Try.f224.name, by decide, Try.func224.trans (congrArg some (by kernel_rfl))⟩
  f34 := ⟨Try.f225.name, by decide, Try.func225.trans (congrArg some (by kernel_rfl))⟩
  f35 := ⟨Try.f226.name, by decide, Try.func226.trans (congrArg some (by kernel_rfl))⟩
  f40 := ⟨Try.f228.name, by decide, Try.func228.trans (congrArg some (by kernel_rfl))⟩
  t0 := Try.underlying0
  a0 := Try.isAgg0
  z0 := Try.sizeOf0
  v0 := Try.zeroValue0
  t3 := Try.underlying3
  a3 := Try.isAgg3
  z3 := Try.sizeOf3
  v3 := Try.zeroValue3
  t4 := Try.underlying4
  a4 := Try.isAgg4
  z4 := Try.sizeOf4
  v4 := Try.zeroValue4
  t5 := Try.underlying5
  a5 := Try.isAgg5
  z5 := Try.sizeOf5
  v5 := Try.zeroValue5
  t9 := Try.underlying9
  a9 := Try.isAgg9
  z9 := Try.sizeOf9
  v9 := Try.zeroValue9
  t22 := Try.underlying30
  a22 := Try.isAgg30
  z22 := Try.sizeOf30
  v22 := Try.zeroValue30
  t23 := Try.underlying30
  a23 := Try.isAgg30
  z23 := Try.sizeOf30
  v23 := Try.zeroValue30
  t25 := Try.underlying3
  a25 := Try.isAgg3
  z25 := Try.sizeOf3
  v25 := Try.zeroValue3
  t32 := Try.underlying153
  a32 := Try.isAgg153
  z32 := Try.sizeOf153
  v32 := Try.zeroValue153
  t35 := Try.underlying187
  a35 := Try.isAgg187
  z35 := Try.sizeOf187
  v35 := Try.zeroValue187
  t36 := Try.underlying188
  a36 := Try.isAgg188
  z36 := Try.sizeOf188
  v36 := Try.zeroValue188
  t41 := Try.underlying193
  a41 := Try.isAgg193
  z41 := Try.sizeOf193
  v41 := Try.zeroValue193
  t44 := Try.underlying180
  a44 := Try.isAgg180
  z44 := Try.sizeOf180
  v44 := Try.zeroValue180
  t46 := Try.underlying183
  a46 := Try.isAgg183
  z46 := Try.sizeOf183
  v46 := Try.zeroValue183
  t53 := Try.underlying200
  a53 := Try.isAgg200
  z53 := Try.sizeOf200
  v53 := Try.zeroValue200
  t57 := Try.underlying204
  a57 := Try.isAgg204
  z57 := Try.sizeOf204
  v57 := Try.zeroValue204
  t63 := Try.underlying206
  a63 := Try.isAgg206
  z63 := Try.sizeOf206
  v63 := Try.zeroValue206
  t64 := Try.underlying207
  a64 := Try.isAgg207
  z64 := Try.sizeOf207
  v64 := Try.zeroValue207 }
open Go.Sort Go.RowKit in
theorem Try.slices_Sort_int (blk off cap : Nat) (zs : List Int) (w : World) (hH : Holds (Value.int .i64) w blk off zs.toArray) (hblk : blk < w.heap.size) (hsz : zs.length < 4611686018427387904) :
    Calls Try.prog 135 #[.slice (some ⟨blk, off, none⟩) zs.length cap] w fun e w' =>
      e = .returned (.tuple #[]) ∧ ∃ n os, w' = grow (putRow (Value.int .i64) (Sort.ahead w n) blk off (zs.mergeSort fun x y => decide (x ≤ y)).toArray) os := AnyM.slices_Sort_int Try.laysSlM5_f135 blk off cap zs w hH hblk hsz
open Go.RowKit Go.Sort in
theorem Try.slices_Sort_int_none (p : Option Addr) (cap : Nat) (w : World) :
    Calls Try.prog 135 #[.slice p 0 cap] w fun e w' => e = .returned (.tuple #[]) ∧ w' = w := AnyM.slices_Sort_int_none Try.laysSlM5_f135 p cap w
end Go.Proofs
