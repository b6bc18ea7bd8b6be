/- slices.Grow at the nil slice of ints: an empty slice, new where it has room. Conditions: the size is not negative, and within the model's greatest row. -/
import Derived.Shelf.Spec.SlicesGrow
import Derived.RangeFuncBox
import Derived.Test.YtkddpilambnicaaStep
import Derived.Test.YtkddpilambnicaaProg
namespace Go.Proofs.Ytkddpilambnicaa.Seq
open Go.RowKit Go.Shelf Go.Proofs.YtkddpilambnicaaW.PrintWords Go.Proofs.YtkddpilambnicaaW.PrintLast Go.Proofs.YtkddpilambnicaaW.PrintMore

def growRen : Go.Shelf.Ren := ⟨fun | 4 => 209 | n => n, fun | 22 => 25 | 25 => 3 | n => n, fun | n => n⟩
theorem growLays : Go.Proofs.Lays8.n4 Try.prog growRen := {
  mixed := by kernel_rfl
  f4 := ⟨Try.f209.name, by decide, Try.func209.trans (congrArg some (by kernel_rfl))⟩
  t0 := Try.underlying0
  a0 := Try.isAgg0
  z0 := Try.sizeOf0
  v0 := Try.zeroValue0
  t3 := Try.underlying3
  a3 := Try.isAgg3
  z3 := Try.sizeOf3
  v3 := Try.zeroValue3
  t4 := Try.underlying4
  a4 := Try.isAgg4
  z4 := Try.sizeOf4
  v4 := Try.zeroValue4
  t9 := Try.underlying9
  a9 := Try.isAgg9
  z9 := Try.sizeOf9
  v9 := Try.zeroValue9
  t20 := Try.underlying20
  a20 := Try.isAgg20
  z20 := Try.sizeOf20
  v20 := Try.zeroValue20
  t22 := Try.underlying25
  a22 := Try.isAgg25
  z22 := Try.sizeOf25
  v22 := Try.zeroValue25 }

theorem growNil (n : Nat) (w : World) (hn : n ≤ 17592186044416) :
    Calls Try.prog 209 #[.slice none 0 0, .int .i64 n] w fun e w' => ∃ v0_ : Value, e = .returned v0_ ∧ Kd.R (Kd.int .i64) 3 w' w.heap.size (fun _ => True) v0_ ([] : List Int) ∧ Below w.heap.size w w' := by
  by_cases h : n = 0
  · subst h
    refine (Any8.slices_Grow_room growLays none 0 0 0 w (by omega) (by omega) (by omega) (by omega)).mono ?_
    rintro e w' ⟨rfl, rfl⟩
    exact ⟨_, rfl, Kd.R_nil _ _ _ _ _, Below.refl _ _⟩
  · obtain ⟨i0, hi, hz0, hz1, hz2⟩ := info_parts (show (Try.prog.info? 3).map (fun i => (i.zero, i.size, i.bytes)) = some (some (.int .i64 0), 1, 8) by kernel_rfl)
    refine (Any8.slices_Grow_grow growLays i0 (.int .i64 0) hi hz0 (by omega) none 0 0 n [] w (by omega) (by omega) (by rw [hz2]; omega) (by omega) (by simp) (fun _ => rfl) (fun a ha => by cases ha)).mono ?_
    rintro e w' ⟨rfl, rfl⟩
    refine ⟨_, rfl, ?_, ?_⟩
    · refine Kd.R_of_own ?_ (fun _ _ => trivial)
      have hb := World.alloc_heap_new w.drew (.cells (([] : List Value).toArray ++ Builtin.zeroCells (Value.int .i64 0).cells (0 + n - 0) ++ Builtin.zeroCells (Value.int .i64 0).cells (grownCap w (0 + n) 0 (growRen.t 25) - (0 + n))) (growRen.t 25))
      have hc := grownCap_ge w (0 + n) 0 (growRen.t 25)
      have hc2 : n ≤ grownCap w n 0 (growRen.t 25) := grownCap_ge w n 0 (growRen.t 25)
      exact ⟨by simp [encs], .inr ⟨w.heap.size, _, _, rfl, Nat.le_refl _, hb, Nat.zero_le _, grownCap_le_maxLen w _ _ _ (by unfold maxLen; omega), by simp [Builtin.zeroCells, Value.cells]; omega, by simp [encs]⟩⟩
    · exact (below_drew (Below.refl _ _)).alloc (by simp) _
end Go.Proofs.Ytkddpilambnicaa.Seq
