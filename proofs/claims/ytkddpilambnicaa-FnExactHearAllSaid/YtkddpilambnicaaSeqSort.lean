/- slices.Sorted(slices.Values(s)) at int slices: a new slice that holds s's values sorted. Conditions: each lemma's own. -/
import Derived.Shelf.SortM.Plain
import Derived.Shelf.SortM.SortNone
import Derived.Lib.SlKeysI
import Derived.Test.YtkddpilambnicaaShelf
import Derived.Test.YtkddpilambnicaaSeq
namespace Go.Proofs.Ytkddpilambnicaa.Seq
open Go.RowKit Go.Shelf Go.Sort Go.Proofs.YtkddpilambnicaaW.PrintWords Go.Proofs.YtkddpilambnicaaW.PrintLast Go.Proofs.YtkddpilambnicaaW.PrintMore

attribute [local go_sem] Oper.semAt_some

set_option maxRecDepth 100000 in
set_option maxHeartbeats 2000000 in
theorem sorted_in (Bs : Nat) (w0 : World) (A : Option Addr) (cap : Nat) (zs : List Int) (hlen : zs.length ≤ maxLen) (hbytes : zs.length * 8 ≤ 140737488355328) (hC : Kd.C (Kd.int .i64) w0 A zs.length zs)
    (w : World) (hBs : Bs < w.heap.size) (hw : Below w0.heap.size w0 w) (hc : w.cell? ⟨Bs, 0, none⟩ = some (.slice A zs.length cap)) :
    CallsIn Fence.wide 5 Try.prog 183 #[.func (.func 207) #[] #[.pointer (some ⟨Bs, 0, none⟩)]] w fun e W' => ∃ v, e = .returned v ∧ W'.ownsRow w.heap.size 3 1 v (zs.mergeSort (fun x y => decide (x ≤ y))).length ((zs.mergeSort (fun x y => decide (x ≤ y))).map (Value.int .i64)) ∧ Below w.heap.size w W' := by
  have hF : ∀ f, Fence.wide.fn f := fun _ => trivial
  refine callsIn_of_wp Try.func183 rfl (hF _) ?_ rfl
  simp only [Try.ntmps183, List.size_toArray, List.length_cons, List.length_nil, Nat.reduceAdd, Nat.reduceSub, Array.replicate_succ, Array.replicate_zero, List.push_toArray, List.append_toArray, List.nil_append, List.cons_append]
  have hfc : Fence.wide.fn 206 := trivial
  have hfs : Fence.wide.fn 92 := trivial
  gi_wp2_with (gi_at_call 206; refine (collect_in Fence.wide 4 (hF _) (hF _) (hF _) rfl (by omega) Bs w0 A cap zs hlen hbytes hC _ hBs hw hc).mono ?_; rintro e W ⟨v, rfl, hrow, hnil, hb⟩)
  rcases hrow.2 with ⟨rfl, hz⟩ | ⟨gb, cap, cur, rfl, hbase, hgb, r1, r2, r3, r4⟩
  · have hss : zs = [] := List.eq_nil_of_length_eq_zero hz
    subst hss
    gi_wp2_with (gi_at_call 92; refine (callsIn_wide.2 (Try.slices_Sort_int_none none 0 W)).mono ?_; rintro e w' ⟨rfl, rfl⟩)
    go_ret
    exact ⟨.slice none 0 0, rfl, by simpa using hrow, hb⟩
  · have hH : Holds encZ W gb 0 zs.toArray := holds_of_block_i hgb (by simpa [encZ] using r4)
    have hgl : gb < W.heap.size := (Array.getElem?_eq_some_iff.1 hgb).1
    have hsz : zs.length < 4611686018427387904 := by omega
    have cS := Try.slices_Sort_int gb 0 cap zs W hH hgl hsz
    gi_wp2_with (gi_at_call 92; refine (callsIn_wide.2 cS).mono ?_; rintro e w' ⟨rfl, nn, os, rfl⟩)
    go_ret
    refine ⟨_, rfl, ?_, hb.grown (grownBy_sorted_i _) hb.size (fun j hj => by cases hj; exact hbase)⟩
    have := ownsRow_sorted_i (w := W) (os := os) (n := nn) (ss := zs) (ts := zs.mergeSort (fun x y => decide (x ≤ y))) (by simp) hbase hgb r1 r2 r3
    simpa [encZ] using this

/-- slices.Sorted(slices.Values(s)), read as a row. -/
theorem sorted (Bs : Nat) (w0 : World) (A : Option Addr) (cap : Nat) (zs : List Int) (hlen : zs.length ≤ maxLen) (hbytes : zs.length * 8 ≤ 140737488355328) (hC : Kd.C (Kd.int .i64) w0 A zs.length zs)
    (w : World) (hBs : Bs < w.heap.size) (hw : Below w0.heap.size w0 w) (hc : w.cell? ⟨Bs, 0, none⟩ = some (.slice A zs.length cap)) :
    Calls Try.prog 183 #[.func (.func 207) #[] #[.pointer (some ⟨Bs, 0, none⟩)]] w fun e W' => ∃ (B : Option Addr) (c : Nat), e = .returned (.slice B (zs.mergeSort (fun x y => decide (x ≤ y))).length c) ∧ (zs.mergeSort (fun x y => decide (x ≤ y))).length ≤ c ∧ Kd.C (Kd.int .i64) W' B (zs.mergeSort (fun x y => decide (x ≤ y))).length (zs.mergeSort (fun x y => decide (x ≤ y))) ∧ Below w.heap.size w W' := by
  refine (callsIn_wide.1 (sorted_in Bs w0 A cap zs hlen hbytes hC w hBs hw hc)).mono ?_
  rintro e W' ⟨v, rfl, hrow, hb⟩
  have hR : (Kd.int .i64).R 3 W' w.heap.size (fun _ => True) v (zs.mergeSort (fun x y => decide (x ≤ y))) := Kd.R_of_own (by simpa [encs] using hrow) (fun _ _ => trivial)
  obtain ⟨B, c, rfl, hle, hCC⟩ := Kd.R_reads hR
  exact ⟨B, c, rfl, hle, hCC, hb⟩

/-- slices.Values(s). -/
theorem values (a : Option Addr) (len cap : Nat) (w : World) :
    Calls Try.prog 184 #[.slice a len cap] w fun e w' => e = .returned (.func (.func 207) #[] #[.pointer (some ⟨w.heap.size, 0, none⟩)]) ∧ w' = w.alloc (.cells #[.slice a len cap] 25) :=
  callsIn_wide.1 (values_in Fence.wide 1 trivial rfl a len cap w)

/-- slices.Sorted right behind slices.Values. -/
theorem sortedV (w0 : World) (A : Option Addr) (cap : Nat) (zs : List Int) (hlen : zs.length ≤ maxLen) (hbytes : zs.length * 8 ≤ 140737488355328) (hC : Kd.C (Kd.int .i64) w0 A zs.length zs) :
    Calls Try.prog 183 #[.func (.func 207) #[] #[.pointer (some ⟨w0.heap.size, 0, none⟩)]] (w0.alloc (.cells #[.slice A zs.length cap] 25)) fun e W' => ∃ (m : List Int) (B : Option Addr) (c : Nat), zs.mergeSort (fun x y => decide (x ≤ y)) = m ∧ e = .returned (.slice B m.length c) ∧ m.length ≤ c ∧ Kd.C (Kd.int .i64) W' B m.length m ∧ Below w0.heap.size w0 W' := by
  have hB : Below w0.heap.size w0 (w0.alloc (.cells #[.slice A zs.length cap] 25)) := (Below.refl _ _).alloc (Nat.le_refl _) _
  refine (sorted w0.heap.size w0 A cap zs hlen hbytes hC _ (by simp) hB (Boxed.new w0 25 _).cell).mono ?_
  rintro e W' ⟨B, c, rfl, hle, hCC, hb⟩
  exact ⟨_, B, c, rfl, rfl, hle, hCC, hB.trans (hb.mono (by simp))⟩

/-- slices.Sort at a row of the call's own. -/
theorem sortOwn (P0_ : Nat → Prop) (u : Value) (l0 : List Int) (w0 w : World) (hB : Below w0.heap.size w0 w) (ho0 : Kd.R (Kd.int .i64) 3 w w0.heap.size P0_ u l0) (hsz : l0.length < 4611686018427387904) :
    Calls Try.prog 92 #[u] w fun e w' => e = .returned (.tuple #[]) ∧ Kd.R (Kd.int .i64) 3 w' w0.heap.size (fun k_ => (P0_ k_ ∨ w.heap.size ≤ k_)) u (l0.mergeSort (fun x y => decide (x ≤ y))) ∧ Below w0.heap.size w0 w' ∧ Kept w w' (fun k_ => P0_ k_) := by
  have hrow := Kd.own_of_R ho0
  rcases hrow.2 with ⟨rfl, hz⟩ | ⟨gb, cap, cur, rfl, hbase, hgb, r1, r2, r3, r4⟩
  · have hss : l0 = [] := List.eq_nil_of_length_eq_zero hz
    subst hss
    refine (Try.slices_Sort_int_none none 0 w).mono ?_
    rintro e w' ⟨rfl, rfl⟩
    exact ⟨rfl, by simpa using Kd.R_mono ho0 (fun _ hk => .inl hk), hB, Kept.refl _ _⟩
  · have hH : Holds encZ w gb 0 l0.toArray := holds_of_block_i hgb (by simpa [encs, encZ] using r4)
    have hgl : gb < w.heap.size := (Array.getElem?_eq_some_iff.1 hgb).1
    have hP : P0_ gb := ho0.1 gb (by simp [Value.ownBlock])
    refine (Try.slices_Sort_int gb 0 cap l0 w hH hgl hsz).mono ?_
    rintro e w' ⟨rfl, nn, os, rfl⟩
    have hg := grownBy_sorted_i (w := w) (g := gb) (n := nn) (os := os) (l0.mergeSort (fun x y => decide (x ≤ y))).toArray
    have ho := ownsRow_sorted_i (w := w) (os := os) (n := nn) (ss := l0) (ts := l0.mergeSort (fun x y => decide (x ≤ y))) (by simp) hbase hgb r1 r2 r3
    refine ⟨rfl, Kd.R_of_own (by simpa [encs, encZ] using ho) (fun k hk => ?_), hB.grown hg hB.size (fun j hj => by cases hj; exact hbase), Kept.of_grown hg (Kept.refl _ _) (fun k hk => .inl (by cases hk; exact hP))⟩
    have : k = gb := by simpa [Value.ownBlock, eq_comm] using hk
    rw [this]; exact .inl hP

end Go.Proofs.Ytkddpilambnicaa.Seq
