/- Walks of Go functions that the law FnExactDifferencesFor uses: written by this session's program out of the kit's printer; each shows that a call comes to the answers of the Lean function beside it. Conditions: each contract's own. -/
import Derived.Test.YtkddpilambnicaaGreatPFnExactDifferencesForx0
import Derived.Test.YtkddpilambnicaaGreatPFnExactDifferencesForx8
import Derived.Test.YtkddpilambnicaaGreatPFnExactDifferencesForx9
namespace Go.Proofs.YtkddpilambnicaaGreat.PFnExactDifferencesFor
open Go.RowKit Go.Proofs.YtkddpilambnicaaGreatW.PrintWords Go.Proofs.YtkddpilambnicaaGreatW.PrintLast Go.Proofs.YtkddpilambnicaaGreatW.PrintMore Go.Proofs.YtkddpilambnicaaGreat.Mac Go.Proofs.YtkddpilambnicaaGreat.Law
attribute [local go_sem] max2_int min2_int max_two min_two max_three min_three max_four min_four   -- for this text's walks alone
set_option linter.unusedVariables false
set_option linter.unusedSimpArgs false

/-! ### spec_DifferencesFor: function 14 -/
mutual
def spec_DifferencesFor.j0 : Nat → Int → List (List Int) → Bool → ByteArray → List ByteArray → List (S50) → List (List Int) → Option ((List (List Int)))
 | 0, _, _, _, _, _, _, _ => none
 | k + 1, x1, x5, x25, x242000, x242001, x242002, x242003 => if x25 = true then (some x5) else (spec_DifferencesFor.l0 k x1 x5 0 x242000 x242001 x242002 x242003)
def spec_DifferencesFor.l0 : Nat → Int → List (List Int) → Int → ByteArray → List ByteArray → List (S50) → List (List Int) → Option ((List (List Int)))
 | 0, _, _, _, _, _, _, _ => none
 | k + 1, x1, x5, x6, x242000, x242001, x242002, x242003 => if x6 < (x242002.length : Int) then (spec_DifferencesFor.l1 k x1 x5 x6 (([] : List Int)) 0 x242000 x242001 x242002 x242003) else (some x5)
def spec_DifferencesFor.l1 : Nat → Int → List (List Int) → Int → List Int → Int → ByteArray → List ByteArray → List (S50) → List (List Int) → Option ((List (List Int)))
 | 0, _, _, _, _, _, _, _, _, _ => none
 | k + 1, x1, x5, x6, x7, x8, x242000, x242001, x242002, x242003 => if x8 < (x242001.length : Int) then (if 0 ≤ x6 then (if x6 < (x242003.length : Int) then (if 0 ≤ x8 then (if x8 < ((rd_L6 x242003 x6).length : Int) then (if 0 ≤ x1 then (if x1 < (x242003.length : Int) then (if x8 < ((rd_L6 x242003 x1).length : Int) then (if x7.length < 17592186044416 then (spec_DifferencesFor.l1 k x1 x5 x6 (x7 ++ [wrap64 ((rd (rd_L6 x242003 x6) x8) - (rd (rd_L6 x242003 x1) x8))]) (wrap64 (x8 + 1)) x242000 x242001 x242002 x242003) else (none)) else (none)) else (none)) else (none)) else (none)) else (none)) else (none)) else (none)) else (if 0 ≤ x6 then (if x6 < (x242003.length : Int) then (if 0 ≤ x1 then (if x1 < (x242003.length : Int) then ((spec_l5Same.f k (rd_L6 x242003 x6) (rd_L6 x242003 x1)).bind fun t258 => (spec_DifferencesFor.l2 k x1 x5 x6 x7 t258 0 x242000 x242001 x242002 x242003)) else (none)) else (none)) else (none)) else (none))
def spec_DifferencesFor.l2 : Nat → Int → List (List Int) → Int → List Int → Bool → Int → ByteArray → List ByteArray → List (S50) → List (List Int) → Option ((List (List Int)))
 | 0, _, _, _, _, _, _, _, _, _, _ => none
 | k + 1, x1, x5, x6, x7, x9, x10, x242000, x242001, x242002, x242003 => if x10 < (x5.length : Int) then (if x9 = true then (spec_DifferencesFor.l2 k x1 x5 x6 x7 true (wrap64 (x10 + 1)) x242000 x242001 x242002 x242003) else (if 0 ≤ x10 then ((spec_l5Same.f k (rd_L6 x5 x10) x7).bind fun t260 => (spec_DifferencesFor.l2 k x1 x5 x6 x7 t260 (wrap64 (x10 + 1)) x242000 x242001 x242002 x242003)) else (none))) else (if x9 = true then (spec_DifferencesFor.l0 k x1 x5 (wrap64 (x6 + 1)) x242000 x242001 x242002 x242003) else (if x5.length < 5864062014805 then (spec_DifferencesFor.l0 k x1 (x5 ++ [x7]) (wrap64 (x6 + 1)) x242000 x242001 x242002 x242003) else (none)))
end
def spec_DifferencesFor.f (k : Nat) (a0_0 : ByteArray) (l0_1 : List ByteArray) (l0_2 : List (S50)) (l0_3 : List (List Int)) (a1 : Int) : Option ((List (List Int))) := (some (([] : List (List Int)) : List (List Int))).bind fun y242 => ((spec_IsTableau.f k a0_0 l0_1 l0_2 l0_3).bind fun t245 => (if t245 = true then (if a1 < 0 then (spec_DifferencesFor.j0 k a1 y242 true a0_0 l0_1 l0_2 l0_3) else (spec_DifferencesFor.j0 k a1 y242 (decide (a1 ≥ (l0_2.length : Int))) a0_0 l0_1 l0_2 l0_3)) else (spec_DifferencesFor.j0 k a1 y242 true a0_0 l0_1 l0_2 l0_3)))
def spec_DifferencesFor.T11 : Bool × List (List Nat × List Nat) := (true, [([], []), ([], []), ([1], [1]), ([], []), ([2, 3], [2, 3]), ([4], [4]), ([], []), ([5, 6], [5, 6]), ([7], [7]), ([], []), ([9], [9]), ([], []), ([10, 11], [10, 11]), ([12], [12]), ([], []), ([13, 14], [13, 14]), ([15], [15]), ([8, 16], [8, 16]), ([17], [17]), ([0, 18], [0, 18]), ([19, 19, 0, 1, 2, 3, 4, 5, 6, 7, 8, 9, 10, 11, 12, 13, 14, 15, 16, 17, 18, 19], [0, 19])])
def spec_DifferencesFor.B11 : List Nat := [0, 0, 2, 0, 14, 30, 0, 126, 254, 0, 512, 0, 3584, 7680, 0, 32256, 65024, 131070, 262142, 524287, 1048575]
theorem spec_DifferencesFor.tab11 : rtab .any (opsOf Tryz.f14 11) = spec_DifferencesFor.T11 := by kernel_rfl
theorem spec_DifferencesFor.bits11 : waitsOk spec_DifferencesFor.T11.2 spec_DifferencesFor.B11 = true := by kernel_rfl
def spec_DifferencesFor.T12 : Bool × List (List Nat × List Nat) := (true, [([], []), ([0], [0]), ([], []), ([1, 2], [1, 2]), ([3], [3]), ([], []), ([5], [5]), ([], []), ([6, 7], [6, 7]), ([8], [8]), ([4, 9], [4, 9]), ([10, 10, 0, 1, 2, 3, 4, 5, 6, 7, 8, 9, 10], [10])])
def spec_DifferencesFor.B12 : List Nat := [0, 1, 0, 7, 15, 0, 32, 0, 224, 480, 1023, 2047]
theorem spec_DifferencesFor.tab12 : rtab .any (opsOf Tryz.f14 12) = spec_DifferencesFor.T12 := by kernel_rfl
theorem spec_DifferencesFor.bits12 : waitsOk spec_DifferencesFor.T12.2 spec_DifferencesFor.B12 = true := by kernel_rfl
set_option maxHeartbeats 8000000 in
set_option maxRecDepth 100000 in
theorem spec_DifferencesFor.calls (k : Nat) (a0_0 : ByteArray) (A0_1 : Option Addr) (c0_1 : Nat) (l0_1 : List ByteArray) (A0_2 : Option Addr) (c0_2 : Nat) (l0_2 : List (S50)) (A0_3 : Option Addr) (c0_3 : Nat) (l0_3 : List (List Int)) (a1 : Int) (r : List (List Int)) (w : World) (hr0_1 : Kd.C Kd.string w A0_1 l0_1.length l0_1) (hc0_1 : l0_1.length ≤ c0_1) (hr0_2 : Kd.C k50 w A0_2 l0_2.length l0_2) (hc0_2 : l0_2.length ≤ c0_2) (hr0_3 : Kd.C (Kd.slice 3 (Kd.int .i64)) w A0_3 l0_3.length l0_3) (hc0_3 : l0_3.length ≤ c0_3) (h : spec_DifferencesFor.f k a0_0 l0_1 l0_2 l0_3 a1 = some r) :
  Calls Tryz.prog 14 #[.agg #[.string a0_0, .slice A0_1 l0_1.length c0_1, .slice A0_2 l0_2.length c0_2, .slice A0_3 l0_3.length c0_3], .int .i64 a1] w fun e w' => ∃ v0_ : Value, e = .returned (v0_) ∧ Kd.S (Kd.slice 3 (Kd.int .i64)) 23 w' w.heap.size (fun _ => True) v0_ r ∧ Below w.heap.size w w' := by
 have hu38 := Tryz.underlying38
 have HR0_1 := Aside0.mk hr0_1
 have HC0_1 := Aside0.mk hc0_1
 clear hr0_1 hc0_1
 have HR0_2 := Aside0.mk hr0_2
 have HC0_2 := Aside0.mk hc0_2
 clear hr0_2 hc0_2
 have HR0_3 := Aside0.mk hr0_3
 have HC0_3 := Aside0.mk hc0_3
 clear hr0_3 hc0_3
 have HB := Aside0.mk (Below.refl w.heap.size w)
 have H : ((some (([] : List (List Int)) : List (List Int))).bind fun y242 => ((spec_IsTableau.f k a0_0 l0_1 l0_2 l0_3).bind fun t245 => (if t245 = true then (if a1 < 0 then (spec_DifferencesFor.j0 k a1 y242 true a0_0 l0_1 l0_2 l0_3) else (spec_DifferencesFor.j0 k a1 y242 (decide (a1 ≥ (l0_2.length : Int))) a0_0 l0_1 l0_2 l0_3)) else (spec_DifferencesFor.j0 k a1 y242 true a0_0 l0_1 l0_2 l0_3)))) = some r := h
 clear h
 obtain ⟨y242, hy242⟩ : ∃ y_ : List (List Int), y_ = (([] : List (List Int))) := ⟨_, rfl⟩
 replace H : ((spec_IsTableau.f k a0_0 l0_1 l0_2 l0_3).bind fun t245 => (if t245 = true then (if a1 < 0 then (spec_DifferencesFor.j0 k a1 y242 true a0_0 l0_1 l0_2 l0_3) else (spec_DifferencesFor.j0 k a1 y242 (decide (a1 ≥ (l0_2.length : Int))) a0_0 l0_1 l0_2 l0_3)) else (spec_DifferencesFor.j0 k a1 y242 true a0_0 l0_1 l0_2 l0_3))) = some r := rh_ hy242 H
 have Ny242 := Aside0.mk hy242
 clear hy242
 have HC3 := Aside0.mk H
 clear H
 go_enter Tryz.func14, Tryz.ntmps14
 go_upto_region 2 with (first | ((refine gd_ 2 ?_); (try (refine gate_guard (by rfl) ?_; dsimp only)); refine bx_ 2 #[.string a0_0, .slice A0_1 l0_1.length c0_1, .slice A0_2 l0_2.length c0_2, .slice A0_3 l0_3.length c0_3] 38 ?_; intro gb241 hg w4 hbox hb; have BK241 := Aside0.mk (hbox); have GW241 := gw_ HB hg; have GE241 := gw_ HB hg; replace HB := bs_ HB hb; clear hb hbox hg) | ((refine gd_ 11 ?_); (try (refine gate_guard (by rfl) ?_; dsimp only)); refine Kd.S_lit (Kd.slice 3 (Kd.int .i64)) _ 23 ?hg (N := 11) ?hd (xs := ([] : List (List Int))) (inner := []) (ok := fun _ => True) (okp := fun _ => True) ?hr ?hp (fun _ hk => hk) trivial (Below.refl _ _) (Nat.le_refl _) (by simp) ?_; (case hd => rfl); (case hg => rfl); (case hr => first | (go_simp; done) | (go_simp; rfl)); (case hp => exact (Reps.none _ _)); intro v243 w5 ho6 hb hg_ hnew_; clear hg_ hnew_; (first | rw [← Ny242.out] at ho6 | (simp only [Int.reduceToNat] at ho6; rw [← Ny242.out] at ho6)); have HO244 := Aside0.mk (Kd.S_lower ho6 (below_size (up_ HB.out))); replace BK241 := bb_ BK241 hb; replace HB := bs_ HB hb; clear hb ho6))
 (try simp only [Act.put, List.setIfInBounds_toArray, List.set_cons_zero, List.set_cons_succ])
 go_cut [25] (fun v25 wc => ∃ (kq : Nat) (x25_2 : Bool), v25 = .bool x25_2 ∧ Aside0 (spec_DifferencesFor.j0 kq a1 y242 x25_2 a0_0 l0_1 l0_2 l0_3 = some r) ∧ Aside0 (kq ≤ k) ∧ Aside0 (Kd.S (Kd.slice 3 (Kd.int .i64)) 23 wc w.heap.size (fun _ => True) v243 y242) ∧ Aside0 (wc.heap[gb241]? = some (.cells #[.string a0_0, (.slice A0_1 l0_1.length c0_1), (.slice A0_2 l0_2.length c0_2), (.slice A0_3 l0_3.length c0_3)] 38 (0, 0))) ∧ Aside0 (Below w.heap.size w wc))
 case first =>
  have H := HC3.out
  clear HC3
  replace H := bnd_ H; obtain ⟨t245, A7, H⟩ := H
  replace H := itb_ H; rcases H with ⟨rfl, H⟩ | ⟨rfl, H⟩
  ·replace H := its_ H; rcases H with ⟨c9b0, H⟩ | ⟨c9b0, H⟩
   ·(first | rw [c9b0] | (simp only [i64_w, i32_w]; rw [c9b0]) | skip)
    have H' := Aside0.mk H
    clear H
    obtain ⟨hcz10_0, hcz10_1, hcz10_2, hcz10_3⟩ := c4_ BK241
    have hfz10_0 := blk_frozen BK241.out 0
    have hfz10_1 := blk_frozen BK241.out 1
    have hfz10_2 := blk_frozen BK241.out 2
    have hfz10_3 := blk_frozen BK241.out 3
    go_wp2_with (first | ((refine gc_ 32 ?_); refine gl_ (some 13) Tryz.func32 (spec_IsTableau.calls k a0_0 _ _ l0_1 _ _ l0_2 _ _ l0_3 true _ (Kd.C_below HR0_1.out (up_ HB.out)) HC0_1.out (Kd.C_below HR0_2.out (up_ HB.out)) HC0_2.out (Kd.C_below HR0_3.out (up_ HB.out)) HC0_3.out A7.out) ?_; rintro e w11 ⟨rfl, hb⟩; refine ⟨_, rfl, ?_⟩; replace HO244 := Aside0.mk (Kd.S_below (up_ HO244.out) hb); replace BK241 := bb_ BK241 hb; replace HB := bs_ HB hb; (try clear hb); (try clear hb2); (try clear hk); (try clear hi)))
    go_meet
    case rel => exact ⟨_, (true), rs_, H', ⟨by first | omega | exact Nat.le_refl _⟩, ⟨up_ HO244.out⟩, ⟨up_ BK241.out⟩, ⟨up_ HB.out⟩⟩
   ·(first | rw [c9b0] | (simp only [i64_w, i32_w]; rw [c9b0]) | skip)
    have H' := Aside0.mk H
    clear H
    obtain ⟨hcz12_0, hcz12_1, hcz12_2, hcz12_3⟩ := c4_ BK241
    have hfz12_0 := blk_frozen BK241.out 0
    have hfz12_1 := blk_frozen BK241.out 1
    have hfz12_2 := blk_frozen BK241.out 2
    have hfz12_3 := blk_frozen BK241.out 3
    go_wp2_with (first | ((refine gc_ 32 ?_); refine gl_ (some 13) Tryz.func32 (spec_IsTableau.calls k a0_0 _ _ l0_1 _ _ l0_2 _ _ l0_3 true _ (Kd.C_below HR0_1.out (up_ HB.out)) HC0_1.out (Kd.C_below HR0_2.out (up_ HB.out)) HC0_2.out (Kd.C_below HR0_3.out (up_ HB.out)) HC0_3.out A7.out) ?_; rintro e w13 ⟨rfl, hb⟩; refine ⟨_, rfl, ?_⟩; replace HO244 := Aside0.mk (Kd.S_below (up_ HO244.out) hb); replace BK241 := bb_ BK241 hb; replace HB := bs_ HB hb; (try clear hb); (try clear hb2); (try clear hk); (try clear hi); obtain ⟨hcz14_0, hcz14_1, hcz14_2, hcz14_3⟩ := c4_ BK241; have hfz14_0 := blk_frozen BK241.out 0; have hfz14_1 := blk_frozen BK241.out 1; have hfz14_2 := blk_frozen BK241.out 2; have hfz14_3 := blk_frozen BK241.out 3))
    go_meet
    case rel => exact ⟨_, (decide (a1 ≥ (l0_2.length : Int))), rs_, H', ⟨by first | omega | exact Nat.le_refl _⟩, ⟨up_ HO244.out⟩, ⟨up_ BK241.out⟩, ⟨up_ HB.out⟩⟩
  ·have H' := Aside0.mk H
   clear H
   obtain ⟨hcz15_0, hcz15_1, hcz15_2, hcz15_3⟩ := c4_ BK241
   have hfz15_0 := blk_frozen BK241.out 0
   have hfz15_1 := blk_frozen BK241.out 1
   have hfz15_2 := blk_frozen BK241.out 2
   have hfz15_3 := blk_frozen BK241.out 3
   go_wp2_with (first | ((refine gc_ 32 ?_); refine gl_ (some 13) Tryz.func32 (spec_IsTableau.calls k a0_0 _ _ l0_1 _ _ l0_2 _ _ l0_3 false _ (Kd.C_below HR0_1.out (up_ HB.out)) HC0_1.out (Kd.C_below HR0_2.out (up_ HB.out)) HC0_2.out (Kd.C_below HR0_3.out (up_ HB.out)) HC0_3.out A7.out) ?_; rintro e w16 ⟨rfl, hb⟩; refine ⟨_, rfl, ?_⟩; replace HO244 := Aside0.mk (Kd.S_below (up_ HO244.out) hb); replace BK241 := bb_ BK241 hb; replace HB := bs_ HB hb; (try clear hb); (try clear hb2); (try clear hk); (try clear hi)))
   go_meet
   case rel => exact ⟨_, (true), rs_, H', ⟨by first | omega | exact Nat.le_refl _⟩, ⟨up_ HO244.out⟩, ⟨up_ BK241.out⟩, ⟨up_ HB.out⟩⟩
 case rest =>
  clear HC3
  try clear c1
  try clear p2
  try clear c3
  try clear c8
  try clear c9
  try clear c9b0
  try clear c14
  try clear hcz10_0
  try clear hcz10_1
  try clear hcz10_2
  try clear hcz10_3
  try clear hcz12_0
  try clear hcz12_1
  try clear hcz12_2
  try clear hcz12_3
  try clear hcz14_0
  try clear hcz14_1
  try clear hcz14_2
  try clear hcz14_3
  try clear hcz15_0
  try clear hcz15_1
  try clear hcz15_2
  try clear hcz15_3
  try clear hfz10_0
  try clear hfz10_1
  try clear hfz10_2
  try clear hfz10_3
  try clear hfz12_0
  try clear hfz12_1
  try clear hfz12_2
  try clear hfz12_3
  try clear hfz14_0
  try clear hfz14_1
  try clear hfz14_2
  try clear hfz14_3
  try clear hfz15_0
  try clear hfz15_1
  try clear hfz15_2
  try clear hfz15_3
  obtain ⟨kq, x25_2, rfl, HA, HJ2, HO_5, BK241, HB⟩ := hcut
  cases kq with
  | zero => exact absurd HA.out (by simp [spec_DifferencesFor.j0])
  | succ kj2 =>
   have H := HA.out
   clear HA
   simp only [spec_DifferencesFor.j0] at H
   replace H := itb_ H; rcases H with ⟨rfl, H⟩ | ⟨rfl, H⟩
   ·obtain rfl := Option.some.inj H
    go_wp2
    go_ret
    exact ⟨_, re_, by (with_reducible repeat (first | apply Kd.S_alloc | apply Kd.S_drewN | apply Kd.S_drew)); exact HO_5.out, up_ HB.out⟩
   ·have H' := Aside0.mk H
    clear H
    go_wp2
    go_loopg [5, 6] kj2 (fun kq v5 v6 w' => ∃ (x5_2 : List (List Int)) (x6_2 : Int), v6 = .int .i64 x6_2 ∧ Aside0 (spec_DifferencesFor.l0 kq a1 x5_2 x6_2 a0_0 l0_1 l0_2 l0_3 = some r) ∧ Aside0 (kq ≤ kj2) ∧ Aside0 (Kd.S (Kd.slice 3 (Kd.int .i64)) 23 w' w.heap.size (fun _ => True) v5 x5_2) ∧ Aside0 (w'.heap[gb241]? = some (.cells #[.string a0_0, (.slice A0_1 l0_1.length c0_1), (.slice A0_2 l0_2.length c0_2), (.slice A0_3 l0_3.length c0_3)] 38 (0, 0))) ∧ Aside0 (Below w.heap.size w w'))
    case atStart => exact ⟨(y242), (0), rs_, H', ⟨Nat.le_refl _⟩, ⟨up_ HO_5.out⟩, ⟨up_ BK241.out⟩, ⟨up_ HB.out⟩⟩
    case round =>
     clear H'
     try clear c1
     try clear p2
     try clear c3
     try clear c8
     try clear c9
     try clear c9b0
     try clear c14
     try clear c17
     try clear hcz10_0
     try clear hcz10_1
     try clear hcz10_2
     try clear hcz10_3
     try clear hcz12_0
     try clear hcz12_1
     try clear hcz12_2
     try clear hcz12_3
     try clear hcz14_0
     try clear hcz14_1
     try clear hcz14_2
     try clear hcz14_3
     try clear hcz15_0
     try clear hcz15_1
     try clear hcz15_2
     try clear hcz15_3
     try clear hfz10_0
     try clear hfz10_1
     try clear hfz10_2
     try clear hfz10_3
     try clear hfz12_0
     try clear hfz12_1
     try clear hfz12_2
     try clear hfz12_3
     try clear hfz14_0
     try clear hfz14_1
     try clear hfz14_2
     try clear hfz14_3
     try clear hfz15_0
     try clear hfz15_1
     try clear hfz15_2
     try clear hfz15_3
     try clear p2
     obtain ⟨x5_2, x6_2, rfl, HA, HK2, HO_5, BK241, HB⟩ := hrel
     cases gk with
     | zero => exact absurd HA.out (by simp [spec_DifferencesFor.l0])
     | succ k2 =>
      have H := HA.out
      clear HA
      simp only [spec_DifferencesFor.l0] at H
      replace H := its_ H; rcases H with ⟨c18b0, H⟩ | ⟨c18b0, H⟩
      ·obtain ⟨y246, hy246⟩ : ∃ y_ : List Int, y_ = (([] : List Int)) := ⟨_, rfl⟩
       replace H : (spec_DifferencesFor.l1 k2 a1 x5_2 x6_2 y246 0 a0_0 l0_1 l0_2 l0_3) = some r := rh_ hy246 H
       have Ny246 := Aside0.mk hy246
       clear hy246
       have H' := Aside0.mk H
       clear H
       obtain ⟨hcz19_0, hcz19_1, hcz19_2, hcz19_3⟩ := c4_ BK241
       have hfz19_0 := blk_frozen BK241.out 0
       have hfz19_1 := blk_frozen BK241.out 1
       have hfz19_2 := blk_frozen BK241.out 2
       have hfz19_3 := blk_frozen BK241.out 3
       go_wp2_with (first | ((refine gd_ 34 ?_); (try (refine gate_guard (by rfl) ?_; dsimp only)); refine Kd.R_lit (Kd.int .i64) _ 3 ?hg (N := 34) ?hd (xs := ([] : List Int)) (inner := []) (ok := fun _ => True) (okp := fun _ => True) ?hr ?hp (fun _ hk => hk) trivial (Below.refl _ _) (Nat.le_refl _) (by simp) ?_; (case hd => rfl); (case hg => rfl); (case hr => first | (go_simp; done) | (go_simp; rfl)); (case hp => exact (Reps.none _ _)); intro v247 w20 ho21 hb hg_ hnew_; clear hg_ hnew_; (first | rw [← Ny246.out] at ho21 | (simp only [Int.reduceToNat] at ho21; rw [← Ny246.out] at ho21)); replace HO_5 := Aside0.mk (Kd.S_elder' (up_ HO_5.out) (Kd.R_base ho21) hb); have HO248 := Aside0.mk (Kd.R_lower ho21 (below_size (up_ HB.out))); replace BK241 := bb_ BK241 hb; replace HB := bs_ HB hb; clear hb ho21))
       go_loopg [7, 8] k2 (fun kq v7 v8 w' => ∃ (x7_3 : List Int) (x8_3 : Int), v8 = .int .i64 x8_3 ∧ Aside0 (spec_DifferencesFor.l1 kq a1 x5_2 x6_2 x7_3 x8_3 a0_0 l0_1 l0_2 l0_3 = some r) ∧ Aside0 (kq ≤ k2) ∧ Aside0 (Kd.S (Kd.slice 3 (Kd.int .i64)) 23 w' w.heap.size (fun k_ => some k_ ≠ (v7 : Value).ownBlock) u5 x5_2) ∧ Aside0 (Kd.R (Kd.int .i64) 3 w' w.heap.size (fun _ => True) v7 x7_3) ∧ Aside0 (w'.heap[gb241]? = some (.cells #[.string a0_0, (.slice A0_1 l0_1.length c0_1), (.slice A0_2 l0_2.length c0_2), (.slice A0_3 l0_3.length c0_3)] 38 (0, 0))) ∧ Aside0 (Below w.heap.size w w'))
       case atStart => exact ⟨(y246), (0), rs_, H', ⟨Nat.le_refl _⟩, ⟨by (with_reducible repeat (first | apply Kd.S_alloc | apply Kd.S_drewN | apply Kd.S_drew)); exact Kd.S_mono HO_5.out (fun _ hk => hk.2)⟩, ⟨up_ HO248.out⟩, ⟨up_ BK241.out⟩, ⟨up_ HB.out⟩⟩
       case round =>
        clear H'
        try clear c1
        try clear p2
        try clear c3
        try clear c8
        try clear c9
        try clear c9b0
        try clear c14
        try clear c17
        try clear c18
        try clear c18b0
        try clear hcz10_0
        try clear hcz10_1
        try clear hcz10_2
        try clear hcz10_3
        try clear hcz12_0
        try clear hcz12_1
        try clear hcz12_2
        try clear hcz12_3
        try clear hcz14_0
        try clear hcz14_1
        try clear hcz14_2
        try clear hcz14_3
        try clear hcz15_0
        try clear hcz15_1
        try clear hcz15_2
        try clear hcz15_3
        try clear hcz19_0
        try clear hcz19_1
        try clear hcz19_2
        try clear hcz19_3
        try clear hfz10_0
        try clear hfz10_1
        try clear hfz10_2
        try clear hfz10_3
        try clear hfz12_0
        try clear hfz12_1
        try clear hfz12_2
        try clear hfz12_3
        try clear hfz14_0
        try clear hfz14_1
        try clear hfz14_2
        try clear hfz14_3
        try clear hfz15_0
        try clear hfz15_1
        try clear hfz15_2
        try clear hfz15_3
        try clear hfz19_0
        try clear hfz19_1
        try clear hfz19_2
        try clear hfz19_3
        try clear p2
        obtain ⟨x7_3, x8_3, rfl, HA, HK3, HO_5, HO_7, BK241, HB⟩ := hrel
        cases gk with
        | zero => exact absurd HA.out (by simp [spec_DifferencesFor.l1])
        | succ k3 =>
         have H := HA.out
         clear HA
         simp only [spec_DifferencesFor.l1] at H
         replace H := its_ H; rcases H with ⟨c22b0, H⟩ | ⟨c22b0, H⟩
         ·replace H := its_ H; rcases H with ⟨c23b0, H⟩ | ⟨_, ⟨⟩⟩
          replace H := its_ H; rcases H with ⟨c24b0, H⟩ | ⟨_, ⟨⟩⟩
          replace H := its_ H; rcases H with ⟨c25b0, H⟩ | ⟨_, ⟨⟩⟩
          replace H := its_ H; rcases H with ⟨c26b0, H⟩ | ⟨_, ⟨⟩⟩
          replace H := its_ H; rcases H with ⟨c27b0, H⟩ | ⟨_, ⟨⟩⟩
          replace H := its_ H; rcases H with ⟨c28b0, H⟩ | ⟨_, ⟨⟩⟩
          replace H := its_ H; rcases H with ⟨c29b0, H⟩ | ⟨_, ⟨⟩⟩
          by_cases c30 : x7_3.length < 17592186044416
          ·rw [if_pos c30] at H
           have LMc30 := Aside0.mk c30
           clear c30
           obtain ⟨y253, hy253⟩ : ∃ y_ : List Int, y_ = (x7_3 ++ [wrap64 ((rd (rd_L6 l0_3 x6_2) x8_3) - (rd (rd_L6 l0_3 a1) x8_3))]) := ⟨_, rfl⟩
           replace H : (spec_DifferencesFor.l1 k3 a1 x5_2 x6_2 y253 (wrap64 (x8_3 + 1)) a0_0 l0_1 l0_2 l0_3) = some r := rh_ hy253 H
           have Ny253 := Aside0.mk hy253
           clear hy253
           have H' := Aside0.mk H
           clear H
           obtain ⟨hcz31_0, hcz31_1, hcz31_2, hcz31_3⟩ := c4_ BK241
           have hfz31_0 := blk_frozen BK241.out 0
           have hfz31_1 := blk_frozen BK241.out 1
           have hfz31_2 := blk_frozen BK241.out 2
           have hfz31_3 := blk_frozen BK241.out 3
           try go_wp2
           have n0_ := Aside0.mk (Kd.S_drew HO_5.out)
           have n1_ := Aside0.mk (Kd.R_drew HO_7.out)
           have n2_ := Aside0.mk (blk_drew BK241.out)
           have n3_ := Aside0.mk (below_drew1 HB.out)
           clear HO_5
           clear HO_7
           clear BK241
           clear HB
           have HO_5 := n0_
           have HO_7 := n1_
           have BK241 := n2_
           have HB := n3_
           clear n0_ n1_ n2_ n3_
           have p249 : 0 ≤ (x6_2 : Int) := od_
           have q249 : x6_2 < (l0_3.length : Int) := od_
           obtain ⟨ad249, A249_0, c249_0, e249, hx249_0, hl249_0, hi249_0⟩ := at_L6 HR0_3.out x6_2 p249 q249
           have hw249_0 := hx249_0
           cases e249
           replace hx249_0 := bh_ HB hx249_0
           have HR249_0 := Aside0.mk hi249_0
           have HC249_0 := Aside0.mk hl249_0
           clear hi249_0 hl249_0
           replace p249 := eq_true p249
           replace q249 := eq_true q249
           have p250 : 0 ≤ (x8_3 : Int) := od_
           have q250 : x8_3 < ((rd_L6 l0_3 x6_2).length : Int) := od_
           obtain ⟨ad250, e250, hx250_0⟩ := Kd.at_int HR249_0.out x8_3 p250 q250
           have hw250_0 := hx250_0
           cases e250
           replace hx250_0 := bh_ HB hx250_0
           replace p250 := eq_true p250
           replace q250 := eq_true q250
           have p251 : 0 ≤ (a1 : Int) := od_
           have q251 : a1 < (l0_3.length : Int) := od_
           obtain ⟨ad251, A251_0, c251_0, e251, hx251_0, hl251_0, hi251_0⟩ := at_L6 HR0_3.out a1 p251 q251
           have hw251_0 := hx251_0
           obtain rfl : ad249 = ad251 := (by injection e251)
           replace hx251_0 := bh_ HB hx251_0
           have HR251_0 := Aside0.mk hi251_0
           have HC251_0 := Aside0.mk hl251_0
           clear hi251_0 hl251_0
           replace p251 := eq_true p251
           replace q251 := eq_true q251
           have p252 : 0 ≤ (x8_3 : Int) := od_
           have q252 : x8_3 < ((rd_L6 l0_3 a1).length : Int) := od_
           obtain ⟨ad252, e252, hx252_0⟩ := Kd.at_int HR251_0.out x8_3 p252 q252
           have hw252_0 := hx252_0
           cases e252
           replace hx252_0 := bh_ HB hx252_0
           replace p252 := eq_true p252
           replace q252 := eq_true q252
           refine start_ (n := 21) (S := fun w' => w'.cell? ⟨gb241, 0, none⟩ = some (.string a0_0) ∧ w'.cell? ⟨gb241, 1, none⟩ = some (.slice A0_1 l0_1.length c0_1) ∧ w'.cell? ⟨gb241, 2, none⟩ = some (.slice A0_2 l0_2.length c0_2) ∧ w'.cell? ⟨gb241, 3, none⟩ = some (.slice (some ad249) l0_3.length c0_3) ∧ w'.cell? (ad249.add (x6_2).toNat) = some (.slice (some ad250) (rd_L6 l0_3 x6_2).length c249_0) ∧ w'.cell? (ad250.add (x8_3).toNat) = some (.int .i64 (rd (rd_L6 l0_3 x6_2) x8_3)) ∧ w'.cell? (ad249.add (a1).toNat) = some (.slice (some ad252) (rd_L6 l0_3 a1).length c251_0) ∧ w'.cell? (ad252.add (x8_3).toNat) = some (.int .i64 (rd (rd_L6 l0_3 a1) x8_3))) (ds := []) #[false, false, false, false, false, false, false, false, false, false, false, false, false, false, false, false, false, false, false, false, false] (by kernel_rfl) rfl rfl ⟨(blk_cell BK241.out 0).trans rfl, (blk_cell BK241.out 1).trans rfl, (blk_cell BK241.out 2).trans rfl, (blk_cell BK241.out 3).trans rfl, (bh_ HB hw249_0 :), (bh_ HB hw250_0 :), (bh_ HB hw251_0 :), (bh_ HB hw252_0 :)⟩ (fun hHeld => ?_); refine with_tabW spec_DifferencesFor.tab11 spec_DifferencesFor.bits11 (fun HT_ HW_ => ?_)
           generalize wr.drew = w32 at HO_5 HO_7 BK241 HB HR249_0 HR251_0 hx249_0 hx250_0 hx251_0 hx252_0 hHeld ⊢
           refine pu_ 0 (some 42) ?_
           refine pu_ 1 (some 43) ?_
           refine pu_ 3 (some 45) ?_
           refine pu_ 6 (some 48) ?_
           refine pu_ 9 (some 51) ?_
           refine pu_ 11 (some 53) ?_
           refine pu_ 14 (some 56) ?_
           refine tk_ 2 (some 44) hHeld ?_
           refine pu_ 4 (some 46) ?_
           refine tk_ 5 (some 47) hHeld ?_
           refine pu_ 7 (some 49) ?_
           refine tk_ 8 (some 50) hHeld ?_
           refine tk_ 10 (some 52) hHeld ?_
           refine pu_ 12 (some 54) ?_
           refine tk_ 13 (some 55) hHeld ?_
           refine pu_ 15 (some 57) ?_
           refine tk_ 16 (some 58) hHeld ?_
           refine pu_ 17 (some 59) ?_
           refine one_ (i := 18) (N := some 60) #[true, true, true, true, true, true, true, true, true, true, true, true, true, true, true, true, true, true, true, false, false] rfl rfl (one_of HT_.out (by kernel_rfl)) (by decide) (fun K hK => ?_)
           refine value_ (w1 := ?_) (v := ?_) (by rfl) rfl ?_ ?_
           rotate_left 2
           ·go_simp
            constructor
            ·rfl
            ·rfl
           refine hK.out _ _ ⟨(blk_cell (blk_alloc BK241.out _) 0).trans rfl, (blk_cell (blk_alloc BK241.out _) 1).trans rfl, (blk_cell (blk_alloc BK241.out _) 2).trans rfl, (blk_cell (blk_alloc BK241.out _) 3).trans rfl, (World.cell?_alloc_lt _ _ _ (World.block_lt_of_cell? _ _ ((bh_ HB hw249_0 :)))).trans ((bh_ HB hw249_0 :)), (World.cell?_alloc_lt _ _ _ (World.block_lt_of_cell? _ _ ((bh_ HB hw250_0 :)))).trans ((bh_ HB hw250_0 :)), (World.cell?_alloc_lt _ _ _ (World.block_lt_of_cell? _ _ ((bh_ HB hw251_0 :)))).trans ((bh_ HB hw251_0 :)), (World.cell?_alloc_lt _ _ _ (World.block_lt_of_cell? _ _ ((bh_ HB hw252_0 :)))).trans ((bh_ HB hw252_0 :))⟩ (fun hHeld => ?_)
           clear hK K
           refine nm_ ?_
           refine one_ (i := 19) (N := some 61) #[true, true, true, true, true, true, true, true, true, true, true, true, true, true, true, true, true, true, true, true, false] rfl rfl (one_of HT_.out (by kernel_rfl)) (by decide) (fun K hK => ?_)
           refine Kd.R_append_step (Kd.int .i64) (w0 := w) w.heap.size (by rfl) (.tmp 42) (.tmp 60) 23 3 (.int .i64 0) 8 rfl Tryz.underlying23 info3 rfl (by decide) (by omega) u7 x7_3 (wrap64 ((rd (rd_L6 l0_3 x6_2) x8_3) - (rd (rd_L6 l0_3 a1) x8_3))) [.int .i64 (wrap64 ((rd (rd_L6 l0_3 x6_2) x8_3) - (rd (rd_L6 l0_3 a1) x8_3)))] (fun _ => True) (fun _ => False) rfl rfl ?aP (fun _ hk => hk.elim) ?aF ?aO ?aB ?aS ?aL ?_
           (case aP => exact rfl)
           (case aB => exact (up_ HB.out))
           (case aF => exact (fun _ _ => trivial))
           (case aO => exact (up_ HO_7.out))
           (case aS => exact (below_size (up_ HB.out)))
           (case aL => have := LMc30.out; omega)
           intro v254 w33 ho hb hg hat
           rw [← Ny253.out] at ho
           have n0_ := Aside0.mk (Kd.S_after (ok := (fun _ => True)) (by (with_reducible repeat (first | apply Kd.S_alloc | apply Kd.S_drewN | apply Kd.S_drew)); exact Kd.S_mono HO_5.out (fun _ hk => ⟨trivial, hk⟩)) hg hat)
           have n1_ := Aside0.mk (blk_grown (g := gb241) (o := .cells #[.string a0_0, .slice A0_1 l0_1.length c0_1, .slice A0_2 l0_2.length c0_2, .slice (some ad249) l0_3.length c0_3] 38 (0, 0)) (up_ BK241.out) hg (Kd.R_ne HO_7.out BK241.out (by decide)))
           have n2_ := Aside0.mk (hb)
           have n3_ := Aside0.mk (ho)
           clear HO_5
           clear BK241
           clear HB
           clear HO_7
           have HO_5 := n0_
           have BK241 := n1_
           have HB := n2_
           have HO255 := n3_
           clear n0_ n1_ n2_ n3_
           clear ho hb hg hat
           refine hK.out _ _ ⟨(blk_cell BK241.out 0).trans rfl, (blk_cell BK241.out 1).trans rfl, (blk_cell BK241.out 2).trans rfl, (blk_cell BK241.out 3).trans rfl, (bh_ HB hw249_0 :), (bh_ HB hw250_0 :), (bh_ HB hw251_0 :), (bh_ HB hw252_0 :)⟩ (fun hHeld => ?_)
           clear hK K
           refine nm_ ?_
           refine pu_ 20 (some 7) ?_
           refine done_ (done_of HT_.out (by kernel_rfl)) ?_
           try go_wp2
           go_roundg k3
           case measure => have := HJ2.out; have := HK2.out; have := HK3.out; omega
           case rel => exact ⟨(y253), (wrap64 (x8_3 + 1)), rs_, H', ⟨by have := HJ2.out; have := HK2.out; have := HK3.out; omega⟩, ⟨by (with_reducible repeat (first | apply Kd.S_alloc | apply Kd.S_drewN | apply Kd.S_drew)); exact Kd.S_mono HO_5.out (fun _ hk => hk.2)⟩, ⟨up_ HO255.out⟩, ⟨up_ BK241.out⟩, ⟨up_ HB.out⟩⟩
          ·rw [if_neg c30] at H
           exact absurd H (by simp)
         ·replace H := its_ H; rcases H with ⟨c34b0, H⟩ | ⟨_, ⟨⟩⟩
          replace H := its_ H; rcases H with ⟨c35b0, H⟩ | ⟨_, ⟨⟩⟩
          replace H := its_ H; rcases H with ⟨c36b0, H⟩ | ⟨_, ⟨⟩⟩
          replace H := its_ H; rcases H with ⟨c37b0, H⟩ | ⟨_, ⟨⟩⟩
          replace H := bnd_ H; obtain ⟨t258, A38, H⟩ := H
          have H' := Aside0.mk H
          clear H
          obtain ⟨hcz39_0, hcz39_1, hcz39_2, hcz39_3⟩ := c4_ BK241
          have hfz39_0 := blk_frozen BK241.out 0
          have hfz39_1 := blk_frozen BK241.out 1
          have hfz39_2 := blk_frozen BK241.out 2
          have hfz39_3 := blk_frozen BK241.out 3
          try go_wp2
          have n0_ := Aside0.mk (Kd.S_drew HO_5.out)
          have n1_ := Aside0.mk (Kd.R_drew HO_7.out)
          have n2_ := Aside0.mk (blk_drew BK241.out)
          have n3_ := Aside0.mk (below_drew1 HB.out)
          clear HO_5
          clear HO_7
          clear BK241
          clear HB
          have HO_5 := n0_
          have HO_7 := n1_
          have BK241 := n2_
          have HB := n3_
          clear n0_ n1_ n2_ n3_
          have p256 : 0 ≤ (x6_2 : Int) := od_
          have q256 : x6_2 < (l0_3.length : Int) := od_
          obtain ⟨ad256, A256_0, c256_0, e256, hx256_0, hl256_0, hi256_0⟩ := at_L6 HR0_3.out x6_2 p256 q256
          have hw256_0 := hx256_0
          cases e256
          replace hx256_0 := bh_ HB hx256_0
          have HR256_0 := Aside0.mk hi256_0
          have HC256_0 := Aside0.mk hl256_0
          clear hi256_0 hl256_0
          replace p256 := eq_true p256
          replace q256 := eq_true q256
          have p257 : 0 ≤ (a1 : Int) := od_
          have q257 : a1 < (l0_3.length : Int) := od_
          obtain ⟨ad257, A257_0, c257_0, e257, hx257_0, hl257_0, hi257_0⟩ := at_L6 HR0_3.out a1 p257 q257
          have hw257_0 := hx257_0
          obtain rfl : ad256 = ad257 := (by injection e257)
          replace hx257_0 := bh_ HB hx257_0
          have HR257_0 := Aside0.mk hi257_0
          have HC257_0 := Aside0.mk hl257_0
          clear hi257_0 hl257_0
          replace p257 := eq_true p257
          replace q257 := eq_true q257
          refine start_ (n := 12) (S := fun w' => w'.cell? ⟨gb241, 0, none⟩ = some (.string a0_0) ∧ w'.cell? ⟨gb241, 1, none⟩ = some (.slice A0_1 l0_1.length c0_1) ∧ w'.cell? ⟨gb241, 2, none⟩ = some (.slice A0_2 l0_2.length c0_2) ∧ w'.cell? ⟨gb241, 3, none⟩ = some (.slice (some ad256) l0_3.length c0_3) ∧ w'.cell? (ad256.add (x6_2).toNat) = some (.slice A256_0 (rd_L6 l0_3 x6_2).length c256_0) ∧ w'.cell? (ad256.add (a1).toNat) = some (.slice A257_0 (rd_L6 l0_3 a1).length c257_0)) (ds := []) #[false, false, false, false, false, false, false, false, false, false, false, false] (by kernel_rfl) rfl rfl ⟨(blk_cell BK241.out 0).trans rfl, (blk_cell BK241.out 1).trans rfl, (blk_cell BK241.out 2).trans rfl, (blk_cell BK241.out 3).trans rfl, (bh_ HB hw256_0 :), (bh_ HB hw257_0 :)⟩ (fun hHeld => ?_); refine with_tabW spec_DifferencesFor.tab12 spec_DifferencesFor.bits12 (fun HT_ HW_ => ?_)
          generalize wr.drew = w40 at HO_5 HO_7 BK241 HB HR256_0 HR257_0 hx256_0 hx257_0 hHeld ⊢
          refine pu_ 0 (some 62) ?_
          refine pu_ 2 (some 64) ?_
          refine pu_ 5 (some 67) ?_
          refine pu_ 7 (some 69) ?_
          refine tk_ 1 (some 63) hHeld ?_
          refine pu_ 3 (some 65) ?_
          refine tk_ 4 (some 66) hHeld ?_
          refine tk_ 6 (some 68) hHeld ?_
          refine pu_ 8 (some 70) ?_
          refine tk_ 9 (some 71) hHeld ?_
          refine one_ (i := 10) (N := some 72) #[true, true, true, true, true, true, true, true, true, true, true, false] rfl rfl (one_of HT_.out (by kernel_rfl)) (by decide) (fun K hK => ?_)
          refine goes_ Tryz.func33 (by kernel_rfl) rfl #[.slice A256_0 (rd_L6 l0_3 x6_2).length c256_0, .slice A257_0 (rd_L6 l0_3 a1).length c257_0] (by rfl) rfl rfl am_ ?_
          with_reducible refine (spec_l5Same.calls k3 _ _ (rd_L6 l0_3 x6_2) _ _ (rd_L6 l0_3 a1) t258 _ ?side1 ?side2 ?side3 ?side4 A38.out).mono ?_
          (case side1 => exact Kd.C_below HR256_0.out (up_ HB.out))
          (case side2 => exact HC256_0.out)
          (case side3 => exact Kd.C_below HR257_0.out (up_ HB.out))
          (case side4 => exact HC257_0.out)
          rintro e w' ⟨rfl, ⟨nd, rfl⟩⟩
          refine ⟨_, rfl, ?_⟩
          refine hK.out _ _ ⟨(blk_cell BK241.out 0).trans rfl, (blk_cell BK241.out 1).trans rfl, (blk_cell BK241.out 2).trans rfl, (blk_cell BK241.out 3).trans rfl, (bh_ HB hw256_0 :), (bh_ HB hw257_0 :)⟩ (fun hHeld => ?_)
          clear hK K
          refine nm_ ?_
          refine pu_ 11 (some 9) ?_
          refine done_ (done_of HT_.out (by kernel_rfl)) ?_
          try go_wp2
          go_loopg [9, 10] k3 (fun kq v9 v10 w' => ∃ (x9_4 : Bool) (x10_4 : Int), v9 = .bool x9_4 ∧ v10 = .int .i64 x10_4 ∧ Aside0 (spec_DifferencesFor.l2 kq a1 x5_2 x6_2 x7_3 x9_4 x10_4 a0_0 l0_1 l0_2 l0_3 = some r) ∧ Aside0 (kq ≤ k3) ∧ Aside0 (Kd.S (Kd.slice 3 (Kd.int .i64)) 23 w' w.heap.size (fun k_ => some k_ ≠ (u7 : Value).ownBlock) u5 x5_2) ∧ Aside0 (Kd.R (Kd.int .i64) 3 w' w.heap.size (fun _ => True) u7 x7_3) ∧ Aside0 (w'.heap[gb241]? = some (.cells #[.string a0_0, (.slice A0_1 l0_1.length c0_1), (.slice A0_2 l0_2.length c0_2), (.slice (some ad256) l0_3.length c0_3)] 38 (0, 0))) ∧ Aside0 (Below w.heap.size w w'))
          case atStart => exact ⟨(t258), (0), rs_, rs_, H', ⟨Nat.le_refl _⟩, ⟨up_ HO_5.out⟩, ⟨up_ HO_7.out⟩, ⟨up_ BK241.out⟩, ⟨up_ HB.out⟩⟩
          case round =>
           clear H'
           try clear c1
           try clear c2
           try clear p2
           try clear q2
           try clear hx2
           try clear c3
           try clear p6
           try clear c8
           try clear c9
           try clear c9b0
           try clear c14
           try clear c17
           try clear c18
           try clear c18b0
           try clear c22
           try clear c22b0
           try clear c23
           try clear c23b0
           try clear c24
           try clear c24b0
           try clear p24
           try clear q24
           try clear hx24
           try clear c25
           try clear c25b0
           try clear p25
           try clear q25
           try clear hx25
           try clear c26
           try clear c26b0
           try clear c27
           try clear c27b0
           try clear c28
           try clear c28b0
           try clear c29
           try clear c29b0
           try clear c30
           try clear c33
           try clear c34
           try clear c34b0
           try clear c35
           try clear c35b0
           try clear c36
           try clear c36b0
           try clear c37
           try clear c37b0
           try clear hcz10_0
           try clear hcz10_1
           try clear hcz10_2
           try clear hcz10_3
           try clear hcz12_0
           try clear hcz12_1
           try clear hcz12_2
           try clear hcz12_3
           try clear hcz14_0
           try clear hcz14_1
           try clear hcz14_2
           try clear hcz14_3
           try clear hcz15_0
           try clear hcz15_1
           try clear hcz15_2
           try clear hcz15_3
           try clear hcz19_0
           try clear hcz19_1
           try clear hcz19_2
           try clear hcz19_3
           try clear hcz31_0
           try clear hcz31_1
           try clear hcz31_2
           try clear hcz31_3
           try clear hcz39_0
           try clear hcz39_1
           try clear hcz39_2
           try clear hcz39_3
           try clear hfz10_0
           try clear hfz10_1
           try clear hfz10_2
           try clear hfz10_3
           try clear hfz12_0
           try clear hfz12_1
           try clear hfz12_2
           try clear hfz12_3
           try clear hfz14_0
           try clear hfz14_1
           try clear hfz14_2
           try clear hfz14_3
           try clear hfz15_0
           try clear hfz15_1
           try clear hfz15_2
           try clear hfz15_3
           try clear hfz19_0
           try clear hfz19_1
           try clear hfz19_2
           try clear hfz19_3
           try clear hfz31_0
           try clear hfz31_1
           try clear hfz31_2
           try clear hfz31_3
           try clear hfz39_0
           try clear hfz39_1
           try clear hfz39_2
           try clear hfz39_3
           try clear hx249_0
           try clear hx250_0
           try clear hx251_0
           try clear hx252_0
           try clear hx256_0
           try clear hx257_0
           try clear p2
           try clear p249
           try clear p250
           try clear p251
           try clear p252
           try clear p256
           try clear p257
           try clear q249
           try clear q250
           try clear q251
           try clear q252
           try clear q256
           try clear q257
           obtain ⟨x9_4, x10_4, rfl, rfl, HA, HK4, HO_5, HO_7, BK241, HB⟩ := hrel
           cases gk with
           | zero => exact absurd HA.out (by simp [spec_DifferencesFor.l2])
           | succ k4 =>
            have H := HA.out
            clear HA
            simp only [spec_DifferencesFor.l2] at H
            replace H := its_ H; rcases H with ⟨c41b0, H⟩ | ⟨c41b0, H⟩
            ·replace H := itb_ H; rcases H with ⟨rfl, H⟩ | ⟨rfl, H⟩
             ·have H' := Aside0.mk H
              clear H
              obtain ⟨Ao43, co43, eo43⟩ := Kd.S_slice HO_5.out
              subst eo43
              go_wp2
              go_roundg k4
              case measure => have := HJ2.out; have := HK2.out; have := HK3.out; have := HK4.out; omega
              case rel => exact ⟨(true), (wrap64 (x10_4 + 1)), rs_, rs_, H', ⟨by have := HJ2.out; have := HK2.out; have := HK3.out; have := HK4.out; omega⟩, ⟨up_ HO_5.out⟩, ⟨up_ HO_7.out⟩, ⟨up_ BK241.out⟩, ⟨up_ HB.out⟩⟩
             ·replace H := its_ H; rcases H with ⟨c44b0, H⟩ | ⟨_, ⟨⟩⟩
              replace H := bnd_ H; obtain ⟨t260, A45, H⟩ := H
              have H' := Aside0.mk H
              clear H
              obtain ⟨Ao46, co46, eo46⟩ := Kd.S_slice HO_5.out
              subst eo46
              have p259 : 0 ≤ (x10_4 : Int) := od_
              have q259 : x10_4 < (x5_2.length : Int) := od_
              obtain ⟨ad259, A259_0, c259_0, e259, hx259_0, hl259_0, hi259_0⟩ := at_L6 (Kd.S_reads' HO_5.out).2.2 x10_4 p259 q259
              cases e259
              obtain ⟨ce259, hce259, hMe259, hcc259⟩ := Kd.S_get HO_5.out [] x10_4 p259 (by first | exact q259 | exact od_ | (have e_ := (Kd.S_reads' HO_5.out).1; omega))
              obtain ⟨ve259_0, rfl, ge259_0⟩ := hMe259
              have hv259_0 := hcc259 0 _ rfl
              rw [Nat.add_zero, show ((Kd.slice 3 (Kd.int .i64))).sz = 1 from rfl, Nat.mul_one] at hv259_0
              replace hv259_0 := Option.some.inj (hv259_0.symm.trans hx259_0)
              rw [hv259_0] at ge259_0
              have HL259_0 := Aside0.mk (show Kd.R (Kd.int .i64) 3 _ _ _ _ (rd_L6 x5_2 x10_4) from ge259_0)
              clear hv259_0 ge259_0
              clear hcc259 hce259
              have HR259_0 := Aside0.mk hi259_0
              have HC259_0 := Aside0.mk hl259_0
              clear hi259_0 hl259_0
              replace p259 := eq_true p259
              replace q259 := eq_true q259
              obtain ⟨Ao47, co47, eo47⟩ := Kd.R_slice HO_7.out
              subst eo47
              go_wp2_with (first | (go_at_call 33; (with_reducible refine (spec_l5Same.calls k4 _ _ (rd_L6 x5_2 x10_4) _ _ x7_3 t260 _ ?side1 ?side2 ?side3 ?side4 A45.out).mono ?_); (case side1 => exact up_ HR259_0.out); (case side2 => exact HC259_0.out); (case side3 => repeat (first | exact (Kd.R_reads' HO_7.out).2.2 | (with_reducible refine Kd.C_alloc ?_ _) | (with_reducible refine Kd.C_drewN ?_ _) | (with_reducible refine Kd.C_drew ?_))); (case side4 => exact (Kd.R_reads' HO_7.out).2.1); rintro e w' ⟨rfl, ⟨nd, rfl⟩⟩))
              go_roundg k4
              case measure => have := HJ2.out; have := HK2.out; have := HK3.out; have := HK4.out; omega
              case rel => exact ⟨(t260), (wrap64 (x10_4 + 1)), rs_, rs_, H', ⟨by have := HJ2.out; have := HK2.out; have := HK3.out; have := HK4.out; omega⟩, ⟨up_ HO_5.out⟩, ⟨up_ HO_7.out⟩, ⟨up_ BK241.out⟩, ⟨up_ HB.out⟩⟩
            ·replace H := itb_ H; rcases H with ⟨rfl, H⟩ | ⟨rfl, H⟩
             ·have H' := Aside0.mk H
              clear H
              obtain ⟨Ao49, co49, eo49⟩ := Kd.S_slice HO_5.out
              subst eo49
              go_wp2
              go_roundg k4
              case measure => have := HJ2.out; have := HK2.out; have := HK3.out; have := HK4.out; omega
              case rel => exact ⟨(x5_2), (wrap64 (x6_2 + 1)), rs_, H', ⟨by have := HJ2.out; have := HK2.out; have := HK3.out; have := HK4.out; omega⟩, ⟨by (with_reducible repeat (first | apply Kd.S_alloc | apply Kd.S_drewN | apply Kd.S_drew)); exact Kd.S_mono HO_5.out (fun _ hk => trivial)⟩, ⟨up_ BK241.out⟩, ⟨up_ HB.out⟩⟩
             ·by_cases c50 : x5_2.length < 5864062014805
              ·rw [if_pos c50] at H
               have LMc50 := Aside0.mk c50
               clear c50
               obtain ⟨y261, hy261⟩ : ∃ y_ : List (List Int), y_ = (x5_2 ++ [x7_3]) := ⟨_, rfl⟩
               replace H : (spec_DifferencesFor.l0 k4 a1 y261 (wrap64 (x6_2 + 1)) a0_0 l0_1 l0_2 l0_3) = some r := rh_ hy261 H
               have Ny261 := Aside0.mk hy261
               clear hy261
               have H' := Aside0.mk H
               clear H
               obtain ⟨Ao51, co51, eo51⟩ := Kd.S_slice HO_5.out
               subst eo51
               obtain ⟨Ao53, co53, eo53⟩ := Kd.R_slice HO_7.out
               subst eo53
               go_wp2_with (first | ((with_reducible refine gate_builtin (b := .append) (xs := #[.tmp 90, .tmp 92]) rfl ?_); (try (refine gate_guard (by rfl) ?_; dsimp only)); at_builtin; refine Kd.S_append (Kd.slice 3 (Kd.int .i64)) (w0 := w) w.heap.size rfl (.tmp 90) (.tmp 92) 31 23 (.slice none 0 0) 24 rfl Tryz.underlying31 info23 rfl (by decide) (by omega) (.slice Ao51 x5_2.length co51) x5_2 x7_3 [.slice Ao53 x7_3.length co53] (fun _ => True) (fun k_ => some k_ = (.slice Ao53 x7_3.length co53 : Value).ownBlock) rfl rfl ?aP (fun k_ hk_ => ((Kd.R_mono (ok' := fun k_ => ((fun _ => True)) k_ ∧ some k_ ≠ (.slice Ao51 x5_2.length co51 : Value).ownBlock) (Kd.R_apart' (HO_7.out) (Kd.S_typed HO_5.out) (by decide)) (fun k_ hk => ⟨trivial, hk.2⟩))).1 k_ hk_.symm) ?aF ?aO ?aB ?aS ?aL ?_; (case aP => exact Kd.M_row (Kd.R_mono (Kd.R_tight rfl (Kd.R_mono (ok' := fun k_ => ((fun _ => True)) k_ ∧ some k_ ≠ (.slice Ao51 x5_2.length co51 : Value).ownBlock) (Kd.R_apart' (HO_7.out) (Kd.S_typed HO_5.out) (by decide)) (fun k_ hk => ⟨trivial, hk.2⟩))) (fun _ h_ => h_))); (case aB => exact (up_ HB.out)); (case aF => exact (fun _ _ => trivial)); (case aO => exact (by (with_reducible repeat (first | apply Kd.S_alloc | apply Kd.S_drewN | apply Kd.S_drew)); exact Kd.S_mono HO_5.out (fun k_ hk => ⟨trivial, fun e_ => hk e_⟩))); (case aS => exact (below_size (up_ HB.out))); (case aL => have := LMc50.out; omega); intro v262 w52 ho hb hg hat; rw [← Ny261.out] at ho; have n0_ := Aside0.mk (blk_grown (g := gb241) (o := .cells #[.string a0_0, .slice A0_1 l0_1.length c0_1, .slice A0_2 l0_2.length c0_2, .slice (some ad256) l0_3.length c0_3] 38 (0, 0)) (up_ BK241.out) hg (Kd.S_ne HO_5.out BK241.out (by decide))); have n1_ := Aside0.mk (hb); have n2_ := Aside0.mk (ho); clear BK241; clear HB; clear HO_5; clear HO_7; have BK241 := n0_; have HB := n1_; have HO263 := n2_; clear n0_ n1_ n2_; clear ho hb hg hat))
               go_roundg k4
               case measure => have := HJ2.out; have := HK2.out; have := HK3.out; have := HK4.out; omega
               case rel => exact ⟨(y261), (wrap64 (x6_2 + 1)), rs_, H', ⟨by have := HJ2.out; have := HK2.out; have := HK3.out; have := HK4.out; omega⟩, ⟨up_ HO263.out⟩, ⟨up_ BK241.out⟩, ⟨up_ HB.out⟩⟩
              ·rw [if_neg c50] at H
               exact absurd H (by simp)
      ·obtain rfl := Option.some.inj H
       obtain ⟨hcz54_0, hcz54_1, hcz54_2, hcz54_3⟩ := c4_ BK241
       have hfz54_0 := blk_frozen BK241.out 0
       have hfz54_1 := blk_frozen BK241.out 1
       have hfz54_2 := blk_frozen BK241.out 2
       have hfz54_3 := blk_frozen BK241.out 3
       go_wp2
       go_ret
       exact ⟨_, re_, by (with_reducible repeat (first | apply Kd.S_alloc | apply Kd.S_drewN | apply Kd.S_drew)); exact HO_5.out, up_ HB.out⟩

end Go.Proofs.YtkddpilambnicaaGreat.PFnExactDifferencesFor
