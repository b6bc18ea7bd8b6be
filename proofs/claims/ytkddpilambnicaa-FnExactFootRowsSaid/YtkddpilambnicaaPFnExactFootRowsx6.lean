/- Walks of Go functions that the law FnExactFootRows uses: written by this session's program out of the kit's printer; each shows that a call comes to the answers of the Lean function beside it. Conditions: each contract's own. -/
import Derived.Test.YtkddpilambnicaaPFnExactFootRowsx0
import Derived.Test.YtkddpilambnicaaPFnExactFootRowsx2
namespace Go.Proofs.Ytkddpilambnicaa.PFnExactFootRows
open Go.RowKit Go.Proofs.YtkddpilambnicaaW.PrintWords Go.Proofs.YtkddpilambnicaaW.PrintLast Go.Proofs.YtkddpilambnicaaW.PrintMore Go.Proofs.Ytkddpilambnicaa.Mac Go.Proofs.Ytkddpilambnicaa.Law
attribute [local go_sem] max2_int min2_int max_two min_two max_three min_three max_four min_four   -- for this text's walks alone
set_option linter.unusedVariables false
set_option linter.unusedSimpArgs false

/-! ### spec_FootMarks: function 172 -/
def spec_FootMarks.l0 : Nat → List Int → Int → Int → List (S166) → Int → Option (List Int)
 | 0, _, _, _, _, _ => none
 | k + 1, x3, x4, x201000, x201001, x201002 => if x4 < (x201001.length : Int) then (if 0 ≤ x4 then (if 0 < (x3.length : Int) then ((some (x3.set (0 : Int).toNat (wrap64 ((rd x3 0) - ((rd_T166 x201001 x4).f1))) : List Int)).bind fun y214 => (if ((rd_T166 x201001 x4).f1) = 1 then (if 1 < (x3.length : Int) then (spec_FootMarks.l0 k (y214.set (1 : Int).toNat (wrap64 ((rd y214 1) + 1))) (wrap64 (x4 + 1)) x201000 x201001 x201002) else (none)) else (if ((rd_T166 x201001 x4).f2) = 1 then (if 2 < (x3.length : Int) then (spec_FootMarks.l0 k (y214.set (2 : Int).toNat (wrap64 ((rd y214 2) + 1))) (wrap64 (x4 + 1)) x201000 x201001 x201002) else (none)) else (if 3 < (x3.length : Int) then (spec_FootMarks.l0 k (y214.set (3 : Int).toNat (wrap64 ((rd y214 3) + 1))) (wrap64 (x4 + 1)) x201000 x201001 x201002) else (none))))) else (none)) else (none)) else (some x3)
def spec_FootMarks.f (k : Nat) (a0_0 : Int) (l0_1 : List (S166)) (a0_2 : Int) : Option (List Int) := (spec_IsFooting.f k a0_0 l0_1 a0_2).bind fun t201 => (if t201 = true then (if 0 < (l0_1.length : Int) then (if 0 ≤ a0_2 then (if a0_2 < (l0_1.length : Int) then (spec_FootMarks.l0 k (([a0_0, 0, 0, 0, (rd_T166 l0_1 0).f0, wrap64 ((wrap64 (a0_0 - ((rd_T166 l0_1 a0_2).f0))) - ((rd_T166 l0_1 a0_2).f1))] : List Int)) 0 a0_0 l0_1 a0_2) else (none)) else (none)) else (none)) else (some (([] : List Int))))
def spec_FootMarks.T3 : Bool × List (List Nat × List Nat) := (true, [([], []), ([0], [0]), ([], []), ([2], [2]), ([3], [3]), ([4], [4]), ([5], [5]), ([], []), ([7], [7]), ([], []), ([9], [9]), ([], []), ([11], [11]), ([10, 12], [10, 12]), ([13], [13]), ([14], [14]), ([8, 15], [8, 15]), ([], []), ([17], [17]), ([], []), ([19], [19]), ([18, 20], [18, 20]), ([21], [21]), ([22], [22]), ([16, 23], [16, 23]), ([1, 6, 24], [1, 6, 24]), ([25, 0, 1, 2, 3, 4, 5, 6, 7, 8, 9, 10, 11, 12, 13, 14, 15, 16, 17, 18, 19, 20, 21, 22, 23, 24, 25], [25])])
def spec_FootMarks.B3 : List Nat := [0, 1, 0, 4, 12, 28, 60, 0, 128, 0, 512, 0, 2048, 7680, 15872, 32256, 65408, 0, 131072, 0, 524288, 1966080, 4063232, 8257536, 16777088, 33554431, 67108863]
theorem spec_FootMarks.tab3 : rtab .any (opsOf Try.f172 3) = spec_FootMarks.T3 := by kernel_rfl
theorem spec_FootMarks.bits3 : waitsOk spec_FootMarks.T3.2 spec_FootMarks.B3 = true := by kernel_rfl
def spec_FootMarks.T8 : Bool × List (List Nat × List Nat) := (true, [([], []), ([], []), ([1], [1]), ([2], [2]), ([], []), ([4], [4]), ([3, 5], [3, 5]), ([0, 0, 1, 2, 3, 4, 5, 6], [0]), ([7, 6, 0, 1, 2, 3, 4, 5, 6], [6, 7])])
def spec_FootMarks.B8 : List Nat := [0, 0, 2, 6, 0, 16, 62, 127, 255]
theorem spec_FootMarks.tab8 : rtab .any (opsOf Try.f172 8) = spec_FootMarks.T8 := by kernel_rfl
theorem spec_FootMarks.bits8 : waitsOk spec_FootMarks.T8.2 spec_FootMarks.B8 = true := by kernel_rfl
set_option maxHeartbeats 8000000 in
set_option maxRecDepth 100000 in
theorem spec_FootMarks.calls (k : Nat) (a0_0 : Int) (A0_1 : Option Addr) (c0_1 : Nat) (l0_1 : List (S166)) (a0_2 : Int) (r : List Int) (w : World) (hr0_1 : Kd.C k166 w A0_1 l0_1.length l0_1) (hc0_1 : l0_1.length ≤ c0_1) (h : spec_FootMarks.f k a0_0 l0_1 a0_2 = some r) :
  Calls Try.prog 172 #[.agg #[.int .i64 a0_0, .slice A0_1 l0_1.length c0_1, .int .i64 a0_2]] w fun e w' => ∃ v0_ : Value, e = .returned (v0_) ∧ Kd.R (Kd.int .i64) 3 w' w.heap.size (fun _ => True) v0_ r ∧ Below w.heap.size w w' := by
 have hu90 := Try.underlying90
 have hu166 := Try.underlying166
 have HR0_1 := Aside0.mk hr0_1
 have HC0_1 := Aside0.mk hc0_1
 clear hr0_1 hc0_1
 have HB := Aside0.mk (Below.refl w.heap.size w)
 have H : ((spec_IsFooting.f k a0_0 l0_1 a0_2).bind fun t201 => (if t201 = true then (if 0 < (l0_1.length : Int) then (if 0 ≤ a0_2 then (if a0_2 < (l0_1.length : Int) then (spec_FootMarks.l0 k (([a0_0, 0, 0, 0, (rd_T166 l0_1 0).f0, wrap64 ((wrap64 (a0_0 - ((rd_T166 l0_1 a0_2).f0))) - ((rd_T166 l0_1 a0_2).f1))] : List Int)) 0 a0_0 l0_1 a0_2) else (none)) else (none)) else (none)) else (some (([] : List Int))))) = some r := h
 clear h
 replace H := bnd_ H; obtain ⟨t201, A2, H⟩ := H
 replace H := itb_ H; rcases H with ⟨rfl, H⟩ | ⟨rfl, H⟩
 ·by_cases c4 : 0 < (l0_1.length : Int)
  ·rw [if_pos c4] at H
   have c4b0 : decide (0 < (l0_1.length : Int)) = true := decide_eq_true c4
   have c4b1 : decide (0 < l0_1.length) = true := decide_eq_true (by omega)
   clear c4
   replace H := its_ H; rcases H with ⟨c5b0, H⟩ | ⟨_, ⟨⟩⟩
   replace H := its_ H; rcases H with ⟨c6b0, H⟩ | ⟨_, ⟨⟩⟩
   obtain ⟨y208, hy208⟩ : ∃ y_ : List Int, y_ = (([a0_0, 0, 0, 0, (rd_T166 l0_1 0).f0, wrap64 ((wrap64 (a0_0 - ((rd_T166 l0_1 a0_2).f0))) - ((rd_T166 l0_1 a0_2).f1))] : List Int)) := ⟨_, rfl⟩
   replace H : (spec_FootMarks.l0 k y208 0 a0_0 l0_1 a0_2) = some r := rh_ hy208 H
   have Ny208 := Aside0.mk hy208
   clear hy208
   have H' := Aside0.mk H
   clear H
   go_enter Try.func172, Try.ntmps172
   try go_wp2_with (first | ((with_reducible refine gd_ 1 ?_); refine bx_ 1 #[.int .i64 a0_0, .slice A0_1 l0_1.length c0_1, .int .i64 a0_2] 90 ?_; intro gb200 hg w7 hbox hb; have BK200 := Aside0.mk (hbox); have GW200 := gw_ HB hg; have GE200 := gw_ HB hg; replace HB := bs_ HB hb; clear hb hbox hg; obtain ⟨hcz8_0, hcz8_1, hcz8_2⟩ := c3_ BK200; have hfz8_0 := blk_frozen BK200.out 0; have hfz8_1 := blk_frozen BK200.out 1; have hfz8_2 := blk_frozen BK200.out 2) | ((with_reducible refine gc_ 119 ?_); refine gl_ (some 7) Try.func119 (spec_IsFooting.calls k a0_0 _ _ l0_1 a0_2 true _ (Kd.C_below HR0_1.out (up_ HB.out)) HC0_1.out A2.out) ?_; rintro e w9 ⟨rfl, hb⟩; refine ⟨_, rfl, ?_⟩; replace BK200 := bb_ BK200 hb; replace HB := bs_ HB hb; (try clear hb); (try clear hb2); (try clear hk); (try clear hi)))
   have n0_ := Aside0.mk (blk_drew BK200.out)
   have n1_ := Aside0.mk (below_drew1 HB.out)
   clear BK200
   clear HB
   have BK200 := n0_
   have HB := n1_
   clear n0_ n1_
   have p205 : 0 ≤ (0 : Int) := (by omega)
   have q205 : 0 < (l0_1.length : Int) := od_
   obtain ⟨ad205, e205, hx205_0, hx205_1, hx205_2⟩ := at_T166 HR0_1.out 0 p205 q205
   have hw205_2 := hx205_2
   (try rw [show ((0 : Int)).toNat = 0 from rfl] at hw205_2)
   (try rw [show 0 * 3 = 0 from rfl] at hw205_2)
   (try rw [Addr.add_zero'] at hw205_2)
   have hw205_1 := hx205_1
   (try rw [show ((0 : Int)).toNat = 0 from rfl] at hw205_1)
   (try rw [show 0 * 3 = 0 from rfl] at hw205_1)
   (try rw [Addr.add_zero'] at hw205_1)
   have hw205_0 := hx205_0
   (try rw [show ((0 : Int)).toNat = 0 from rfl] at hw205_0)
   (try rw [show 0 * 3 = 0 from rfl] at hw205_0)
   (try rw [Addr.add_zero'] at hw205_0)
   cases e205
   have qi205 : (0 < l0_1.length) = True := eq_true (by omega)
   (try rw [show ((0 : Int)).toNat = 0 from rfl] at hx205_0)
   (try rw [show 0 * 3 = 0 from rfl] at hx205_0)
   (try rw [Addr.add_zero'] at hx205_0)
   (try rw [show ((0 : Int)).toNat = 0 from rfl] at hx205_1)
   (try rw [show 0 * 3 = 0 from rfl] at hx205_1)
   (try rw [Addr.add_zero'] at hx205_1)
   (try rw [show ((0 : Int)).toNat = 0 from rfl] at hx205_2)
   (try rw [show 0 * 3 = 0 from rfl] at hx205_2)
   (try rw [Addr.add_zero'] at hx205_2)
   replace hx205_0 := bh_ HB hx205_0
   replace hx205_1 := bh_ HB hx205_1
   replace hx205_2 := bh_ HB hx205_2
   replace p205 := eq_true p205
   replace q205 := eq_true q205
   have p206 : 0 ≤ (a0_2 : Int) := od_
   have q206 : a0_2 < (l0_1.length : Int) := od_
   obtain ⟨ad206, e206, hx206_0, hx206_1, hx206_2⟩ := at_T166 HR0_1.out a0_2 p206 q206
   have hw206_2 := hx206_2
   have hw206_1 := hx206_1
   have hw206_0 := hx206_0
   obtain rfl : ad205 = ad206 := (by injection e206)
   replace hx206_0 := bh_ HB hx206_0
   replace hx206_1 := bh_ HB hx206_1
   replace hx206_2 := bh_ HB hx206_2
   replace p206 := eq_true p206
   replace q206 := eq_true q206
   have p207 : 0 ≤ (a0_2 : Int) := od_
   have q207 : a0_2 < (l0_1.length : Int) := od_
   obtain ⟨ad207, e207, hx207_0, hx207_1, hx207_2⟩ := at_T166 HR0_1.out a0_2 p207 q207
   have hw207_2 := hx207_2
   have hw207_1 := hx207_1
   have hw207_0 := hx207_0
   obtain rfl : ad205 = ad207 := (by injection e207)
   replace hx207_0 := bh_ HB hx207_0
   replace hx207_1 := bh_ HB hx207_1
   replace hx207_2 := bh_ HB hx207_2
   replace p207 := eq_true p207
   replace q207 := eq_true q207
   refine start_ (n := 27) (S := fun w' => w'.cell? ⟨gb200, 0, none⟩ = some (.int .i64 a0_0) ∧ w'.cell? ⟨gb200, 1, none⟩ = some (.slice (some ad205) l0_1.length c0_1) ∧ w'.cell? ⟨gb200, 2, none⟩ = some (.int .i64 a0_2) ∧ w'.cell? ad205 = some (.int .i64 ((rd_T166 l0_1 0).f0)) ∧ w'.cell? ⟨ad205.block, ad205.off + 1, none⟩ = some (.int .i64 ((rd_T166 l0_1 0).f1)) ∧ w'.cell? ⟨ad205.block, ad205.off + 2, none⟩ = some (.int .i64 ((rd_T166 l0_1 0).f2)) ∧ w'.cell? (ad205.add ((a0_2).toNat * 3)) = some (.int .i64 ((rd_T166 l0_1 a0_2).f0)) ∧ w'.cell? ⟨(ad205.add ((a0_2).toNat * 3)).block, (ad205.add ((a0_2).toNat * 3)).off + 1, none⟩ = some (.int .i64 ((rd_T166 l0_1 a0_2).f1)) ∧ w'.cell? ⟨(ad205.add ((a0_2).toNat * 3)).block, (ad205.add ((a0_2).toNat * 3)).off + 2, none⟩ = some (.int .i64 ((rd_T166 l0_1 a0_2).f2)) ∧ w'.cell? (ad205.add ((a0_2).toNat * 3)) = some (.int .i64 ((rd_T166 l0_1 a0_2).f0)) ∧ w'.cell? ⟨(ad205.add ((a0_2).toNat * 3)).block, (ad205.add ((a0_2).toNat * 3)).off + 1, none⟩ = some (.int .i64 ((rd_T166 l0_1 a0_2).f1)) ∧ w'.cell? ⟨(ad205.add ((a0_2).toNat * 3)).block, (ad205.add ((a0_2).toNat * 3)).off + 2, none⟩ = some (.int .i64 ((rd_T166 l0_1 a0_2).f2))) (ds := []) #[false, false, false, false, false, false, false, false, false, false, false, false, false, false, false, false, false, false, false, false, false, false, false, false, false, false, false] (by kernel_rfl) rfl rfl ⟨(blk_cell BK200.out 0).trans rfl, (blk_cell BK200.out 1).trans rfl, (blk_cell BK200.out 2).trans rfl, (bh_ HB hw205_0 :), (bh_ HB hw205_1 :), (bh_ HB hw205_2 :), (bh_ HB hw206_0 :), (bh_ HB hw206_1 :), (bh_ HB hw206_2 :), (bh_ HB hw207_0 :), (bh_ HB hw207_1 :), (bh_ HB hw207_2 :)⟩ (fun hHeld => ?_); refine with_tabW spec_FootMarks.tab3 spec_FootMarks.bits3 (fun HT_ HW_ => ?_)
   generalize w9.drew = w10 at BK200 HB hx205_0 hx205_1 hx205_2 hx206_0 hx206_1 hx206_2 hx207_0 hx207_1 hx207_2 hHeld ⊢
   refine pu_ 0 (some 10) ?_
   refine pu_ 2 (some 12) ?_
   refine pu_ 7 (some 17) ?_
   refine pu_ 9 (some 19) ?_
   refine pu_ 11 (some 21) ?_
   refine pu_ 17 (some 27) ?_
   refine pu_ 19 (some 29) ?_
   refine tk_ 1 (some 11) hHeld ?_
   refine tk_ 3 (some 13) hHeld ?_
   refine pu_ 4 (some 14) ?_
   refine pu_ 5 (some 15) ?_
   refine tk_ 6 (some 16) hHeld ?_
   refine tk_ 8 (some 18) hHeld ?_
   refine tk_ 10 (some 20) hHeld ?_
   refine tk_ 12 (some 22) hHeld ?_
   refine pu_ 13 (some 23) ?_
   refine pu_ 14 (some 24) ?_
   refine tk_ 15 (some 25) hHeld ?_
   refine pu_ 16 (some 26) ?_
   refine tk_ 18 (some 28) hHeld ?_
   refine tk_ 20 (some 30) hHeld ?_
   refine pu_ 21 (some 31) ?_
   refine pu_ 22 (some 32) ?_
   refine tk_ 23 (some 33) hHeld ?_
   refine pu_ 24 (some 34) ?_
   refine one_ (i := 25) (N := some 35) #[true, true, true, true, true, true, true, true, true, true, true, true, true, true, true, true, true, true, true, true, true, true, true, true, true, true, false] rfl rfl (one_of HT_.out (by kernel_rfl)) (by decide) (fun K hK => ?_)
   refine Kd.R_lit_step (Kd.int .i64) _ 3 ?hg (N := 35) ?hd (xs := ([a0_0, 0, 0, 0, (rd_T166 l0_1 0).f0, wrap64 ((wrap64 (a0_0 - ((rd_T166 l0_1 a0_2).f0))) - ((rd_T166 l0_1 a0_2).f1))] : List Int)) (inner := [.int .i64 a0_0, .int .i64 0, .int .i64 0, .int .i64 0, .int .i64 ((rd_T166 l0_1 0).f0), .int .i64 (wrap64 ((wrap64 (a0_0 - ((rd_T166 l0_1 a0_2).f0))) - ((rd_T166 l0_1 a0_2).f1)))]) (ok := fun _ => True) (okp := fun _ => True) ?hr ?hp (fun _ hk => hk) trivial (Below.refl _ _) (Nat.le_refl _) (by simp) ?_; (case hd => rfl); (case hg => rfl); (case hr => first | (go_simp; done) | (go_simp; rfl)); (case hp => exact (Reps.one (show Kd.M (Kd.int .i64) _ _ _ a0_0 [.int .i64 a0_0] from rfl) (Reps.one (show Kd.M (Kd.int .i64) _ _ _ 0 [.int .i64 0] from rfl) (Reps.one (show Kd.M (Kd.int .i64) _ _ _ 0 [.int .i64 0] from rfl) (Reps.one (show Kd.M (Kd.int .i64) _ _ _ 0 [.int .i64 0] from rfl) (Reps.one (show Kd.M (Kd.int .i64) _ _ _ ((rd_T166 l0_1 0).f0) [.int .i64 ((rd_T166 l0_1 0).f0)] from rfl) (Reps.one (show Kd.M (Kd.int .i64) _ _ _ (wrap64 ((wrap64 (a0_0 - ((rd_T166 l0_1 a0_2).f0))) - ((rd_T166 l0_1 a0_2).f1))) [.int .i64 (wrap64 ((wrap64 (a0_0 - ((rd_T166 l0_1 a0_2).f0))) - ((rd_T166 l0_1 a0_2).f1)))] from rfl) (Reps.none _ _))))))))
   intro v209 w11 ho12 hb hg_ hnew_
   clear hg_ hnew_
   (first | rw [← Ny208.out] at ho12 | (simp only [Int.reduceToNat] at ho12; rw [← Ny208.out] at ho12))
   have n0_ := Aside0.mk (Kd.R_lower ho12 (below_size (up_ HB.out)))
   have n1_ := bb_ BK200 hb
   have n2_ := bs_ HB hb
   clear BK200
   clear HB
   have HO210 := n0_
   have BK200 := n1_
   have HB := n2_
   clear n0_ n1_ n2_
   clear hb ho12
   refine hK.out _ _ ⟨(blk_cell BK200.out 0).trans rfl, (blk_cell BK200.out 1).trans rfl, (blk_cell BK200.out 2).trans rfl, (bh_ HB hw205_0 :), (bh_ HB hw205_1 :), (bh_ HB hw205_2 :), (bh_ HB hw206_0 :), (bh_ HB hw206_1 :), (bh_ HB hw206_2 :), (bh_ HB hw207_0 :), (bh_ HB hw207_1 :), (bh_ HB hw207_2 :)⟩ (fun hHeld => ?_)
   clear hK K
   refine nm_ ?_
   refine pu_ 26 (some 3) ?_
   refine done_ (done_of HT_.out (by kernel_rfl)) ?_
   try go_wp2
   go_loopg [4] k (fun kq v4 w' => ∃ (x3_1 : List Int) (x4_1 : Int), v4 = .int .i64 x4_1 ∧ Aside0 (spec_FootMarks.l0 kq x3_1 x4_1 a0_0 l0_1 a0_2 = some r) ∧ Aside0 (kq ≤ k) ∧ Aside0 (Kd.R (Kd.int .i64) 3 w' w.heap.size (fun _ => True) v209 x3_1) ∧ Aside0 (w'.heap[gb200]? = some (.cells #[.int .i64 a0_0, (.slice (some ad205) l0_1.length c0_1), .int .i64 a0_2] 90 (0, 0))) ∧ Aside0 (Below w.heap.size w w'))
   case atStart => exact ⟨(y208), (0), rs_, H', ⟨Nat.le_refl _⟩, ⟨up_ HO210.out⟩, ⟨up_ BK200.out⟩, ⟨up_ HB.out⟩⟩
   case round =>
    clear H'
    try clear c1
    try clear p2
    try clear q2
    try clear hx2
    try clear qi2
    try clear c3
    try clear c4
    try clear c4b0
    try clear c4b1
    try clear c5
    try clear c5b0
    try clear c6
    try clear c6b0
    try clear p6
    try clear c11
    try clear hcz8_0
    try clear hcz8_1
    try clear hcz8_2
    try clear hfz8_0
    try clear hfz8_1
    try clear hfz8_2
    try clear hx205_0
    try clear hx205_1
    try clear hx205_2
    try clear hx206_0
    try clear hx206_1
    try clear hx206_2
    try clear hx207_0
    try clear hx207_1
    try clear hx207_2
    try clear p205
    try clear p206
    try clear p207
    try clear q205
    try clear q206
    try clear q207
    obtain ⟨x3_1, x4_1, rfl, HA, HK1, HO_3, BK200, HB⟩ := hrel
    cases gk with
    | zero => exact absurd HA.out (by simp [spec_FootMarks.l0])
    | succ k1 =>
     have H := HA.out
     clear HA
     simp only [spec_FootMarks.l0] at H
     replace H := its_ H; rcases H with ⟨c13b0, H⟩ | ⟨c13b0, H⟩
     ·replace H := its_ H; rcases H with ⟨c14b0, H⟩ | ⟨_, ⟨⟩⟩
      by_cases c15 : 0 < (x3_1.length : Int)
      ·rw [if_pos c15] at H
       have c15b0 : decide (0 < (x3_1.length : Int)) = true := decide_eq_true c15
       have c15b1 : decide (0 < x3_1.length) = true := decide_eq_true (by omega)
       clear c15
       obtain ⟨y214, hy214⟩ : ∃ y_ : List Int, y_ = (x3_1.set (0 : Int).toNat (wrap64 ((rd x3_1 0) - ((rd_T166 l0_1 x4_1).f1)))) := ⟨_, rfl⟩
       replace H : (if ((rd_T166 l0_1 x4_1).f1) = 1 then (if 1 < (x3_1.length : Int) then (spec_FootMarks.l0 k1 (y214.set (1 : Int).toNat (wrap64 ((rd y214 1) + 1))) (wrap64 (x4_1 + 1)) a0_0 l0_1 a0_2) else (none)) else (if ((rd_T166 l0_1 x4_1).f2) = 1 then (if 2 < (x3_1.length : Int) then (spec_FootMarks.l0 k1 (y214.set (2 : Int).toNat (wrap64 ((rd y214 2) + 1))) (wrap64 (x4_1 + 1)) a0_0 l0_1 a0_2) else (none)) else (if 3 < (x3_1.length : Int) then (spec_FootMarks.l0 k1 (y214.set (3 : Int).toNat (wrap64 ((rd y214 3) + 1))) (wrap64 (x4_1 + 1)) a0_0 l0_1 a0_2) else (none)))) = some r := rh_ hy214 H
       have Ny214 := Aside0.mk hy214
       clear hy214
       replace H := ieq_ H; rcases H with ⟨-, c17b0, c17b1, H⟩ | ⟨c17, c17b0, c17b1, H⟩
       ·by_cases c18 : 1 < (x3_1.length : Int)
        ·rw [if_pos c18] at H
         have c18b0 : decide (1 < (x3_1.length : Int)) = true := decide_eq_true c18
         have c18b1 : decide (1 < x3_1.length) = true := decide_eq_true (by omega)
         clear c18
         obtain ⟨y216, hy216⟩ : ∃ y_ : List Int, y_ = (y214.set (1 : Int).toNat (wrap64 ((rd y214 1) + 1))) := ⟨_, rfl⟩
         replace H : (spec_FootMarks.l0 k1 y216 (wrap64 (x4_1 + 1)) a0_0 l0_1 a0_2) = some r := rh_ hy216 H
         have Ny216 := Aside0.mk hy216
         clear hy216
         have H' := Aside0.mk H
         clear H
         obtain ⟨hcz20_0, hcz20_1, hcz20_2⟩ := c3_ BK200
         have hfz20_0 := blk_frozen BK200.out 0
         have hfz20_1 := blk_frozen BK200.out 1
         have hfz20_2 := blk_frozen BK200.out 2
         have p211 : 0 ≤ (x4_1 : Int) := od_
         have q211 : x4_1 < (l0_1.length : Int) := od_
         obtain ⟨ad211, e211, hx211_0, hx211_1, hx211_2⟩ := at_T166 HR0_1.out x4_1 p211 q211
         obtain rfl : ad205 = ad211 := (by injection e211)
         replace hx211_0 := bh_ HB hx211_0
         replace hx211_1 := bh_ HB hx211_1
         replace hx211_2 := bh_ HB hx211_2
         replace p211 := eq_true p211
         replace q211 := eq_true q211
         try go_wp2_with (first | ((with_reducible refine gd_ 5 ?_); refine bx_ 5 #[.int .i64 0, .int .i64 0, .int .i64 0] 166 ?_; intro gb212 hg w21 hbox hb; replace HO_3 := Aside0.mk (Kd.R_below (up_ HO_3.out) hb); have BK212 := Aside0.mk (hbox); have GW212 := gw_ HB hg; have GE212 := gw_ HB hg; replace HB := bs_ HB hb; have NB200_212 := Aside0.mk ((by rw [hg]; exact Nat.ne_of_lt (blk_lt (g := gb200) (o := .cells #[.int .i64 a0_0, .slice (some ad205) l0_1.length c0_1, .int .i64 a0_2] 90 (0, 0)) (up_ BK200.out)) : gb200 ≠ gb212)); have NB212_200 := Aside0.mk ((by rw [hg]; exact Nat.ne_of_gt (blk_lt (g := gb200) (o := .cells #[.int .i64 a0_0, .slice (some ad205) l0_1.length c0_1, .int .i64 a0_2] 90 (0, 0)) (up_ BK200.out)) : gb212 ≠ gb200)); replace BK200 := bb_ BK200 hb; clear hb hbox hg; have hnb22 := NB212_200.out; have hnc22 := NB200_212.out; obtain ⟨hcz23_0, hcz23_1, hcz23_2⟩ := c3_ BK212; have hfz23_0 := blk_frozen BK212.out 0; have hfz23_1 := blk_frozen BK212.out 1; have hfz23_2 := blk_frozen BK212.out 2))
         have n0_ : Aside0 (Kd.R (Kd.int .i64) 3 (((w21.setCell ⟨gb212, 0, none⟩ (.int .i64 ((rd_T166 l0_1 x4_1).f0))).setCell ⟨gb212, 1, none⟩ (.int .i64 ((rd_T166 l0_1 x4_1).f1))).setCell ⟨gb212, 2, none⟩ (.int .i64 ((rd_T166 l0_1 x4_1).f2))) w.heap.size (fun _ => True) v209 x3_1) := ⟨by (with_reducible repeat (first | apply Kd.R_alloc | apply Kd.R_drewN | apply Kd.R_drew)); exact Kd.R_mono (Kd.R_far (p := ⟨gb212, 2, none⟩) (Kd.R_far (p := ⟨gb212, 1, none⟩) (Kd.R_far (p := ⟨gb212, 0, none⟩) (Kd.R_types HO_3.out BK212.out (by decide)) (fun _ hk => hk.2) (.int .i64 ((rd_T166 l0_1 x4_1).f0))) (fun _ hk => hk.2) (.int .i64 ((rd_T166 l0_1 x4_1).f1))) (fun _ hk => hk.2) (.int .i64 ((rd_T166 l0_1 x4_1).f2))) (fun _ hk => trivial)⟩
         have n1_ : Aside0 ((((w21.setCell ⟨gb212, 0, none⟩ (.int .i64 ((rd_T166 l0_1 x4_1).f0))).setCell ⟨gb212, 1, none⟩ (.int .i64 ((rd_T166 l0_1 x4_1).f1))).setCell ⟨gb212, 2, none⟩ (.int .i64 ((rd_T166 l0_1 x4_1).f2))).heap[gb200]? = some (.cells #[.int .i64 a0_0, .slice (some ad205) l0_1.length c0_1, .int .i64 a0_2] 90 (0, 0))) := ⟨by (with_reducible repeat (first | refine blk_drewN ?_ _ | refine blk_drew ?_ | refine blk_alloc ?_ _)); refine blk_far ?_ NB200_212.out _; (with_reducible repeat (first | refine blk_drewN ?_ _ | refine blk_drew ?_ | refine blk_alloc ?_ _)); refine blk_far ?_ NB200_212.out _; (with_reducible repeat (first | refine blk_drewN ?_ _ | refine blk_drew ?_ | refine blk_alloc ?_ _)); refine blk_far ?_ NB200_212.out _; (with_reducible repeat (first | refine blk_drewN ?_ _ | refine blk_drew ?_ | refine blk_alloc ?_ _)); exact BK200.out⟩
         have n2_ : Aside0 ((((w21.setCell ⟨gb212, 0, none⟩ (.int .i64 ((rd_T166 l0_1 x4_1).f0))).setCell ⟨gb212, 1, none⟩ (.int .i64 ((rd_T166 l0_1 x4_1).f1))).setCell ⟨gb212, 2, none⟩ (.int .i64 ((rd_T166 l0_1 x4_1).f2))).heap[gb212]? = some (.cells #[.int .i64 ((rd_T166 l0_1 x4_1).f0), .int .i64 ((rd_T166 l0_1 x4_1).f1), .int .i64 ((rd_T166 l0_1 x4_1).f2)] 166 (0, 0))) := ⟨by (with_reducible repeat (first | refine blk_drewN ?_ _ | refine blk_drew ?_ | refine blk_alloc ?_ _)); refine blk_put (cs := #[.int .i64 ((rd_T166 l0_1 x4_1).f0), .int .i64 ((rd_T166 l0_1 x4_1).f1), .int .i64 0]) ?_ 2 _ rfl; (with_reducible repeat (first | refine blk_drewN ?_ _ | refine blk_drew ?_ | refine blk_alloc ?_ _)); refine blk_put (cs := #[.int .i64 ((rd_T166 l0_1 x4_1).f0), .int .i64 0, .int .i64 0]) ?_ 1 _ rfl; (with_reducible repeat (first | refine blk_drewN ?_ _ | refine blk_drew ?_ | refine blk_alloc ?_ _)); refine blk_put (cs := #[.int .i64 0, .int .i64 0, .int .i64 0]) ?_ 0 _ rfl; (with_reducible repeat (first | refine blk_drewN ?_ _ | refine blk_drew ?_ | refine blk_alloc ?_ _)); exact BK212.out⟩
         have n3_ : Aside0 (Below w.heap.size w (((w21.setCell ⟨gb212, 0, none⟩ (.int .i64 ((rd_T166 l0_1 x4_1).f0))).setCell ⟨gb212, 1, none⟩ (.int .i64 ((rd_T166 l0_1 x4_1).f1))).setCell ⟨gb212, 2, none⟩ (.int .i64 ((rd_T166 l0_1 x4_1).f2)))) := ⟨up_ HB.out⟩
         (try clear HO_3)
         (try clear BK200)
         (try clear BK212)
         (try clear HB)
         generalize (((w21.setCell ⟨gb212, 0, none⟩ (.int .i64 ((rd_T166 l0_1 x4_1).f0))).setCell ⟨gb212, 1, none⟩ (.int .i64 ((rd_T166 l0_1 x4_1).f1))).setCell ⟨gb212, 2, none⟩ (.int .i64 ((rd_T166 l0_1 x4_1).f2))) = w24 at n0_ n1_ n2_ n3_ ⊢
         have HO_3 := n0_
         have BK200 := n1_
         have BK212 := n2_
         have HB := n3_
         clear n0_ n1_ n2_ n3_
         have n0_ := Aside0.mk (Kd.R_drew HO_3.out)
         have n1_ := Aside0.mk (blk_drew BK200.out)
         have n2_ := Aside0.mk (blk_drew BK212.out)
         have n3_ := Aside0.mk (below_drew1 HB.out)
         clear HO_3
         clear BK200
         clear BK212
         clear HB
         have HO_3 := n0_
         have BK200 := n1_
         have BK212 := n2_
         have HB := n3_
         clear n0_ n1_ n2_ n3_
         obtain ⟨Ao26, co26, eo26⟩ := Kd.R_slice HO_3.out
         (first | subst eo26 | (injection eo26 with f1_ f2_ f3_; have f4_ := f1_.symm; have f5_ := f3_.symm; clear f1_ f2_ f3_; subst f4_; subst f5_))
         have p213 : 0 ≤ (0 : Int) := (by omega)
         have q213 : 0 < (x3_1.length : Int) := od_
         obtain ⟨ad213, e213, hx213_0⟩ := Kd.at_int (Kd.R_reads' HO_3.out).2.2 0 p213 q213
         cases e213
         have qi213 : (0 < x3_1.length) = True := eq_true (by omega)
         (try rw [show ((0 : Int)).toNat = 0 from rfl] at hx213_0)
         (try rw [Addr.add_zero'] at hx213_0)
         replace p213 := eq_true p213
         replace q213 := eq_true q213
         have p16 : 0 ≤ (0 : Int) := (by omega)
         have q16 : (0 : Int) < ((x3_1.length : Int) : Int) := od_
         have qi16 : (0 < x3_1.length) = True := eq_true (by omega)
         obtain ⟨go16, co16, eo16, gb16, gl16, cl16, HG16⟩ := Kd.R_form HO_3.out (by omega)
         (first | cases eo16 | (injection eo16 with ea_ en_ ec_; (first | subst ea_ | (injection ea_ with ea_; subst ea_)); subst ec_; clear en_))
         have GB16 := Aside0.mk gb16
         have GG16 := Aside0.mk HG16
         clear gb16 gl16 HG16
         (first | simp only [add_plain] at hx213_0 | skip)
         obtain ⟨hx16_0, hf16_0⟩ := Kd.R_celln 0 HO_3.out (0 : Int) p16 q16
         (try rw [show ((0 : Int)).toNat = 0 from rfl] at hx16_0)
         (try simp only [Nat.reduceMul, Nat.zero_mul, Nat.zero_add, Nat.reduceAdd] at hx16_0)
         (try rw [show ((0 : Int)).toNat = 0 from rfl] at hf16_0)
         (try simp only [Nat.reduceMul, Nat.zero_mul, Nat.zero_add, Nat.reduceAdd] at hf16_0)
         replace p16 := eq_true p16
         replace q16 := eq_true q16
         have HP27 := Kd.R_putn HO_3.out (0 : Int) (wrap64 ((rd x3_1 0) - ((rd_T166 l0_1 x4_1).f1)))
         rw [← Ny214.out] at HP27
         have HQ27 := Aside0.mk HP27
         clear HP27
         refine start_ (n := 9) (S := fun w' => w'.cell? ⟨gb212, 0, none⟩ = some (.int .i64 ((rd_T166 l0_1 x4_1).f0)) ∧ w'.cell? ⟨gb212, 1, none⟩ = some (.int .i64 ((rd_T166 l0_1 x4_1).f1)) ∧ w'.cell? ⟨gb212, 2, none⟩ = some (.int .i64 ((rd_T166 l0_1 x4_1).f2)) ∧ w'.cell? ⟨go16, 0, none⟩ = some (.int .i64 (rd x3_1 0))) (ds := [8]) #[false, false, false, false, false, false, false, false, false] (by kernel_rfl) rfl rfl ⟨(blk_cell BK212.out 0).trans rfl, (blk_cell BK212.out 1).trans rfl, (blk_cell BK212.out 2).trans rfl, hx213_0⟩ (fun hHeld => ?_); refine with_tabW spec_FootMarks.tab8 spec_FootMarks.bits8 (fun HT_ HW_ => ?_)
         generalize w24.drew = w25 at HO_3 BK200 BK212 HB GG16 HQ27 hf16_0 hx16_0 hx213_0 hHeld ⊢
         refine pu_ 0 (some 48) ?_
         refine pu_ 1 (some 49) ?_
         refine pu_ 2 (some 50) ?_
         refine pu_ 4 (some 52) ?_
         refine tk_ 3 (some 51) hHeld ?_
         refine tk_ 5 (some 53) hHeld ?_
         refine pu_ 6 (some 54) ?_
         refine pu_ 7 (some 55) ?_
         refine last_ (i := 8) (N := none) #[true, true, true, true, true, true, true, true, true] rfl rfl (one_of HT_.out (by kernel_rfl)) (by decide) (fun K hK => ?_)
         refine skip_ (w1 := ?_) (by rfl) rfl ?_ ?_
         rotate_left
         ·go_simp
          rfl
         refine hK.out _ _ ?_
         clear hK K
         refine done_ (done_of HT_.out (by kernel_rfl)) ?_
         try have hnxgb212_ : gb212 ≠ go16 := fun e_ => (Kd.R_ne HO_3.out BK212.out (by decide)) (by rw [e_]; rfl)
         try have hmxgb212_ := Ne.symm hnxgb212_
         have n0_ : Aside0 (Kd.R (Kd.int .i64) 3 (w25.setCell ⟨go16, 0, none⟩ (.int .i64 (wrap64 ((rd x3_1 0) - ((rd_T166 l0_1 x4_1).f1))))) w.heap.size (fun _ => True) (.slice (some ⟨go16, 0, none⟩) x3_1.length co26) y214) := ⟨up_ HQ27.out⟩
         have n1_ : Aside0 ((w25.setCell ⟨go16, 0, none⟩ (.int .i64 (wrap64 ((rd x3_1 0) - ((rd_T166 l0_1 x4_1).f1))))).heap[gb200]? = some (.cells #[.int .i64 a0_0, .slice (some ad205) l0_1.length c0_1, .int .i64 a0_2] 90 (0, 0))) := ⟨by (with_reducible repeat (first | refine blk_drewN ?_ _ | refine blk_drew ?_ | refine blk_alloc ?_ _)); refine blk_far ?_ (by have h_ := Kd.R_ne HO_3.out BK200.out (by decide); intro e_; exact h_ (by rw [e_]; rfl)) _; (with_reducible repeat (first | refine blk_drewN ?_ _ | refine blk_drew ?_ | refine blk_alloc ?_ _)); exact BK200.out⟩
         have n2_ : Aside0 ((w25.setCell ⟨go16, 0, none⟩ (.int .i64 (wrap64 ((rd x3_1 0) - ((rd_T166 l0_1 x4_1).f1))))).heap[gb212]? = some (.cells #[.int .i64 ((rd_T166 l0_1 x4_1).f0), .int .i64 ((rd_T166 l0_1 x4_1).f1), .int .i64 ((rd_T166 l0_1 x4_1).f2)] 166 (0, 0))) := ⟨by (with_reducible repeat (first | refine blk_drewN ?_ _ | refine blk_drew ?_ | refine blk_alloc ?_ _)); refine blk_far ?_ (by have h_ := Kd.R_ne HO_3.out BK212.out (by decide); intro e_; exact h_ (by rw [e_]; rfl)) _; (with_reducible repeat (first | refine blk_drewN ?_ _ | refine blk_drew ?_ | refine blk_alloc ?_ _)); exact BK212.out⟩
         have n3_ : Aside0 (Below w.heap.size w (w25.setCell ⟨go16, 0, none⟩ (.int .i64 (wrap64 ((rd x3_1 0) - ((rd_T166 l0_1 x4_1).f1)))))) := ⟨up_ HB.out⟩
         (try clear HO_3)
         (try clear BK200)
         (try clear BK212)
         (try clear HB)
         generalize (w25.setCell ⟨go16, 0, none⟩ (.int .i64 (wrap64 ((rd x3_1 0) - ((rd_T166 l0_1 x4_1).f1))))) = w28 at n0_ n1_ n2_ n3_ ⊢
         have HO_3 := n0_
         have BK200 := n1_
         have BK212 := n2_
         have HB := n3_
         clear n0_ n1_ n2_ n3_
         obtain ⟨hcz29_0, hcz29_1, hcz29_2⟩ := c3_ BK212
         have hfz29_0 := blk_frozen BK212.out 0
         have hfz29_1 := blk_frozen BK212.out 1
         have hfz29_2 := blk_frozen BK212.out 2
         have p215 : 0 ≤ (1 : Int) := (by omega)
         have q215 : 1 < (y214.length : Int) := (by have h_ : (1 : Int) < ((x3_1.length : Int) : Int) := od_; first | (have e_ := (Kd.R_reads' HO_3.out).1; omega) | simpa only [Ny214.out, List.length_set] using h_)
         have ql215 : ((1 : Int) < ((x3_1.length : Int) : Int)) = True := eq_true (od_)
         (try have qn215 : (1 < x3_1.length) = True := eq_true (by have h_ : (1 : Int) < ((x3_1.length : Int) : Int) := od_; omega))
         obtain ⟨ad215, e215, hx215_0⟩ := Kd.at_int (Kd.R_reads' HO_3.out).2.2 1 p215 q215
         obtain rfl : (⟨go16, 0, none⟩ : Addr) = ad215 := (by injection e215)
         (first | simp only [add_plain] at hx215_0 | simp only [add_at] at hx215_0 | simp only [Addr.add, Nat.zero_add] at hx215_0 | skip)
         have qi215 : (1 < y214.length) = True := eq_true (by omega)
         (try rw [show ((1 : Int)).toNat = 1 from rfl] at hx215_0)
         replace p215 := eq_true p215
         replace q215 := eq_true q215
         have p19 : 0 ≤ (1 : Int) := (by omega)
         have q19 : (1 : Int) < ((x3_1.length : Int) : Int) := od_
         have qi19 : (1 < x3_1.length) = True := eq_true (by omega)
         obtain ⟨hx19_0, hf19_0⟩ := Kd.R_celln 0 HO_3.out (1 : Int) p19 q19
         (try rw [show ((1 : Int)).toNat = 1 from rfl] at hx19_0)
         (try simp only [Nat.reduceMul, Nat.zero_mul, Nat.zero_add, Nat.reduceAdd] at hx19_0)
         (try rw [show ((1 : Int)).toNat = 1 from rfl] at hf19_0)
         (try simp only [Nat.reduceMul, Nat.zero_mul, Nat.zero_add, Nat.reduceAdd] at hf19_0)
         replace p19 := eq_true p19
         replace q19 := eq_true q19
         obtain ⟨hy30_, hz30_⟩ := Kd.R_celln 0 HO_3.out (1 : Int) (by omega) (od_)
         (try simp only [Int.reduceToNat, Int.toNat_zero, Int.toNat_ofNat, Nat.reduceMul, Nat.zero_mul, Nat.zero_add] at hy30_ hz30_)
         (try rw [show ((1 : Int)).toNat = 1 from rfl] at hy30_)
         (try rw [show ((1 : Int)).toNat = 1 from rfl] at hz30_)
         have HP30 := Kd.R_putg HO_3.out (1 : Int) (wrap64 ((rd y214 1) + 1))
         try go_wp2_with (first | ((with_reducible refine gate_store (t := 3) (p := 71) rfl ?_); refine store_event (t := 3) (p := 71) (v := ?vo_w31) (w1 := (w28.setCell ⟨go16, (1 : Int).toNat, none⟩ (.int .i64 (wrap64 ((rd y214 1) + 1))))) ?hg ?ho ?hn ?hr ?_; (case ho => rfl); (case hg => rfl); (case hn => rfl); (case hr => first | (go_simp; done) | (go_simp; rfl)); intro w31 hw; have hg : w28.grownBy w31 (some go16) := (by rw [hw]; exact HP30.2); have hp_ : Kd.R (Kd.int .i64) 3 w31 w.heap.size (fun _ => True) (.slice (some ⟨go16, 0, none⟩) x3_1.length co26) y216 := (by rw [hw, Ny216.out]; exact HP30.1); clear HP30; replace BK200 := Aside0.mk (blk_grown (g := gb200) (o := .cells #[.int .i64 a0_0, .slice (some ad205) l0_1.length c0_1, .int .i64 a0_2] 90 (0, 0)) (up_ BK200.out) hg (Kd.R_ne HO_3.out BK200.out (by decide))); replace BK212 := Aside0.mk (blk_grown (g := gb212) (o := .cells #[.int .i64 ((rd_T166 l0_1 x4_1).f0), .int .i64 ((rd_T166 l0_1 x4_1).f1), .int .i64 ((rd_T166 l0_1 x4_1).f2)] 166 (0, 0)) (up_ BK212.out) hg (Kd.R_ne HO_3.out BK212.out (by decide))); replace HO_3 := Aside0.mk (hp_); replace HB := Aside0.mk ((by rw [hw]; exact below_set (HB.out) GB16.out : Below w.heap.size w w31)); clear hg hw hp_))
         go_roundg k1
         case measure => have := HK1.out; omega
         case rel => exact ⟨(y216), (wrap64 (x4_1 + 1)), rs_, H', ⟨by have := HK1.out; omega⟩, ⟨up_ HO_3.out⟩, ⟨up_ BK200.out⟩, ⟨up_ HB.out⟩⟩
        ·rw [if_neg c18] at H
         exact absurd H (by simp)
       ·replace H := ieq_ H; rcases H with ⟨-, c32b0, c32b1, H⟩ | ⟨c32, c32b0, c32b1, H⟩
        ·by_cases c33 : 2 < (x3_1.length : Int)
         ·rw [if_pos c33] at H
          have c33b0 : decide (2 < (x3_1.length : Int)) = true := decide_eq_true c33
          have c33b1 : decide (2 < x3_1.length) = true := decide_eq_true (by omega)
          clear c33
          obtain ⟨y218, hy218⟩ : ∃ y_ : List Int, y_ = (y214.set (2 : Int).toNat (wrap64 ((rd y214 2) + 1))) := ⟨_, rfl⟩
          replace H : (spec_FootMarks.l0 k1 y218 (wrap64 (x4_1 + 1)) a0_0 l0_1 a0_2) = some r := rh_ hy218 H
          have Ny218 := Aside0.mk hy218
          clear hy218
          have H' := Aside0.mk H
          clear H
          obtain ⟨hcz35_0, hcz35_1, hcz35_2⟩ := c3_ BK200
          have hfz35_0 := blk_frozen BK200.out 0
          have hfz35_1 := blk_frozen BK200.out 1
          have hfz35_2 := blk_frozen BK200.out 2
          have p211 : 0 ≤ (x4_1 : Int) := od_
          have q211 : x4_1 < (l0_1.length : Int) := od_
          obtain ⟨ad211, e211, hx211_0, hx211_1, hx211_2⟩ := at_T166 HR0_1.out x4_1 p211 q211
          obtain rfl : ad205 = ad211 := (by injection e211)
          replace hx211_0 := bh_ HB hx211_0
          replace hx211_1 := bh_ HB hx211_1
          replace hx211_2 := bh_ HB hx211_2
          replace p211 := eq_true p211
          replace q211 := eq_true q211
          try go_wp2_with (first | ((with_reducible refine gd_ 5 ?_); refine bx_ 5 #[.int .i64 0, .int .i64 0, .int .i64 0] 166 ?_; intro gb212 hg w36 hbox hb; replace HO_3 := Aside0.mk (Kd.R_below (up_ HO_3.out) hb); have BK212 := Aside0.mk (hbox); have GW212 := gw_ HB hg; have GE212 := gw_ HB hg; replace HB := bs_ HB hb; have NB200_212 := Aside0.mk ((by rw [hg]; exact Nat.ne_of_lt (blk_lt (g := gb200) (o := .cells #[.int .i64 a0_0, .slice (some ad205) l0_1.length c0_1, .int .i64 a0_2] 90 (0, 0)) (up_ BK200.out)) : gb200 ≠ gb212)); have NB212_200 := Aside0.mk ((by rw [hg]; exact Nat.ne_of_gt (blk_lt (g := gb200) (o := .cells #[.int .i64 a0_0, .slice (some ad205) l0_1.length c0_1, .int .i64 a0_2] 90 (0, 0)) (up_ BK200.out)) : gb212 ≠ gb200)); replace BK200 := bb_ BK200 hb; clear hb hbox hg; have hnb37 := NB212_200.out; have hnc37 := NB200_212.out; obtain ⟨hcz38_0, hcz38_1, hcz38_2⟩ := c3_ BK212; have hfz38_0 := blk_frozen BK212.out 0; have hfz38_1 := blk_frozen BK212.out 1; have hfz38_2 := blk_frozen BK212.out 2))
          have n0_ : Aside0 (Kd.R (Kd.int .i64) 3 (((w36.setCell ⟨gb212, 0, none⟩ (.int .i64 ((rd_T166 l0_1 x4_1).f0))).setCell ⟨gb212, 1, none⟩ (.int .i64 ((rd_T166 l0_1 x4_1).f1))).setCell ⟨gb212, 2, none⟩ (.int .i64 ((rd_T166 l0_1 x4_1).f2))) w.heap.size (fun _ => True) v209 x3_1) := ⟨by (with_reducible repeat (first | apply Kd.R_alloc | apply Kd.R_drewN | apply Kd.R_drew)); exact Kd.R_mono (Kd.R_far (p := ⟨gb212, 2, none⟩) (Kd.R_far (p := ⟨gb212, 1, none⟩) (Kd.R_far (p := ⟨gb212, 0, none⟩) (Kd.R_types HO_3.out BK212.out (by decide)) (fun _ hk => hk.2) (.int .i64 ((rd_T166 l0_1 x4_1).f0))) (fun _ hk => hk.2) (.int .i64 ((rd_T166 l0_1 x4_1).f1))) (fun _ hk => hk.2) (.int .i64 ((rd_T166 l0_1 x4_1).f2))) (fun _ hk => trivial)⟩
          have n1_ : Aside0 ((((w36.setCell ⟨gb212, 0, none⟩ (.int .i64 ((rd_T166 l0_1 x4_1).f0))).setCell ⟨gb212, 1, none⟩ (.int .i64 ((rd_T166 l0_1 x4_1).f1))).setCell ⟨gb212, 2, none⟩ (.int .i64 ((rd_T166 l0_1 x4_1).f2))).heap[gb200]? = some (.cells #[.int .i64 a0_0, .slice (some ad205) l0_1.length c0_1, .int .i64 a0_2] 90 (0, 0))) := ⟨by (with_reducible repeat (first | refine blk_drewN ?_ _ | refine blk_drew ?_ | refine blk_alloc ?_ _)); refine blk_far ?_ NB200_212.out _; (with_reducible repeat (first | refine blk_drewN ?_ _ | refine blk_drew ?_ | refine blk_alloc ?_ _)); refine blk_far ?_ NB200_212.out _; (with_reducible repeat (first | refine blk_drewN ?_ _ | refine blk_drew ?_ | refine blk_alloc ?_ _)); refine blk_far ?_ NB200_212.out _; (with_reducible repeat (first | refine blk_drewN ?_ _ | refine blk_drew ?_ | refine blk_alloc ?_ _)); exact BK200.out⟩
          have n2_ : Aside0 ((((w36.setCell ⟨gb212, 0, none⟩ (.int .i64 ((rd_T166 l0_1 x4_1).f0))).setCell ⟨gb212, 1, none⟩ (.int .i64 ((rd_T166 l0_1 x4_1).f1))).setCell ⟨gb212, 2, none⟩ (.int .i64 ((rd_T166 l0_1 x4_1).f2))).heap[gb212]? = some (.cells #[.int .i64 ((rd_T166 l0_1 x4_1).f0), .int .i64 ((rd_T166 l0_1 x4_1).f1), .int .i64 ((rd_T166 l0_1 x4_1).f2)] 166 (0, 0))) := ⟨by (with_reducible repeat (first | refine blk_drewN ?_ _ | refine blk_drew ?_ | refine blk_alloc ?_ _)); refine blk_put (cs := #[.int .i64 ((rd_T166 l0_1 x4_1).f0), .int .i64 ((rd_T166 l0_1 x4_1).f1), .int .i64 0]) ?_ 2 _ rfl; (with_reducible repeat (first | refine blk_drewN ?_ _ | refine blk_drew ?_ | refine blk_alloc ?_ _)); refine blk_put (cs := #[.int .i64 ((rd_T166 l0_1 x4_1).f0), .int .i64 0, .int .i64 0]) ?_ 1 _ rfl; (with_reducible repeat (first | refine blk_drewN ?_ _ | refine blk_drew ?_ | refine blk_alloc ?_ _)); refine blk_put (cs := #[.int .i64 0, .int .i64 0, .int .i64 0]) ?_ 0 _ rfl; (with_reducible repeat (first | refine blk_drewN ?_ _ | refine blk_drew ?_ | refine blk_alloc ?_ _)); exact BK212.out⟩
          have n3_ : Aside0 (Below w.heap.size w (((w36.setCell ⟨gb212, 0, none⟩ (.int .i64 ((rd_T166 l0_1 x4_1).f0))).setCell ⟨gb212, 1, none⟩ (.int .i64 ((rd_T166 l0_1 x4_1).f1))).setCell ⟨gb212, 2, none⟩ (.int .i64 ((rd_T166 l0_1 x4_1).f2)))) := ⟨up_ HB.out⟩
          (try clear HO_3)
          (try clear BK200)
          (try clear BK212)
          (try clear HB)
          generalize (((w36.setCell ⟨gb212, 0, none⟩ (.int .i64 ((rd_T166 l0_1 x4_1).f0))).setCell ⟨gb212, 1, none⟩ (.int .i64 ((rd_T166 l0_1 x4_1).f1))).setCell ⟨gb212, 2, none⟩ (.int .i64 ((rd_T166 l0_1 x4_1).f2))) = w39 at n0_ n1_ n2_ n3_ ⊢
          have HO_3 := n0_
          have BK200 := n1_
          have BK212 := n2_
          have HB := n3_
          clear n0_ n1_ n2_ n3_
          have n0_ := Aside0.mk (Kd.R_drew HO_3.out)
          have n1_ := Aside0.mk (blk_drew BK200.out)
          have n2_ := Aside0.mk (blk_drew BK212.out)
          have n3_ := Aside0.mk (below_drew1 HB.out)
          clear HO_3
          clear BK200
          clear BK212
          clear HB
          have HO_3 := n0_
          have BK200 := n1_
          have BK212 := n2_
          have HB := n3_
          clear n0_ n1_ n2_ n3_
          obtain ⟨Ao41, co41, eo41⟩ := Kd.R_slice HO_3.out
          (first | subst eo41 | (injection eo41 with f1_ f2_ f3_; have f4_ := f1_.symm; have f5_ := f3_.symm; clear f1_ f2_ f3_; subst f4_; subst f5_))
          have p213 : 0 ≤ (0 : Int) := (by omega)
          have q213 : 0 < (x3_1.length : Int) := od_
          obtain ⟨ad213, e213, hx213_0⟩ := Kd.at_int (Kd.R_reads' HO_3.out).2.2 0 p213 q213
          cases e213
          have qi213 : (0 < x3_1.length) = True := eq_true (by omega)
          (try rw [show ((0 : Int)).toNat = 0 from rfl] at hx213_0)
          (try rw [Addr.add_zero'] at hx213_0)
          replace p213 := eq_true p213
          replace q213 := eq_true q213
          have p16 : 0 ≤ (0 : Int) := (by omega)
          have q16 : (0 : Int) < ((x3_1.length : Int) : Int) := od_
          have qi16 : (0 < x3_1.length) = True := eq_true (by omega)
          obtain ⟨go16, co16, eo16, gb16, gl16, cl16, HG16⟩ := Kd.R_form HO_3.out (by omega)
          (first | cases eo16 | (injection eo16 with ea_ en_ ec_; (first | subst ea_ | (injection ea_ with ea_; subst ea_)); subst ec_; clear en_))
          have GB16 := Aside0.mk gb16
          have GG16 := Aside0.mk HG16
          clear gb16 gl16 HG16
          (first | simp only [add_plain] at hx213_0 | skip)
          obtain ⟨hx16_0, hf16_0⟩ := Kd.R_celln 0 HO_3.out (0 : Int) p16 q16
          (try rw [show ((0 : Int)).toNat = 0 from rfl] at hx16_0)
          (try simp only [Nat.reduceMul, Nat.zero_mul, Nat.zero_add, Nat.reduceAdd] at hx16_0)
          (try rw [show ((0 : Int)).toNat = 0 from rfl] at hf16_0)
          (try simp only [Nat.reduceMul, Nat.zero_mul, Nat.zero_add, Nat.reduceAdd] at hf16_0)
          replace p16 := eq_true p16
          replace q16 := eq_true q16
          have HP42 := Kd.R_putn HO_3.out (0 : Int) (wrap64 ((rd x3_1 0) - ((rd_T166 l0_1 x4_1).f1)))
          rw [← Ny214.out] at HP42
          have HQ42 := Aside0.mk HP42
          clear HP42
          refine start_ (n := 9) (S := fun w' => w'.cell? ⟨gb212, 0, none⟩ = some (.int .i64 ((rd_T166 l0_1 x4_1).f0)) ∧ w'.cell? ⟨gb212, 1, none⟩ = some (.int .i64 ((rd_T166 l0_1 x4_1).f1)) ∧ w'.cell? ⟨gb212, 2, none⟩ = some (.int .i64 ((rd_T166 l0_1 x4_1).f2)) ∧ w'.cell? ⟨go16, 0, none⟩ = some (.int .i64 (rd x3_1 0))) (ds := [8]) #[false, false, false, false, false, false, false, false, false] (by kernel_rfl) rfl rfl ⟨(blk_cell BK212.out 0).trans rfl, (blk_cell BK212.out 1).trans rfl, (blk_cell BK212.out 2).trans rfl, hx213_0⟩ (fun hHeld => ?_); refine with_tabW spec_FootMarks.tab8 spec_FootMarks.bits8 (fun HT_ HW_ => ?_)
          generalize w39.drew = w40 at HO_3 BK200 BK212 HB GG16 HQ42 hf16_0 hx16_0 hx213_0 hHeld ⊢
          refine pu_ 0 (some 48) ?_
          refine pu_ 1 (some 49) ?_
          refine pu_ 2 (some 50) ?_
          refine pu_ 4 (some 52) ?_
          refine tk_ 3 (some 51) hHeld ?_
          refine tk_ 5 (some 53) hHeld ?_
          refine pu_ 6 (some 54) ?_
          refine pu_ 7 (some 55) ?_
          refine last_ (i := 8) (N := none) #[true, true, true, true, true, true, true, true, true] rfl rfl (one_of HT_.out (by kernel_rfl)) (by decide) (fun K hK => ?_)
          refine skip_ (w1 := ?_) (by rfl) rfl ?_ ?_
          rotate_left
          ·go_simp
           rfl
          refine hK.out _ _ ?_
          clear hK K
          refine done_ (done_of HT_.out (by kernel_rfl)) ?_
          try have hnxgb212_ : gb212 ≠ go16 := fun e_ => (Kd.R_ne HO_3.out BK212.out (by decide)) (by rw [e_]; rfl)
          try have hmxgb212_ := Ne.symm hnxgb212_
          have n0_ : Aside0 (Kd.R (Kd.int .i64) 3 (w40.setCell ⟨go16, 0, none⟩ (.int .i64 (wrap64 ((rd x3_1 0) - ((rd_T166 l0_1 x4_1).f1))))) w.heap.size (fun _ => True) (.slice (some ⟨go16, 0, none⟩) x3_1.length co41) y214) := ⟨up_ HQ42.out⟩
          have n1_ : Aside0 ((w40.setCell ⟨go16, 0, none⟩ (.int .i64 (wrap64 ((rd x3_1 0) - ((rd_T166 l0_1 x4_1).f1))))).heap[gb200]? = some (.cells #[.int .i64 a0_0, .slice (some ad205) l0_1.length c0_1, .int .i64 a0_2] 90 (0, 0))) := ⟨by (with_reducible repeat (first | refine blk_drewN ?_ _ | refine blk_drew ?_ | refine blk_alloc ?_ _)); refine blk_far ?_ (by have h_ := Kd.R_ne HO_3.out BK200.out (by decide); intro e_; exact h_ (by rw [e_]; rfl)) _; (with_reducible repeat (first | refine blk_drewN ?_ _ | refine blk_drew ?_ | refine blk_alloc ?_ _)); exact BK200.out⟩
          have n2_ : Aside0 ((w40.setCell ⟨go16, 0, none⟩ (.int .i64 (wrap64 ((rd x3_1 0) - ((rd_T166 l0_1 x4_1).f1))))).heap[gb212]? = some (.cells #[.int .i64 ((rd_T166 l0_1 x4_1).f0), .int .i64 ((rd_T166 l0_1 x4_1).f1), .int .i64 ((rd_T166 l0_1 x4_1).f2)] 166 (0, 0))) := ⟨by (with_reducible repeat (first | refine blk_drewN ?_ _ | refine blk_drew ?_ | refine blk_alloc ?_ _)); refine blk_far ?_ (by have h_ := Kd.R_ne HO_3.out BK212.out (by decide); intro e_; exact h_ (by rw [e_]; rfl)) _; (with_reducible repeat (first | refine blk_drewN ?_ _ | refine blk_drew ?_ | refine blk_alloc ?_ _)); exact BK212.out⟩
          have n3_ : Aside0 (Below w.heap.size w (w40.setCell ⟨go16, 0, none⟩ (.int .i64 (wrap64 ((rd x3_1 0) - ((rd_T166 l0_1 x4_1).f1)))))) := ⟨up_ HB.out⟩
          (try clear HO_3)
          (try clear BK200)
          (try clear BK212)
          (try clear HB)
          generalize (w40.setCell ⟨go16, 0, none⟩ (.int .i64 (wrap64 ((rd x3_1 0) - ((rd_T166 l0_1 x4_1).f1))))) = w43 at n0_ n1_ n2_ n3_ ⊢
          have HO_3 := n0_
          have BK200 := n1_
          have BK212 := n2_
          have HB := n3_
          clear n0_ n1_ n2_ n3_
          obtain ⟨hcz44_0, hcz44_1, hcz44_2⟩ := c3_ BK212
          have hfz44_0 := blk_frozen BK212.out 0
          have hfz44_1 := blk_frozen BK212.out 1
          have hfz44_2 := blk_frozen BK212.out 2
          have p217 : 0 ≤ (2 : Int) := (by omega)
          have q217 : 2 < (y214.length : Int) := (by have h_ : (2 : Int) < ((x3_1.length : Int) : Int) := od_; first | (have e_ := (Kd.R_reads' HO_3.out).1; omega) | simpa only [Ny214.out, List.length_set] using h_)
          have ql217 : ((2 : Int) < ((x3_1.length : Int) : Int)) = True := eq_true (od_)
          (try have qn217 : (2 < x3_1.length) = True := eq_true (by have h_ : (2 : Int) < ((x3_1.length : Int) : Int) := od_; omega))
          obtain ⟨ad217, e217, hx217_0⟩ := Kd.at_int (Kd.R_reads' HO_3.out).2.2 2 p217 q217
          obtain rfl : (⟨go16, 0, none⟩ : Addr) = ad217 := (by injection e217)
          (first | simp only [add_plain] at hx217_0 | simp only [add_at] at hx217_0 | simp only [Addr.add, Nat.zero_add] at hx217_0 | skip)
          have qi217 : (2 < y214.length) = True := eq_true (by omega)
          (try rw [show ((2 : Int)).toNat = 2 from rfl] at hx217_0)
          replace p217 := eq_true p217
          replace q217 := eq_true q217
          have p34 : 0 ≤ (2 : Int) := (by omega)
          have q34 : (2 : Int) < ((x3_1.length : Int) : Int) := od_
          have qi34 : (2 < x3_1.length) = True := eq_true (by omega)
          obtain ⟨hx34_0, hf34_0⟩ := Kd.R_celln 0 HO_3.out (2 : Int) p34 q34
          (try rw [show ((2 : Int)).toNat = 2 from rfl] at hx34_0)
          (try simp only [Nat.reduceMul, Nat.zero_mul, Nat.zero_add, Nat.reduceAdd] at hx34_0)
          (try rw [show ((2 : Int)).toNat = 2 from rfl] at hf34_0)
          (try simp only [Nat.reduceMul, Nat.zero_mul, Nat.zero_add, Nat.reduceAdd] at hf34_0)
          replace p34 := eq_true p34
          replace q34 := eq_true q34
          obtain ⟨hy45_, hz45_⟩ := Kd.R_celln 0 HO_3.out (2 : Int) (by omega) (od_)
          (try simp only [Int.reduceToNat, Int.toNat_zero, Int.toNat_ofNat, Nat.reduceMul, Nat.zero_mul, Nat.zero_add] at hy45_ hz45_)
          (try rw [show ((2 : Int)).toNat = 2 from rfl] at hy45_)
          (try rw [show ((2 : Int)).toNat = 2 from rfl] at hz45_)
          have HP45 := Kd.R_putg HO_3.out (2 : Int) (wrap64 ((rd y214 2) + 1))
          try go_wp2_with (first | ((with_reducible refine gate_store (t := 3) (p := 81) rfl ?_); refine store_event (t := 3) (p := 81) (v := ?vo_w46) (w1 := (w43.setCell ⟨go16, (2 : Int).toNat, none⟩ (.int .i64 (wrap64 ((rd y214 2) + 1))))) ?hg ?ho ?hn ?hr ?_; (case ho => rfl); (case hg => rfl); (case hn => rfl); (case hr => first | (go_simp; done) | (go_simp; rfl)); intro w46 hw; have hg : w43.grownBy w46 (some go16) := (by rw [hw]; exact HP45.2); have hp_ : Kd.R (Kd.int .i64) 3 w46 w.heap.size (fun _ => True) (.slice (some ⟨go16, 0, none⟩) x3_1.length co41) y218 := (by rw [hw, Ny218.out]; exact HP45.1); clear HP45; replace BK200 := Aside0.mk (blk_grown (g := gb200) (o := .cells #[.int .i64 a0_0, .slice (some ad205) l0_1.length c0_1, .int .i64 a0_2] 90 (0, 0)) (up_ BK200.out) hg (Kd.R_ne HO_3.out BK200.out (by decide))); replace BK212 := Aside0.mk (blk_grown (g := gb212) (o := .cells #[.int .i64 ((rd_T166 l0_1 x4_1).f0), .int .i64 ((rd_T166 l0_1 x4_1).f1), .int .i64 ((rd_T166 l0_1 x4_1).f2)] 166 (0, 0)) (up_ BK212.out) hg (Kd.R_ne HO_3.out BK212.out (by decide))); replace HO_3 := Aside0.mk (hp_); replace HB := Aside0.mk ((by rw [hw]; exact below_set (HB.out) GB16.out : Below w.heap.size w w46)); clear hg hw hp_))
          go_roundg k1
          case measure => have := HK1.out; omega
          case rel => exact ⟨(y218), (wrap64 (x4_1 + 1)), rs_, H', ⟨by have := HK1.out; omega⟩, ⟨up_ HO_3.out⟩, ⟨up_ BK200.out⟩, ⟨up_ HB.out⟩⟩
         ·rw [if_neg c33] at H
          exact absurd H (by simp)
        ·by_cases c47 : 3 < (x3_1.length : Int)
         ·rw [if_pos c47] at H
          have c47b0 : decide (3 < (x3_1.length : Int)) = true := decide_eq_true c47
          have c47b1 : decide (3 < x3_1.length) = true := decide_eq_true (by omega)
          clear c47
          obtain ⟨y220, hy220⟩ : ∃ y_ : List Int, y_ = (y214.set (3 : Int).toNat (wrap64 ((rd y214 3) + 1))) := ⟨_, rfl⟩
          replace H : (spec_FootMarks.l0 k1 y220 (wrap64 (x4_1 + 1)) a0_0 l0_1 a0_2) = some r := rh_ hy220 H
          have Ny220 := Aside0.mk hy220
          clear hy220
          have H' := Aside0.mk H
          clear H
          obtain ⟨hcz49_0, hcz49_1, hcz49_2⟩ := c3_ BK200
          have hfz49_0 := blk_frozen BK200.out 0
          have hfz49_1 := blk_frozen BK200.out 1
          have hfz49_2 := blk_frozen BK200.out 2
          have p211 : 0 ≤ (x4_1 : Int) := od_
          have q211 : x4_1 < (l0_1.length : Int) := od_
          obtain ⟨ad211, e211, hx211_0, hx211_1, hx211_2⟩ := at_T166 HR0_1.out x4_1 p211 q211
          obtain rfl : ad205 = ad211 := (by injection e211)
          replace hx211_0 := bh_ HB hx211_0
          replace hx211_1 := bh_ HB hx211_1
          replace hx211_2 := bh_ HB hx211_2
          replace p211 := eq_true p211
          replace q211 := eq_true q211
          try go_wp2_with (first | ((with_reducible refine gd_ 5 ?_); refine bx_ 5 #[.int .i64 0, .int .i64 0, .int .i64 0] 166 ?_; intro gb212 hg w50 hbox hb; replace HO_3 := Aside0.mk (Kd.R_below (up_ HO_3.out) hb); have BK212 := Aside0.mk (hbox); have GW212 := gw_ HB hg; have GE212 := gw_ HB hg; replace HB := bs_ HB hb; have NB200_212 := Aside0.mk ((by rw [hg]; exact Nat.ne_of_lt (blk_lt (g := gb200) (o := .cells #[.int .i64 a0_0, .slice (some ad205) l0_1.length c0_1, .int .i64 a0_2] 90 (0, 0)) (up_ BK200.out)) : gb200 ≠ gb212)); have NB212_200 := Aside0.mk ((by rw [hg]; exact Nat.ne_of_gt (blk_lt (g := gb200) (o := .cells #[.int .i64 a0_0, .slice (some ad205) l0_1.length c0_1, .int .i64 a0_2] 90 (0, 0)) (up_ BK200.out)) : gb212 ≠ gb200)); replace BK200 := bb_ BK200 hb; clear hb hbox hg; have hnb51 := NB212_200.out; have hnc51 := NB200_212.out; obtain ⟨hcz52_0, hcz52_1, hcz52_2⟩ := c3_ BK212; have hfz52_0 := blk_frozen BK212.out 0; have hfz52_1 := blk_frozen BK212.out 1; have hfz52_2 := blk_frozen BK212.out 2))
          have n0_ : Aside0 (Kd.R (Kd.int .i64) 3 (((w50.setCell ⟨gb212, 0, none⟩ (.int .i64 ((rd_T166 l0_1 x4_1).f0))).setCell ⟨gb212, 1, none⟩ (.int .i64 ((rd_T166 l0_1 x4_1).f1))).setCell ⟨gb212, 2, none⟩ (.int .i64 ((rd_T166 l0_1 x4_1).f2))) w.heap.size (fun _ => True) v209 x3_1) := ⟨by (with_reducible repeat (first | apply Kd.R_alloc | apply Kd.R_drewN | apply Kd.R_drew)); exact Kd.R_mono (Kd.R_far (p := ⟨gb212, 2, none⟩) (Kd.R_far (p := ⟨gb212, 1, none⟩) (Kd.R_far (p := ⟨gb212, 0, none⟩) (Kd.R_types HO_3.out BK212.out (by decide)) (fun _ hk => hk.2) (.int .i64 ((rd_T166 l0_1 x4_1).f0))) (fun _ hk => hk.2) (.int .i64 ((rd_T166 l0_1 x4_1).f1))) (fun _ hk => hk.2) (.int .i64 ((rd_T166 l0_1 x4_1).f2))) (fun _ hk => trivial)⟩
          have n1_ : Aside0 ((((w50.setCell ⟨gb212, 0, none⟩ (.int .i64 ((rd_T166 l0_1 x4_1).f0))).setCell ⟨gb212, 1, none⟩ (.int .i64 ((rd_T166 l0_1 x4_1).f1))).setCell ⟨gb212, 2, none⟩ (.int .i64 ((rd_T166 l0_1 x4_1).f2))).heap[gb200]? = some (.cells #[.int .i64 a0_0, .slice (some ad205) l0_1.length c0_1, .int .i64 a0_2] 90 (0, 0))) := ⟨by (with_reducible repeat (first | refine blk_drewN ?_ _ | refine blk_drew ?_ | refine blk_alloc ?_ _)); refine blk_far ?_ NB200_212.out _; (with_reducible repeat (first | refine blk_drewN ?_ _ | refine blk_drew ?_ | refine blk_alloc ?_ _)); refine blk_far ?_ NB200_212.out _; (with_reducible repeat (first | refine blk_drewN ?_ _ | refine blk_drew ?_ | refine blk_alloc ?_ _)); refine blk_far ?_ NB200_212.out _; (with_reducible repeat (first | refine blk_drewN ?_ _ | refine blk_drew ?_ | refine blk_alloc ?_ _)); exact BK200.out⟩
          have n2_ : Aside0 ((((w50.setCell ⟨gb212, 0, none⟩ (.int .i64 ((rd_T166 l0_1 x4_1).f0))).setCell ⟨gb212, 1, none⟩ (.int .i64 ((rd_T166 l0_1 x4_1).f1))).setCell ⟨gb212, 2, none⟩ (.int .i64 ((rd_T166 l0_1 x4_1).f2))).heap[gb212]? = some (.cells #[.int .i64 ((rd_T166 l0_1 x4_1).f0), .int .i64 ((rd_T166 l0_1 x4_1).f1), .int .i64 ((rd_T166 l0_1 x4_1).f2)] 166 (0, 0))) := ⟨by (with_reducible repeat (first | refine blk_drewN ?_ _ | refine blk_drew ?_ | refine blk_alloc ?_ _)); refine blk_put (cs := #[.int .i64 ((rd_T166 l0_1 x4_1).f0), .int .i64 ((rd_T166 l0_1 x4_1).f1), .int .i64 0]) ?_ 2 _ rfl; (with_reducible repeat (first | refine blk_drewN ?_ _ | refine blk_drew ?_ | refine blk_alloc ?_ _)); refine blk_put (cs := #[.int .i64 ((rd_T166 l0_1 x4_1).f0), .int .i64 0, .int .i64 0]) ?_ 1 _ rfl; (with_reducible repeat (first | refine blk_drewN ?_ _ | refine blk_drew ?_ | refine blk_alloc ?_ _)); refine blk_put (cs := #[.int .i64 0, .int .i64 0, .int .i64 0]) ?_ 0 _ rfl; (with_reducible repeat (first | refine blk_drewN ?_ _ | refine blk_drew ?_ | refine blk_alloc ?_ _)); exact BK212.out⟩
          have n3_ : Aside0 (Below w.heap.size w (((w50.setCell ⟨gb212, 0, none⟩ (.int .i64 ((rd_T166 l0_1 x4_1).f0))).setCell ⟨gb212, 1, none⟩ (.int .i64 ((rd_T166 l0_1 x4_1).f1))).setCell ⟨gb212, 2, none⟩ (.int .i64 ((rd_T166 l0_1 x4_1).f2)))) := ⟨up_ HB.out⟩
          (try clear HO_3)
          (try clear BK200)
          (try clear BK212)
          (try clear HB)
          generalize (((w50.setCell ⟨gb212, 0, none⟩ (.int .i64 ((rd_T166 l0_1 x4_1).f0))).setCell ⟨gb212, 1, none⟩ (.int .i64 ((rd_T166 l0_1 x4_1).f1))).setCell ⟨gb212, 2, none⟩ (.int .i64 ((rd_T166 l0_1 x4_1).f2))) = w53 at n0_ n1_ n2_ n3_ ⊢
          have HO_3 := n0_
          have BK200 := n1_
          have BK212 := n2_
          have HB := n3_
          clear n0_ n1_ n2_ n3_
          have n0_ := Aside0.mk (Kd.R_drew HO_3.out)
          have n1_ := Aside0.mk (blk_drew BK200.out)
          have n2_ := Aside0.mk (blk_drew BK212.out)
          have n3_ := Aside0.mk (below_drew1 HB.out)
          clear HO_3
          clear BK200
          clear BK212
          clear HB
          have HO_3 := n0_
          have BK200 := n1_
          have BK212 := n2_
          have HB := n3_
          clear n0_ n1_ n2_ n3_
          obtain ⟨Ao55, co55, eo55⟩ := Kd.R_slice HO_3.out
          (first | subst eo55 | (injection eo55 with f1_ f2_ f3_; have f4_ := f1_.symm; have f5_ := f3_.symm; clear f1_ f2_ f3_; subst f4_; subst f5_))
          have p213 : 0 ≤ (0 : Int) := (by omega)
          have q213 : 0 < (x3_1.length : Int) := od_
          obtain ⟨ad213, e213, hx213_0⟩ := Kd.at_int (Kd.R_reads' HO_3.out).2.2 0 p213 q213
          cases e213
          have qi213 : (0 < x3_1.length) = True := eq_true (by omega)
          (try rw [show ((0 : Int)).toNat = 0 from rfl] at hx213_0)
          (try rw [Addr.add_zero'] at hx213_0)
          replace p213 := eq_true p213
          replace q213 := eq_true q213
          have p16 : 0 ≤ (0 : Int) := (by omega)
          have q16 : (0 : Int) < ((x3_1.length : Int) : Int) := od_
          have qi16 : (0 < x3_1.length) = True := eq_true (by omega)
          obtain ⟨go16, co16, eo16, gb16, gl16, cl16, HG16⟩ := Kd.R_form HO_3.out (by omega)
          (first | cases eo16 | (injection eo16 with ea_ en_ ec_; (first | subst ea_ | (injection ea_ with ea_; subst ea_)); subst ec_; clear en_))
          have GB16 := Aside0.mk gb16
          have GG16 := Aside0.mk HG16
          clear gb16 gl16 HG16
          (first | simp only [add_plain] at hx213_0 | skip)
          obtain ⟨hx16_0, hf16_0⟩ := Kd.R_celln 0 HO_3.out (0 : Int) p16 q16
          (try rw [show ((0 : Int)).toNat = 0 from rfl] at hx16_0)
          (try simp only [Nat.reduceMul, Nat.zero_mul, Nat.zero_add, Nat.reduceAdd] at hx16_0)
          (try rw [show ((0 : Int)).toNat = 0 from rfl] at hf16_0)
          (try simp only [Nat.reduceMul, Nat.zero_mul, Nat.zero_add, Nat.reduceAdd] at hf16_0)
          replace p16 := eq_true p16
          replace q16 := eq_true q16
          have HP56 := Kd.R_putn HO_3.out (0 : Int) (wrap64 ((rd x3_1 0) - ((rd_T166 l0_1 x4_1).f1)))
          rw [← Ny214.out] at HP56
          have HQ56 := Aside0.mk HP56
          clear HP56
          refine start_ (n := 9) (S := fun w' => w'.cell? ⟨gb212, 0, none⟩ = some (.int .i64 ((rd_T166 l0_1 x4_1).f0)) ∧ w'.cell? ⟨gb212, 1, none⟩ = some (.int .i64 ((rd_T166 l0_1 x4_1).f1)) ∧ w'.cell? ⟨gb212, 2, none⟩ = some (.int .i64 ((rd_T166 l0_1 x4_1).f2)) ∧ w'.cell? ⟨go16, 0, none⟩ = some (.int .i64 (rd x3_1 0))) (ds := [8]) #[false, false, false, false, false, false, false, false, false] (by kernel_rfl) rfl rfl ⟨(blk_cell BK212.out 0).trans rfl, (blk_cell BK212.out 1).trans rfl, (blk_cell BK212.out 2).trans rfl, hx213_0⟩ (fun hHeld => ?_); refine with_tabW spec_FootMarks.tab8 spec_FootMarks.bits8 (fun HT_ HW_ => ?_)
          generalize w53.drew = w54 at HO_3 BK200 BK212 HB GG16 HQ56 hf16_0 hx16_0 hx213_0 hHeld ⊢
          refine pu_ 0 (some 48) ?_
          refine pu_ 1 (some 49) ?_
          refine pu_ 2 (some 50) ?_
          refine pu_ 4 (some 52) ?_
          refine tk_ 3 (some 51) hHeld ?_
          refine tk_ 5 (some 53) hHeld ?_
          refine pu_ 6 (some 54) ?_
          refine pu_ 7 (some 55) ?_
          refine last_ (i := 8) (N := none) #[true, true, true, true, true, true, true, true, true] rfl rfl (one_of HT_.out (by kernel_rfl)) (by decide) (fun K hK => ?_)
          refine skip_ (w1 := ?_) (by rfl) rfl ?_ ?_
          rotate_left
          ·go_simp
           rfl
          refine hK.out _ _ ?_
          clear hK K
          refine done_ (done_of HT_.out (by kernel_rfl)) ?_
          try have hnxgb212_ : gb212 ≠ go16 := fun e_ => (Kd.R_ne HO_3.out BK212.out (by decide)) (by rw [e_]; rfl)
          try have hmxgb212_ := Ne.symm hnxgb212_
          have n0_ : Aside0 (Kd.R (Kd.int .i64) 3 (w54.setCell ⟨go16, 0, none⟩ (.int .i64 (wrap64 ((rd x3_1 0) - ((rd_T166 l0_1 x4_1).f1))))) w.heap.size (fun _ => True) (.slice (some ⟨go16, 0, none⟩) x3_1.length co55) y214) := ⟨up_ HQ56.out⟩
          have n1_ : Aside0 ((w54.setCell ⟨go16, 0, none⟩ (.int .i64 (wrap64 ((rd x3_1 0) - ((rd_T166 l0_1 x4_1).f1))))).heap[gb200]? = some (.cells #[.int .i64 a0_0, .slice (some ad205) l0_1.length c0_1, .int .i64 a0_2] 90 (0, 0))) := ⟨by (with_reducible repeat (first | refine blk_drewN ?_ _ | refine blk_drew ?_ | refine blk_alloc ?_ _)); refine blk_far ?_ (by have h_ := Kd.R_ne HO_3.out BK200.out (by decide); intro e_; exact h_ (by rw [e_]; rfl)) _; (with_reducible repeat (first | refine blk_drewN ?_ _ | refine blk_drew ?_ | refine blk_alloc ?_ _)); exact BK200.out⟩
          have n2_ : Aside0 ((w54.setCell ⟨go16, 0, none⟩ (.int .i64 (wrap64 ((rd x3_1 0) - ((rd_T166 l0_1 x4_1).f1))))).heap[gb212]? = some (.cells #[.int .i64 ((rd_T166 l0_1 x4_1).f0), .int .i64 ((rd_T166 l0_1 x4_1).f1), .int .i64 ((rd_T166 l0_1 x4_1).f2)] 166 (0, 0))) := ⟨by (with_reducible repeat (first | refine blk_drewN ?_ _ | refine blk_drew ?_ | refine blk_alloc ?_ _)); refine blk_far ?_ (by have h_ := Kd.R_ne HO_3.out BK212.out (by decide); intro e_; exact h_ (by rw [e_]; rfl)) _; (with_reducible repeat (first | refine blk_drewN ?_ _ | refine blk_drew ?_ | refine blk_alloc ?_ _)); exact BK212.out⟩
          have n3_ : Aside0 (Below w.heap.size w (w54.setCell ⟨go16, 0, none⟩ (.int .i64 (wrap64 ((rd x3_1 0) - ((rd_T166 l0_1 x4_1).f1)))))) := ⟨up_ HB.out⟩
          (try clear HO_3)
          (try clear BK200)
          (try clear BK212)
          (try clear HB)
          generalize (w54.setCell ⟨go16, 0, none⟩ (.int .i64 (wrap64 ((rd x3_1 0) - ((rd_T166 l0_1 x4_1).f1))))) = w57 at n0_ n1_ n2_ n3_ ⊢
          have HO_3 := n0_
          have BK200 := n1_
          have BK212 := n2_
          have HB := n3_
          clear n0_ n1_ n2_ n3_
          obtain ⟨hcz58_0, hcz58_1, hcz58_2⟩ := c3_ BK212
          have hfz58_0 := blk_frozen BK212.out 0
          have hfz58_1 := blk_frozen BK212.out 1
          have hfz58_2 := blk_frozen BK212.out 2
          have p219 : 0 ≤ (3 : Int) := (by omega)
          have q219 : 3 < (y214.length : Int) := (by have h_ : (3 : Int) < ((x3_1.length : Int) : Int) := od_; first | (have e_ := (Kd.R_reads' HO_3.out).1; omega) | simpa only [Ny214.out, List.length_set] using h_)
          have ql219 : ((3 : Int) < ((x3_1.length : Int) : Int)) = True := eq_true (od_)
          (try have qn219 : (3 < x3_1.length) = True := eq_true (by have h_ : (3 : Int) < ((x3_1.length : Int) : Int) := od_; omega))
          obtain ⟨ad219, e219, hx219_0⟩ := Kd.at_int (Kd.R_reads' HO_3.out).2.2 3 p219 q219
          obtain rfl : (⟨go16, 0, none⟩ : Addr) = ad219 := (by injection e219)
          (first | simp only [add_plain] at hx219_0 | simp only [add_at] at hx219_0 | simp only [Addr.add, Nat.zero_add] at hx219_0 | skip)
          have qi219 : (3 < y214.length) = True := eq_true (by omega)
          (try rw [show ((3 : Int)).toNat = 3 from rfl] at hx219_0)
          replace p219 := eq_true p219
          replace q219 := eq_true q219
          have p48 : 0 ≤ (3 : Int) := (by omega)
          have q48 : (3 : Int) < ((x3_1.length : Int) : Int) := od_
          have qi48 : (3 < x3_1.length) = True := eq_true (by omega)
          obtain ⟨hx48_0, hf48_0⟩ := Kd.R_celln 0 HO_3.out (3 : Int) p48 q48
          (try rw [show ((3 : Int)).toNat = 3 from rfl] at hx48_0)
          (try simp only [Nat.reduceMul, Nat.zero_mul, Nat.zero_add, Nat.reduceAdd] at hx48_0)
          (try rw [show ((3 : Int)).toNat = 3 from rfl] at hf48_0)
          (try simp only [Nat.reduceMul, Nat.zero_mul, Nat.zero_add, Nat.reduceAdd] at hf48_0)
          replace p48 := eq_true p48
          replace q48 := eq_true q48
          obtain ⟨hy59_, hz59_⟩ := Kd.R_celln 0 HO_3.out (3 : Int) (by omega) (od_)
          (try simp only [Int.reduceToNat, Int.toNat_zero, Int.toNat_ofNat, Nat.reduceMul, Nat.zero_mul, Nat.zero_add] at hy59_ hz59_)
          (try rw [show ((3 : Int)).toNat = 3 from rfl] at hy59_)
          (try rw [show ((3 : Int)).toNat = 3 from rfl] at hz59_)
          have HP59 := Kd.R_putg HO_3.out (3 : Int) (wrap64 ((rd y214 3) + 1))
          try go_wp2_with (first | ((with_reducible refine gate_store (t := 3) (p := 61) rfl ?_); refine store_event (t := 3) (p := 61) (v := ?vo_w60) (w1 := (w57.setCell ⟨go16, (3 : Int).toNat, none⟩ (.int .i64 (wrap64 ((rd y214 3) + 1))))) ?hg ?ho ?hn ?hr ?_; (case ho => rfl); (case hg => rfl); (case hn => rfl); (case hr => first | (go_simp; done) | (go_simp; rfl)); intro w60 hw; have hg : w57.grownBy w60 (some go16) := (by rw [hw]; exact HP59.2); have hp_ : Kd.R (Kd.int .i64) 3 w60 w.heap.size (fun _ => True) (.slice (some ⟨go16, 0, none⟩) x3_1.length co55) y220 := (by rw [hw, Ny220.out]; exact HP59.1); clear HP59; replace BK200 := Aside0.mk (blk_grown (g := gb200) (o := .cells #[.int .i64 a0_0, .slice (some ad205) l0_1.length c0_1, .int .i64 a0_2] 90 (0, 0)) (up_ BK200.out) hg (Kd.R_ne HO_3.out BK200.out (by decide))); replace BK212 := Aside0.mk (blk_grown (g := gb212) (o := .cells #[.int .i64 ((rd_T166 l0_1 x4_1).f0), .int .i64 ((rd_T166 l0_1 x4_1).f1), .int .i64 ((rd_T166 l0_1 x4_1).f2)] 166 (0, 0)) (up_ BK212.out) hg (Kd.R_ne HO_3.out BK212.out (by decide))); replace HO_3 := Aside0.mk (hp_); replace HB := Aside0.mk ((by rw [hw]; exact below_set (HB.out) GB16.out : Below w.heap.size w w60)); clear hg hw hp_))
          go_roundg k1
          case measure => have := HK1.out; omega
          case rel => exact ⟨(y220), (wrap64 (x4_1 + 1)), rs_, H', ⟨by have := HK1.out; omega⟩, ⟨up_ HO_3.out⟩, ⟨up_ BK200.out⟩, ⟨up_ HB.out⟩⟩
         ·rw [if_neg c47] at H
          exact absurd H (by simp)
      ·rw [if_neg c15] at H
       exact absurd H (by simp)
     ·obtain rfl := Option.some.inj H
      obtain ⟨hcz61_0, hcz61_1, hcz61_2⟩ := c3_ BK200
      have hfz61_0 := blk_frozen BK200.out 0
      have hfz61_1 := blk_frozen BK200.out 1
      have hfz61_2 := blk_frozen BK200.out 2
      go_wp2
      go_ret
      exact ⟨_, re_, by (with_reducible repeat (first | apply Kd.R_alloc | apply Kd.R_drewN | apply Kd.R_drew)); exact HO_3.out, up_ HB.out⟩
  ·rw [if_neg c4] at H
   exact absurd H (by simp)
 ·obtain ⟨y202, hy202⟩ : ∃ y_ : List Int, y_ = (([] : List Int)) := ⟨_, rfl⟩
  replace H : (some y202) = some r := rh_ hy202 H
  have Ny202 := Aside0.mk hy202
  clear hy202
  obtain rfl := Option.some.inj H
  go_enter Try.func172, Try.ntmps172
  go_wp2_with (first | ((with_reducible refine gd_ 1 ?_); refine bx_ 1 #[.int .i64 a0_0, .slice A0_1 l0_1.length c0_1, .int .i64 a0_2] 90 ?_; intro gb200 hg w62 hbox hb; have BK200 := Aside0.mk (hbox); have GW200 := gw_ HB hg; have GE200 := gw_ HB hg; replace HB := bs_ HB hb; clear hb hbox hg; obtain ⟨hcz63_0, hcz63_1, hcz63_2⟩ := c3_ BK200; have hfz63_0 := blk_frozen BK200.out 0; have hfz63_1 := blk_frozen BK200.out 1; have hfz63_2 := blk_frozen BK200.out 2) | ((with_reducible refine gc_ 119 ?_); refine gl_ (some 7) Try.func119 (spec_IsFooting.calls k a0_0 _ _ l0_1 a0_2 false _ (Kd.C_below HR0_1.out (up_ HB.out)) HC0_1.out A2.out) ?_; rintro e w64 ⟨rfl, hb⟩; refine ⟨_, rfl, ?_⟩; replace BK200 := bb_ BK200 hb; replace HB := bs_ HB hb; (try clear hb); (try clear hb2); (try clear hk); (try clear hi)) | ((with_reducible refine gd_ 9 ?_); refine Kd.R_lit (Kd.int .i64) _ 3 ?hg (N := 9) ?hd (xs := ([] : List Int)) (inner := []) (ok := fun _ => True) (okp := fun _ => True) ?hr ?hp (fun _ hk => hk) trivial (Below.refl _ _) (Nat.le_refl _) (by simp) ?_; (case hd => rfl); (case hg => rfl); (case hr => first | (go_simp; done) | (go_simp; rfl)); (case hp => exact (Reps.none _ _)); intro v203 w65 ho66 hb hg_ hnew_; clear hg_ hnew_; (first | rw [← Ny202.out] at ho66 | (simp only [Int.reduceToNat] at ho66; rw [← Ny202.out] at ho66)); have HO204 := Aside0.mk (Kd.R_lower ho66 (below_size (up_ HB.out))); replace BK200 := bb_ BK200 hb; replace HB := bs_ HB hb; clear hb ho66))
  go_ret
  exact ⟨_, re_, by (with_reducible repeat (first | apply Kd.R_alloc | apply Kd.R_drewN | apply Kd.R_drew)); exact HO204.out, up_ HB.out⟩

end Go.Proofs.Ytkddpilambnicaa.PFnExactFootRows
