/- Walks of Go functions that the law FnExactFootRows uses: written by this session's program out of the kit's printer; each shows that a call comes to the answers of the Lean function beside it. Conditions: each contract's own. -/
import Derived.Test.YtkddpilambnicaaPFnExactFootRowsx0
import Derived.Test.YtkddpilambnicaaPFnExactFootRowsx9
namespace Go.Proofs.Ytkddpilambnicaa.PFnExactFootRows
open Go.RowKit Go.Proofs.YtkddpilambnicaaW.PrintWords Go.Proofs.YtkddpilambnicaaW.PrintLast Go.Proofs.YtkddpilambnicaaW.PrintMore Go.Proofs.Ytkddpilambnicaa.Mac Go.Proofs.Ytkddpilambnicaa.Law
attribute [local go_sem] max2_int min2_int max_two min_two max_three min_three max_four min_four   -- for this text's walks alone
set_option linter.unusedVariables false
set_option linter.unusedSimpArgs false

/-! ### impl_FootMarks: function 178 -/
def impl_FootMarks.l0 : Nat → List Int → List (S166) → Int → Int → Option (List Int)
 | 0, _, _, _, _ => none
 | k + 1, x3, x36, x37, x38 => if x38 < x37 then (if 0 ≤ x38 then (if x38 < (x36.length : Int) then (if 0 < (x3.length : Int) then ((some (x3.set (0 : Int).toNat (wrap64 ((rd x3 0) - ((rd_T166 x36 x38).f1))) : List Int)).bind fun y381 => (if ((rd_T166 x36 x38).f1) = 1 then (if 1 < (x3.length : Int) then (impl_FootMarks.l0 k (y381.set (1 : Int).toNat (wrap64 ((rd y381 1) + 1))) x36 x37 (wrap64 (x38 + 1))) else (none)) else (if ((rd_T166 x36 x38).f2) = 1 then (if 2 < (x3.length : Int) then (impl_FootMarks.l0 k (y381.set (2 : Int).toNat (wrap64 ((rd y381 2) + 1))) x36 x37 (wrap64 (x38 + 1))) else (none)) else (if 3 < (x3.length : Int) then (impl_FootMarks.l0 k (y381.set (3 : Int).toNat (wrap64 ((rd y381 3) + 1))) x36 x37 (wrap64 (x38 + 1))) else (none))))) else (none)) else (none)) else (none)) else (some x3)
def impl_FootMarks.f (k : Nat) (a0_0 : Int) (l0_1 : List (S166)) (a0_2 : Int) : Option (List Int) := (impl_IsFooting.f k a0_0 l0_1 a0_2).bind fun t371 => (if t371 = true then (if 0 < (l0_1.length : Int) then (if 0 ≤ a0_2 then (if a0_2 < (l0_1.length : Int) then (impl_FootMarks.l0 k (([a0_0, 0, 0, 0, (rd_T166 l0_1 0).f0, wrap64 ((wrap64 (a0_0 - ((rd_T166 l0_1 a0_2).f0))) - ((rd_T166 l0_1 a0_2).f1))] : List Int)) l0_1 (l0_1.length : Int) 0) else (none)) else (none)) else (none)) else (some ([] : List Int)))
def impl_FootMarks.T3 : Bool × List (List Nat × List Nat) := (true, [([], []), ([0], [0]), ([], []), ([2], [2]), ([3], [3]), ([4], [4]), ([5], [5]), ([], []), ([7], [7]), ([], []), ([9], [9]), ([], []), ([11], [11]), ([10, 12], [10, 12]), ([13], [13]), ([14], [14]), ([8, 15], [8, 15]), ([], []), ([17], [17]), ([], []), ([19], [19]), ([18, 20], [18, 20]), ([21], [21]), ([22], [22]), ([16, 23], [16, 23]), ([1, 6, 24], [1, 6, 24]), ([25, 0, 1, 2, 3, 4, 5, 6, 7, 8, 9, 10, 11, 12, 13, 14, 15, 16, 17, 18, 19, 20, 21, 22, 23, 24, 25], [25])])
def impl_FootMarks.B3 : List Nat := [0, 1, 0, 4, 12, 28, 60, 0, 128, 0, 512, 0, 2048, 7680, 15872, 32256, 65408, 0, 131072, 0, 524288, 1966080, 4063232, 8257536, 16777088, 33554431, 67108863]
theorem impl_FootMarks.tab3 : rtab .any (opsOf Try.f178 3) = impl_FootMarks.T3 := by kernel_rfl
theorem impl_FootMarks.bits3 : waitsOk impl_FootMarks.T3.2 impl_FootMarks.B3 = true := by kernel_rfl
def impl_FootMarks.T7 : Bool × List (List Nat × List Nat) := (true, [([], []), ([0], [0]), ([1], [1]), ([], []), ([3], [3]), ([2, 4], [2, 4]), ([0, 0, 1, 2, 3, 4, 5], [0]), ([6, 5, 0, 1, 2, 3, 4, 5], [5, 6])])
def impl_FootMarks.B7 : List Nat := [0, 1, 3, 0, 8, 31, 63, 127]
theorem impl_FootMarks.tab7 : rtab .any (opsOf Try.f178 7) = impl_FootMarks.T7 := by kernel_rfl
theorem impl_FootMarks.bits7 : waitsOk impl_FootMarks.T7.2 impl_FootMarks.B7 = true := by kernel_rfl
set_option maxHeartbeats 8000000 in
set_option maxRecDepth 100000 in
theorem impl_FootMarks.calls (k : Nat) (a0_0 : Int) (A0_1 : Option Addr) (c0_1 : Nat) (l0_1 : List (S166)) (a0_2 : Int) (r : List Int) (w : World) (hr0_1 : Kd.C k166 w A0_1 l0_1.length l0_1) (hc0_1 : l0_1.length ≤ c0_1) (h : impl_FootMarks.f k a0_0 l0_1 a0_2 = some r) :
  Calls Try.prog 178 #[.agg #[.int .i64 a0_0, .slice A0_1 l0_1.length c0_1, .int .i64 a0_2]] w fun e w' => ∃ v0_ : Value, e = .returned (v0_) ∧ Kd.R (Kd.int .i64) 3 w' w.heap.size (fun _ => True) v0_ r ∧ Below w.heap.size w w' := by
 have hu90 := Try.underlying90
 have hu166 := Try.underlying166
 have HR0_1 := Aside0.mk hr0_1
 have HC0_1 := Aside0.mk hc0_1
 clear hr0_1 hc0_1
 have HB := Aside0.mk (Below.refl w.heap.size w)
 have H : ((impl_IsFooting.f k a0_0 l0_1 a0_2).bind fun t371 => (if t371 = true then (if 0 < (l0_1.length : Int) then (if 0 ≤ a0_2 then (if a0_2 < (l0_1.length : Int) then (impl_FootMarks.l0 k (([a0_0, 0, 0, 0, (rd_T166 l0_1 0).f0, wrap64 ((wrap64 (a0_0 - ((rd_T166 l0_1 a0_2).f0))) - ((rd_T166 l0_1 a0_2).f1))] : List Int)) l0_1 (l0_1.length : Int) 0) else (none)) else (none)) else (none)) else (some ([] : List Int)))) = some r := h
 clear h
 replace H := bnd_ H; obtain ⟨t371, A2, H⟩ := H
 replace H := itb_ H; rcases H with ⟨rfl, H⟩ | ⟨rfl, H⟩
 ·by_cases c4 : 0 < (l0_1.length : Int)
  ·rw [if_pos c4] at H
   have c4b0 : decide (0 < (l0_1.length : Int)) = true := decide_eq_true c4
   have c4b1 : decide (0 < l0_1.length) = true := decide_eq_true (by omega)
   clear c4
   replace H := its_ H; rcases H with ⟨c5b0, H⟩ | ⟨_, ⟨⟩⟩
   replace H := its_ H; rcases H with ⟨c6b0, H⟩ | ⟨_, ⟨⟩⟩
   obtain ⟨y375, hy375⟩ : ∃ y_ : List Int, y_ = (([a0_0, 0, 0, 0, (rd_T166 l0_1 0).f0, wrap64 ((wrap64 (a0_0 - ((rd_T166 l0_1 a0_2).f0))) - ((rd_T166 l0_1 a0_2).f1))] : List Int)) := ⟨_, rfl⟩
   replace H : (impl_FootMarks.l0 k y375 l0_1 (l0_1.length : Int) 0) = some r := rh_ hy375 H
   have Ny375 := Aside0.mk hy375
   clear hy375
   have H' := Aside0.mk H
   clear H
   go_enter Try.func178, Try.ntmps178
   try go_wp2_with (first | ((with_reducible refine gd_ 1 ?_); refine bx_ 1 #[.int .i64 a0_0, .slice A0_1 l0_1.length c0_1, .int .i64 a0_2] 90 ?_; intro gb370 hg w7 hbox hb; have BK370 := Aside0.mk (hbox); have GW370 := gw_ HB hg; have GE370 := gw_ HB hg; replace HB := bs_ HB hb; clear hb hbox hg; obtain ⟨hcz8_0, hcz8_1, hcz8_2⟩ := c3_ BK370; have hfz8_0 := blk_frozen BK370.out 0; have hfz8_1 := blk_frozen BK370.out 1; have hfz8_2 := blk_frozen BK370.out 2) | ((with_reducible refine gc_ 128 ?_); refine gl_ (some 7) Try.func128 (impl_IsFooting.calls k a0_0 _ _ l0_1 a0_2 true _ (Kd.C_below HR0_1.out (up_ HB.out)) HC0_1.out A2.out) ?_; rintro e w9 ⟨rfl, hb⟩; refine ⟨_, rfl, ?_⟩; replace BK370 := bb_ BK370 hb; replace HB := bs_ HB hb; (try clear hb); (try clear hb2); (try clear hk); (try clear hi)))
   have n0_ := Aside0.mk (blk_drew BK370.out)
   have n1_ := Aside0.mk (below_drew1 HB.out)
   clear BK370
   clear HB
   have BK370 := n0_
   have HB := n1_
   clear n0_ n1_
   have p372 : 0 ≤ (0 : Int) := (by omega)
   have q372 : 0 < (l0_1.length : Int) := od_
   obtain ⟨ad372, e372, hx372_0, hx372_1, hx372_2⟩ := at_T166 HR0_1.out 0 p372 q372
   have hw372_2 := hx372_2
   (try rw [show ((0 : Int)).toNat = 0 from rfl] at hw372_2)
   (try rw [show 0 * 3 = 0 from rfl] at hw372_2)
   (try rw [Addr.add_zero'] at hw372_2)
   have hw372_1 := hx372_1
   (try rw [show ((0 : Int)).toNat = 0 from rfl] at hw372_1)
   (try rw [show 0 * 3 = 0 from rfl] at hw372_1)
   (try rw [Addr.add_zero'] at hw372_1)
   have hw372_0 := hx372_0
   (try rw [show ((0 : Int)).toNat = 0 from rfl] at hw372_0)
   (try rw [show 0 * 3 = 0 from rfl] at hw372_0)
   (try rw [Addr.add_zero'] at hw372_0)
   cases e372
   have qi372 : (0 < l0_1.length) = True := eq_true (by omega)
   (try rw [show ((0 : Int)).toNat = 0 from rfl] at hx372_0)
   (try rw [show 0 * 3 = 0 from rfl] at hx372_0)
   (try rw [Addr.add_zero'] at hx372_0)
   (try rw [show ((0 : Int)).toNat = 0 from rfl] at hx372_1)
   (try rw [show 0 * 3 = 0 from rfl] at hx372_1)
   (try rw [Addr.add_zero'] at hx372_1)
   (try rw [show ((0 : Int)).toNat = 0 from rfl] at hx372_2)
   (try rw [show 0 * 3 = 0 from rfl] at hx372_2)
   (try rw [Addr.add_zero'] at hx372_2)
   replace hx372_0 := bh_ HB hx372_0
   replace hx372_1 := bh_ HB hx372_1
   replace hx372_2 := bh_ HB hx372_2
   replace p372 := eq_true p372
   replace q372 := eq_true q372
   have p373 : 0 ≤ (a0_2 : Int) := od_
   have q373 : a0_2 < (l0_1.length : Int) := od_
   obtain ⟨ad373, e373, hx373_0, hx373_1, hx373_2⟩ := at_T166 HR0_1.out a0_2 p373 q373
   have hw373_2 := hx373_2
   have hw373_1 := hx373_1
   have hw373_0 := hx373_0
   obtain rfl : ad372 = ad373 := (by injection e373)
   replace hx373_0 := bh_ HB hx373_0
   replace hx373_1 := bh_ HB hx373_1
   replace hx373_2 := bh_ HB hx373_2
   replace p373 := eq_true p373
   replace q373 := eq_true q373
   have p374 : 0 ≤ (a0_2 : Int) := od_
   have q374 : a0_2 < (l0_1.length : Int) := od_
   obtain ⟨ad374, e374, hx374_0, hx374_1, hx374_2⟩ := at_T166 HR0_1.out a0_2 p374 q374
   have hw374_2 := hx374_2
   have hw374_1 := hx374_1
   have hw374_0 := hx374_0
   obtain rfl : ad372 = ad374 := (by injection e374)
   replace hx374_0 := bh_ HB hx374_0
   replace hx374_1 := bh_ HB hx374_1
   replace hx374_2 := bh_ HB hx374_2
   replace p374 := eq_true p374
   replace q374 := eq_true q374
   refine start_ (n := 27) (S := fun w' => w'.cell? ⟨gb370, 0, none⟩ = some (.int .i64 a0_0) ∧ w'.cell? ⟨gb370, 1, none⟩ = some (.slice (some ad372) l0_1.length c0_1) ∧ w'.cell? ⟨gb370, 2, none⟩ = some (.int .i64 a0_2) ∧ w'.cell? ad372 = some (.int .i64 ((rd_T166 l0_1 0).f0)) ∧ w'.cell? ⟨ad372.block, ad372.off + 1, none⟩ = some (.int .i64 ((rd_T166 l0_1 0).f1)) ∧ w'.cell? ⟨ad372.block, ad372.off + 2, none⟩ = some (.int .i64 ((rd_T166 l0_1 0).f2)) ∧ w'.cell? (ad372.add ((a0_2).toNat * 3)) = some (.int .i64 ((rd_T166 l0_1 a0_2).f0)) ∧ w'.cell? ⟨(ad372.add ((a0_2).toNat * 3)).block, (ad372.add ((a0_2).toNat * 3)).off + 1, none⟩ = some (.int .i64 ((rd_T166 l0_1 a0_2).f1)) ∧ w'.cell? ⟨(ad372.add ((a0_2).toNat * 3)).block, (ad372.add ((a0_2).toNat * 3)).off + 2, none⟩ = some (.int .i64 ((rd_T166 l0_1 a0_2).f2)) ∧ w'.cell? (ad372.add ((a0_2).toNat * 3)) = some (.int .i64 ((rd_T166 l0_1 a0_2).f0)) ∧ w'.cell? ⟨(ad372.add ((a0_2).toNat * 3)).block, (ad372.add ((a0_2).toNat * 3)).off + 1, none⟩ = some (.int .i64 ((rd_T166 l0_1 a0_2).f1)) ∧ w'.cell? ⟨(ad372.add ((a0_2).toNat * 3)).block, (ad372.add ((a0_2).toNat * 3)).off + 2, none⟩ = some (.int .i64 ((rd_T166 l0_1 a0_2).f2))) (ds := []) #[false, false, false, false, false, false, false, false, false, false, false, false, false, false, false, false, false, false, false, false, false, false, false, false, false, false, false] (by kernel_rfl) rfl rfl ⟨(blk_cell BK370.out 0).trans rfl, (blk_cell BK370.out 1).trans rfl, (blk_cell BK370.out 2).trans rfl, (bh_ HB hw372_0 :), (bh_ HB hw372_1 :), (bh_ HB hw372_2 :), (bh_ HB hw373_0 :), (bh_ HB hw373_1 :), (bh_ HB hw373_2 :), (bh_ HB hw374_0 :), (bh_ HB hw374_1 :), (bh_ HB hw374_2 :)⟩ (fun hHeld => ?_); refine with_tabW impl_FootMarks.tab3 impl_FootMarks.bits3 (fun HT_ HW_ => ?_)
   generalize w9.drew = w10 at BK370 HB hx372_0 hx372_1 hx372_2 hx373_0 hx373_1 hx373_2 hx374_0 hx374_1 hx374_2 hHeld ⊢
   refine pu_ 0 (some 9) ?_
   refine pu_ 2 (some 11) ?_
   refine pu_ 7 (some 16) ?_
   refine pu_ 9 (some 18) ?_
   refine pu_ 11 (some 20) ?_
   refine pu_ 17 (some 26) ?_
   refine pu_ 19 (some 28) ?_
   refine tk_ 1 (some 10) hHeld ?_
   refine tk_ 3 (some 12) hHeld ?_
   refine pu_ 4 (some 13) ?_
   refine pu_ 5 (some 14) ?_
   refine tk_ 6 (some 15) hHeld ?_
   refine tk_ 8 (some 17) hHeld ?_
   refine tk_ 10 (some 19) hHeld ?_
   refine tk_ 12 (some 21) hHeld ?_
   refine pu_ 13 (some 22) ?_
   refine pu_ 14 (some 23) ?_
   refine tk_ 15 (some 24) hHeld ?_
   refine pu_ 16 (some 25) ?_
   refine tk_ 18 (some 27) hHeld ?_
   refine tk_ 20 (some 29) hHeld ?_
   refine pu_ 21 (some 30) ?_
   refine pu_ 22 (some 31) ?_
   refine tk_ 23 (some 32) hHeld ?_
   refine pu_ 24 (some 33) ?_
   refine one_ (i := 25) (N := some 34) #[true, true, true, true, true, true, true, true, true, true, true, true, true, true, true, true, true, true, true, true, true, true, true, true, true, true, false] rfl rfl (one_of HT_.out (by kernel_rfl)) (by decide) (fun K hK => ?_)
   refine Kd.R_lit_step (Kd.int .i64) _ 3 ?hg (N := 34) ?hd (xs := ([a0_0, 0, 0, 0, (rd_T166 l0_1 0).f0, wrap64 ((wrap64 (a0_0 - ((rd_T166 l0_1 a0_2).f0))) - ((rd_T166 l0_1 a0_2).f1))] : List Int)) (inner := [.int .i64 a0_0, .int .i64 0, .int .i64 0, .int .i64 0, .int .i64 ((rd_T166 l0_1 0).f0), .int .i64 (wrap64 ((wrap64 (a0_0 - ((rd_T166 l0_1 a0_2).f0))) - ((rd_T166 l0_1 a0_2).f1)))]) (ok := fun _ => True) (okp := fun _ => True) ?hr ?hp (fun _ hk => hk) trivial (Below.refl _ _) (Nat.le_refl _) (by simp) ?_; (case hd => rfl); (case hg => rfl); (case hr => first | (go_simp; done) | (go_simp; rfl)); (case hp => exact (Reps.one (show Kd.M (Kd.int .i64) _ _ _ a0_0 [.int .i64 a0_0] from rfl) (Reps.one (show Kd.M (Kd.int .i64) _ _ _ 0 [.int .i64 0] from rfl) (Reps.one (show Kd.M (Kd.int .i64) _ _ _ 0 [.int .i64 0] from rfl) (Reps.one (show Kd.M (Kd.int .i64) _ _ _ 0 [.int .i64 0] from rfl) (Reps.one (show Kd.M (Kd.int .i64) _ _ _ ((rd_T166 l0_1 0).f0) [.int .i64 ((rd_T166 l0_1 0).f0)] from rfl) (Reps.one (show Kd.M (Kd.int .i64) _ _ _ (wrap64 ((wrap64 (a0_0 - ((rd_T166 l0_1 a0_2).f0))) - ((rd_T166 l0_1 a0_2).f1))) [.int .i64 (wrap64 ((wrap64 (a0_0 - ((rd_T166 l0_1 a0_2).f0))) - ((rd_T166 l0_1 a0_2).f1)))] from rfl) (Reps.none _ _))))))))
   intro v376 w11 ho12 hb hg_ hnew_
   clear hg_ hnew_
   (first | rw [← Ny375.out] at ho12 | (simp only [Int.reduceToNat] at ho12; rw [← Ny375.out] at ho12))
   have n0_ := Aside0.mk (Kd.R_lower ho12 (below_size (up_ HB.out)))
   have n1_ := bb_ BK370 hb
   have n2_ := bs_ HB hb
   clear BK370
   clear HB
   have HO377 := n0_
   have BK370 := n1_
   have HB := n2_
   clear n0_ n1_ n2_
   clear hb ho12
   refine hK.out _ _ ⟨(blk_cell BK370.out 0).trans rfl, (blk_cell BK370.out 1).trans rfl, (blk_cell BK370.out 2).trans rfl, (bh_ HB hw372_0 :), (bh_ HB hw372_1 :), (bh_ HB hw372_2 :), (bh_ HB hw373_0 :), (bh_ HB hw373_1 :), (bh_ HB hw373_2 :), (bh_ HB hw374_0 :), (bh_ HB hw374_1 :), (bh_ HB hw374_2 :)⟩ (fun hHeld => ?_)
   clear hK K
   refine nm_ ?_
   refine pu_ 26 (some 3) ?_
   refine done_ (done_of HT_.out (by kernel_rfl)) ?_
   obtain ⟨hcz13_0, hcz13_1, hcz13_2⟩ := c3_ BK370
   have hfz13_0 := blk_frozen BK370.out 0
   have hfz13_1 := blk_frozen BK370.out 1
   have hfz13_2 := blk_frozen BK370.out 2
   try go_wp2
   go_loopg [38] k (fun kq v38 w' => ∃ (x3_1 : List Int) (x38_1 : Int), v38 = .int .i64 x38_1 ∧ Aside0 (impl_FootMarks.l0 kq x3_1 l0_1 (l0_1.length : Int) x38_1 = some r) ∧ Aside0 (kq ≤ k) ∧ Aside0 (Kd.R (Kd.int .i64) 3 w' w.heap.size (fun _ => True) v376 x3_1) ∧ Aside0 (w'.heap[gb370]? = some (.cells #[.int .i64 a0_0, (.slice (some ad372) l0_1.length c0_1), .int .i64 a0_2] 90 (0, 0))) ∧ Aside0 (Below w.heap.size w w'))
   case atStart => exact ⟨(y375), (0), rs_, H', ⟨Nat.le_refl _⟩, ⟨up_ HO377.out⟩, ⟨up_ BK370.out⟩, ⟨up_ HB.out⟩⟩
   case round =>
    clear H'
    try clear c1
    try clear p2
    try clear c3
    try clear p3
    try clear q3
    try clear hx3
    try clear qi3
    try clear c4
    try clear c4b0
    try clear c4b1
    try clear c5
    try clear c5b0
    try clear c6
    try clear c6b0
    try clear p6
    try clear c12
    try clear hcz13_0
    try clear hcz13_1
    try clear hcz13_2
    try clear hcz8_0
    try clear hcz8_1
    try clear hcz8_2
    try clear hfz13_0
    try clear hfz13_1
    try clear hfz13_2
    try clear hfz8_0
    try clear hfz8_1
    try clear hfz8_2
    try clear hx372_0
    try clear hx372_1
    try clear hx372_2
    try clear hx373_0
    try clear hx373_1
    try clear hx373_2
    try clear hx374_0
    try clear hx374_1
    try clear hx374_2
    try clear p372
    try clear p373
    try clear p374
    try clear q372
    try clear q373
    try clear q374
    obtain ⟨x3_1, x38_1, rfl, HA, HK1, HO_3, BK370, HB⟩ := hrel
    cases gk with
    | zero => exact absurd HA.out (by simp [impl_FootMarks.l0])
    | succ k1 =>
     have H := HA.out
     clear HA
     simp only [impl_FootMarks.l0] at H
     replace H := its_ H; rcases H with ⟨c14b0, H⟩ | ⟨c14b0, H⟩
     ·replace H := its_ H; rcases H with ⟨c15b0, H⟩ | ⟨_, ⟨⟩⟩
      replace H := its_ H; rcases H with ⟨c16b0, H⟩ | ⟨_, ⟨⟩⟩
      by_cases c17 : 0 < (x3_1.length : Int)
      ·rw [if_pos c17] at H
       have c17b0 : decide (0 < (x3_1.length : Int)) = true := decide_eq_true c17
       have c17b1 : decide (0 < x3_1.length) = true := decide_eq_true (by omega)
       clear c17
       obtain ⟨y381, hy381⟩ : ∃ y_ : List Int, y_ = (x3_1.set (0 : Int).toNat (wrap64 ((rd x3_1 0) - ((rd_T166 l0_1 x38_1).f1)))) := ⟨_, rfl⟩
       replace H : (if ((rd_T166 l0_1 x38_1).f1) = 1 then (if 1 < (x3_1.length : Int) then (impl_FootMarks.l0 k1 (y381.set (1 : Int).toNat (wrap64 ((rd y381 1) + 1))) l0_1 (l0_1.length : Int) (wrap64 (x38_1 + 1))) else (none)) else (if ((rd_T166 l0_1 x38_1).f2) = 1 then (if 2 < (x3_1.length : Int) then (impl_FootMarks.l0 k1 (y381.set (2 : Int).toNat (wrap64 ((rd y381 2) + 1))) l0_1 (l0_1.length : Int) (wrap64 (x38_1 + 1))) else (none)) else (if 3 < (x3_1.length : Int) then (impl_FootMarks.l0 k1 (y381.set (3 : Int).toNat (wrap64 ((rd y381 3) + 1))) l0_1 (l0_1.length : Int) (wrap64 (x38_1 + 1))) else (none)))) = some r := rh_ hy381 H
       have Ny381 := Aside0.mk hy381
       clear hy381
       replace H := ieq_ H; rcases H with ⟨-, c19b0, c19b1, H⟩ | ⟨c19, c19b0, c19b1, H⟩
       ·by_cases c20 : 1 < (x3_1.length : Int)
        ·rw [if_pos c20] at H
         have c20b0 : decide (1 < (x3_1.length : Int)) = true := decide_eq_true c20
         have c20b1 : decide (1 < x3_1.length) = true := decide_eq_true (by omega)
         clear c20
         obtain ⟨y383, hy383⟩ : ∃ y_ : List Int, y_ = (y381.set (1 : Int).toNat (wrap64 ((rd y381 1) + 1))) := ⟨_, rfl⟩
         replace H : (impl_FootMarks.l0 k1 y383 l0_1 (l0_1.length : Int) (wrap64 (x38_1 + 1))) = some r := rh_ hy383 H
         have Ny383 := Aside0.mk hy383
         clear hy383
         have H' := Aside0.mk H
         clear H
         have p378 : 0 ≤ (x38_1 : Int) := od_
         have q378 : x38_1 < (l0_1.length : Int) := od_
         obtain ⟨ad378, e378, hx378_0, hx378_1, hx378_2⟩ := at_T166 HR0_1.out x38_1 p378 q378
         obtain rfl : ad372 = ad378 := (by injection e378)
         replace hx378_0 := bh_ HB hx378_0
         replace hx378_1 := bh_ HB hx378_1
         replace hx378_2 := bh_ HB hx378_2
         replace p378 := eq_true p378
         replace q378 := eq_true q378
         try go_wp2_with (first | ((with_reducible refine gd_ 5 ?_); refine bx_ 5 #[.int .i64 0, .int .i64 0, .int .i64 0] 166 ?_; intro gb379 hg w22 hbox hb; replace HO_3 := Aside0.mk (Kd.R_below (up_ HO_3.out) hb); have BK379 := Aside0.mk (hbox); have GW379 := gw_ HB hg; have GE379 := gw_ HB hg; replace HB := bs_ HB hb; have NB370_379 := Aside0.mk ((by rw [hg]; exact Nat.ne_of_lt (blk_lt (g := gb370) (o := .cells #[.int .i64 a0_0, .slice (some ad372) l0_1.length c0_1, .int .i64 a0_2] 90 (0, 0)) (up_ BK370.out)) : gb370 ≠ gb379)); have NB379_370 := Aside0.mk ((by rw [hg]; exact Nat.ne_of_gt (blk_lt (g := gb370) (o := .cells #[.int .i64 a0_0, .slice (some ad372) l0_1.length c0_1, .int .i64 a0_2] 90 (0, 0)) (up_ BK370.out)) : gb379 ≠ gb370)); replace BK370 := bb_ BK370 hb; clear hb hbox hg; have hnb23 := NB379_370.out; have hnc23 := NB370_379.out; obtain ⟨hcz24_0, hcz24_1, hcz24_2⟩ := c3_ BK379; have hfz24_0 := blk_frozen BK379.out 0; have hfz24_1 := blk_frozen BK379.out 1; have hfz24_2 := blk_frozen BK379.out 2))
         have n0_ : Aside0 (Kd.R (Kd.int .i64) 3 (((w22.setCell ⟨gb379, 0, none⟩ (.int .i64 ((rd_T166 l0_1 x38_1).f0))).setCell ⟨gb379, 1, none⟩ (.int .i64 ((rd_T166 l0_1 x38_1).f1))).setCell ⟨gb379, 2, none⟩ (.int .i64 ((rd_T166 l0_1 x38_1).f2))) w.heap.size (fun _ => True) v376 x3_1) := ⟨by (with_reducible repeat (first | apply Kd.R_alloc | apply Kd.R_drewN | apply Kd.R_drew)); exact Kd.R_mono (Kd.R_far (p := ⟨gb379, 2, none⟩) (Kd.R_far (p := ⟨gb379, 1, none⟩) (Kd.R_far (p := ⟨gb379, 0, none⟩) (Kd.R_types HO_3.out BK379.out (by decide)) (fun _ hk => hk.2) (.int .i64 ((rd_T166 l0_1 x38_1).f0))) (fun _ hk => hk.2) (.int .i64 ((rd_T166 l0_1 x38_1).f1))) (fun _ hk => hk.2) (.int .i64 ((rd_T166 l0_1 x38_1).f2))) (fun _ hk => trivial)⟩
         have n1_ : Aside0 ((((w22.setCell ⟨gb379, 0, none⟩ (.int .i64 ((rd_T166 l0_1 x38_1).f0))).setCell ⟨gb379, 1, none⟩ (.int .i64 ((rd_T166 l0_1 x38_1).f1))).setCell ⟨gb379, 2, none⟩ (.int .i64 ((rd_T166 l0_1 x38_1).f2))).heap[gb370]? = some (.cells #[.int .i64 a0_0, .slice (some ad372) l0_1.length c0_1, .int .i64 a0_2] 90 (0, 0))) := ⟨by (with_reducible repeat (first | refine blk_drewN ?_ _ | refine blk_drew ?_ | refine blk_alloc ?_ _)); refine blk_far ?_ NB370_379.out _; (with_reducible repeat (first | refine blk_drewN ?_ _ | refine blk_drew ?_ | refine blk_alloc ?_ _)); refine blk_far ?_ NB370_379.out _; (with_reducible repeat (first | refine blk_drewN ?_ _ | refine blk_drew ?_ | refine blk_alloc ?_ _)); refine blk_far ?_ NB370_379.out _; (with_reducible repeat (first | refine blk_drewN ?_ _ | refine blk_drew ?_ | refine blk_alloc ?_ _)); exact BK370.out⟩
         have n2_ : Aside0 ((((w22.setCell ⟨gb379, 0, none⟩ (.int .i64 ((rd_T166 l0_1 x38_1).f0))).setCell ⟨gb379, 1, none⟩ (.int .i64 ((rd_T166 l0_1 x38_1).f1))).setCell ⟨gb379, 2, none⟩ (.int .i64 ((rd_T166 l0_1 x38_1).f2))).heap[gb379]? = some (.cells #[.int .i64 ((rd_T166 l0_1 x38_1).f0), .int .i64 ((rd_T166 l0_1 x38_1).f1), .int .i64 ((rd_T166 l0_1 x38_1).f2)] 166 (0, 0))) := ⟨by (with_reducible repeat (first | refine blk_drewN ?_ _ | refine blk_drew ?_ | refine blk_alloc ?_ _)); refine blk_put (cs := #[.int .i64 ((rd_T166 l0_1 x38_1).f0), .int .i64 ((rd_T166 l0_1 x38_1).f1), .int .i64 0]) ?_ 2 _ rfl; (with_reducible repeat (first | refine blk_drewN ?_ _ | refine blk_drew ?_ | refine blk_alloc ?_ _)); refine blk_put (cs := #[.int .i64 ((rd_T166 l0_1 x38_1).f0), .int .i64 0, .int .i64 0]) ?_ 1 _ rfl; (with_reducible repeat (first | refine blk_drewN ?_ _ | refine blk_drew ?_ | refine blk_alloc ?_ _)); refine blk_put (cs := #[.int .i64 0, .int .i64 0, .int .i64 0]) ?_ 0 _ rfl; (with_reducible repeat (first | refine blk_drewN ?_ _ | refine blk_drew ?_ | refine blk_alloc ?_ _)); exact BK379.out⟩
         have n3_ : Aside0 (Below w.heap.size w (((w22.setCell ⟨gb379, 0, none⟩ (.int .i64 ((rd_T166 l0_1 x38_1).f0))).setCell ⟨gb379, 1, none⟩ (.int .i64 ((rd_T166 l0_1 x38_1).f1))).setCell ⟨gb379, 2, none⟩ (.int .i64 ((rd_T166 l0_1 x38_1).f2)))) := ⟨up_ HB.out⟩
         (try clear HO_3)
         (try clear BK370)
         (try clear BK379)
         (try clear HB)
         generalize (((w22.setCell ⟨gb379, 0, none⟩ (.int .i64 ((rd_T166 l0_1 x38_1).f0))).setCell ⟨gb379, 1, none⟩ (.int .i64 ((rd_T166 l0_1 x38_1).f1))).setCell ⟨gb379, 2, none⟩ (.int .i64 ((rd_T166 l0_1 x38_1).f2))) = w25 at n0_ n1_ n2_ n3_ ⊢
         have HO_3 := n0_
         have BK370 := n1_
         have BK379 := n2_
         have HB := n3_
         clear n0_ n1_ n2_ n3_
         have n0_ := Aside0.mk (Kd.R_drew HO_3.out)
         have n1_ := Aside0.mk (blk_drew BK370.out)
         have n2_ := Aside0.mk (blk_drew BK379.out)
         have n3_ := Aside0.mk (below_drew1 HB.out)
         clear HO_3
         clear BK370
         clear BK379
         clear HB
         have HO_3 := n0_
         have BK370 := n1_
         have BK379 := n2_
         have HB := n3_
         clear n0_ n1_ n2_ n3_
         obtain ⟨Ao27, co27, eo27⟩ := Kd.R_slice HO_3.out
         (first | subst eo27 | (injection eo27 with f1_ f2_ f3_; have f4_ := f1_.symm; have f5_ := f3_.symm; clear f1_ f2_ f3_; subst f4_; subst f5_))
         have p380 : 0 ≤ (0 : Int) := (by omega)
         have q380 : 0 < (x3_1.length : Int) := od_
         obtain ⟨ad380, e380, hx380_0⟩ := Kd.at_int (Kd.R_reads' HO_3.out).2.2 0 p380 q380
         cases e380
         have qi380 : (0 < x3_1.length) = True := eq_true (by omega)
         (try rw [show ((0 : Int)).toNat = 0 from rfl] at hx380_0)
         (try rw [Addr.add_zero'] at hx380_0)
         replace p380 := eq_true p380
         replace q380 := eq_true q380
         have p18 : 0 ≤ (0 : Int) := (by omega)
         have q18 : (0 : Int) < ((x3_1.length : Int) : Int) := od_
         have qi18 : (0 < x3_1.length) = True := eq_true (by omega)
         obtain ⟨go18, co18, eo18, gb18, gl18, cl18, HG18⟩ := Kd.R_form HO_3.out (by omega)
         (first | cases eo18 | (injection eo18 with ea_ en_ ec_; (first | subst ea_ | (injection ea_ with ea_; subst ea_)); subst ec_; clear en_))
         have GB18 := Aside0.mk gb18
         have GG18 := Aside0.mk HG18
         clear gb18 gl18 HG18
         (first | simp only [add_plain] at hx380_0 | skip)
         obtain ⟨hx18_0, hf18_0⟩ := Kd.R_celln 0 HO_3.out (0 : Int) p18 q18
         (try rw [show ((0 : Int)).toNat = 0 from rfl] at hx18_0)
         (try simp only [Nat.reduceMul, Nat.zero_mul, Nat.zero_add, Nat.reduceAdd] at hx18_0)
         (try rw [show ((0 : Int)).toNat = 0 from rfl] at hf18_0)
         (try simp only [Nat.reduceMul, Nat.zero_mul, Nat.zero_add, Nat.reduceAdd] at hf18_0)
         replace p18 := eq_true p18
         replace q18 := eq_true q18
         have HP28 := Kd.R_putn HO_3.out (0 : Int) (wrap64 ((rd x3_1 0) - ((rd_T166 l0_1 x38_1).f1)))
         rw [← Ny381.out] at HP28
         have HQ28 := Aside0.mk HP28
         clear HP28
         refine start_ (n := 8) (S := fun w' => w'.cell? ⟨gb379, 0, none⟩ = some (.int .i64 ((rd_T166 l0_1 x38_1).f0)) ∧ w'.cell? ⟨gb379, 1, none⟩ = some (.int .i64 ((rd_T166 l0_1 x38_1).f1)) ∧ w'.cell? ⟨gb379, 2, none⟩ = some (.int .i64 ((rd_T166 l0_1 x38_1).f2)) ∧ w'.cell? ⟨go18, 0, none⟩ = some (.int .i64 (rd x3_1 0))) (ds := [7]) #[false, false, false, false, false, false, false, false] (by kernel_rfl) rfl rfl ⟨(blk_cell BK379.out 0).trans rfl, (blk_cell BK379.out 1).trans rfl, (blk_cell BK379.out 2).trans rfl, hx380_0⟩ (fun hHeld => ?_); refine with_tabW impl_FootMarks.tab7 impl_FootMarks.bits7 (fun HT_ HW_ => ?_)
         generalize w25.drew = w26 at HO_3 BK370 BK379 HB GG18 HQ28 hf18_0 hx18_0 hx380_0 hHeld ⊢
         refine pu_ 0 (some 42) ?_
         refine pu_ 1 (some 43) ?_
         refine pu_ 3 (some 45) ?_
         refine tk_ 2 (some 44) hHeld ?_
         refine tk_ 4 (some 46) hHeld ?_
         refine pu_ 5 (some 47) ?_
         refine pu_ 6 (some 48) ?_
         refine last_ (i := 7) (N := none) #[true, true, true, true, true, true, true, true] rfl rfl (one_of HT_.out (by kernel_rfl)) (by decide) (fun K hK => ?_)
         refine skip_ (w1 := ?_) (by rfl) rfl ?_ ?_
         rotate_left
         ·go_simp
          rfl
         refine hK.out _ _ ?_
         clear hK K
         refine done_ (done_of HT_.out (by kernel_rfl)) ?_
         try have hnxgb379_ : gb379 ≠ go18 := fun e_ => (Kd.R_ne HO_3.out BK379.out (by decide)) (by rw [e_]; rfl)
         try have hmxgb379_ := Ne.symm hnxgb379_
         have n0_ : Aside0 (Kd.R (Kd.int .i64) 3 (w26.setCell ⟨go18, 0, none⟩ (.int .i64 (wrap64 ((rd x3_1 0) - ((rd_T166 l0_1 x38_1).f1))))) w.heap.size (fun _ => True) (.slice (some ⟨go18, 0, none⟩) x3_1.length co27) y381) := ⟨up_ HQ28.out⟩
         have n1_ : Aside0 ((w26.setCell ⟨go18, 0, none⟩ (.int .i64 (wrap64 ((rd x3_1 0) - ((rd_T166 l0_1 x38_1).f1))))).heap[gb370]? = some (.cells #[.int .i64 a0_0, .slice (some ad372) l0_1.length c0_1, .int .i64 a0_2] 90 (0, 0))) := ⟨by (with_reducible repeat (first | refine blk_drewN ?_ _ | refine blk_drew ?_ | refine blk_alloc ?_ _)); refine blk_far ?_ (by have h_ := Kd.R_ne HO_3.out BK370.out (by decide); intro e_; exact h_ (by rw [e_]; rfl)) _; (with_reducible repeat (first | refine blk_drewN ?_ _ | refine blk_drew ?_ | refine blk_alloc ?_ _)); exact BK370.out⟩
         have n2_ : Aside0 ((w26.setCell ⟨go18, 0, none⟩ (.int .i64 (wrap64 ((rd x3_1 0) - ((rd_T166 l0_1 x38_1).f1))))).heap[gb379]? = some (.cells #[.int .i64 ((rd_T166 l0_1 x38_1).f0), .int .i64 ((rd_T166 l0_1 x38_1).f1), .int .i64 ((rd_T166 l0_1 x38_1).f2)] 166 (0, 0))) := ⟨by (with_reducible repeat (first | refine blk_drewN ?_ _ | refine blk_drew ?_ | refine blk_alloc ?_ _)); refine blk_far ?_ (by have h_ := Kd.R_ne HO_3.out BK379.out (by decide); intro e_; exact h_ (by rw [e_]; rfl)) _; (with_reducible repeat (first | refine blk_drewN ?_ _ | refine blk_drew ?_ | refine blk_alloc ?_ _)); exact BK379.out⟩
         have n3_ : Aside0 (Below w.heap.size w (w26.setCell ⟨go18, 0, none⟩ (.int .i64 (wrap64 ((rd x3_1 0) - ((rd_T166 l0_1 x38_1).f1)))))) := ⟨up_ HB.out⟩
         (try clear HO_3)
         (try clear BK370)
         (try clear BK379)
         (try clear HB)
         generalize (w26.setCell ⟨go18, 0, none⟩ (.int .i64 (wrap64 ((rd x3_1 0) - ((rd_T166 l0_1 x38_1).f1))))) = w29 at n0_ n1_ n2_ n3_ ⊢
         have HO_3 := n0_
         have BK370 := n1_
         have BK379 := n2_
         have HB := n3_
         clear n0_ n1_ n2_ n3_
         obtain ⟨hcz30_0, hcz30_1, hcz30_2⟩ := c3_ BK379
         have hfz30_0 := blk_frozen BK379.out 0
         have hfz30_1 := blk_frozen BK379.out 1
         have hfz30_2 := blk_frozen BK379.out 2
         have p382 : 0 ≤ (1 : Int) := (by omega)
         have q382 : 1 < (y381.length : Int) := (by have h_ : (1 : Int) < ((x3_1.length : Int) : Int) := od_; first | (have e_ := (Kd.R_reads' HO_3.out).1; omega) | simpa only [Ny381.out, List.length_set] using h_)
         have ql382 : ((1 : Int) < ((x3_1.length : Int) : Int)) = True := eq_true (od_)
         (try have qn382 : (1 < x3_1.length) = True := eq_true (by have h_ : (1 : Int) < ((x3_1.length : Int) : Int) := od_; omega))
         obtain ⟨ad382, e382, hx382_0⟩ := Kd.at_int (Kd.R_reads' HO_3.out).2.2 1 p382 q382
         obtain rfl : (⟨go18, 0, none⟩ : Addr) = ad382 := (by injection e382)
         (first | simp only [add_plain] at hx382_0 | simp only [add_at] at hx382_0 | simp only [Addr.add, Nat.zero_add] at hx382_0 | skip)
         have qi382 : (1 < y381.length) = True := eq_true (by omega)
         (try rw [show ((1 : Int)).toNat = 1 from rfl] at hx382_0)
         replace p382 := eq_true p382
         replace q382 := eq_true q382
         have p21 : 0 ≤ (1 : Int) := (by omega)
         have q21 : (1 : Int) < ((x3_1.length : Int) : Int) := od_
         have qi21 : (1 < x3_1.length) = True := eq_true (by omega)
         obtain ⟨hx21_0, hf21_0⟩ := Kd.R_celln 0 HO_3.out (1 : Int) p21 q21
         (try rw [show ((1 : Int)).toNat = 1 from rfl] at hx21_0)
         (try simp only [Nat.reduceMul, Nat.zero_mul, Nat.zero_add, Nat.reduceAdd] at hx21_0)
         (try rw [show ((1 : Int)).toNat = 1 from rfl] at hf21_0)
         (try simp only [Nat.reduceMul, Nat.zero_mul, Nat.zero_add, Nat.reduceAdd] at hf21_0)
         replace p21 := eq_true p21
         replace q21 := eq_true q21
         obtain ⟨hy31_, hz31_⟩ := Kd.R_celln 0 HO_3.out (1 : Int) (by omega) (od_)
         (try simp only [Int.reduceToNat, Int.toNat_zero, Int.toNat_ofNat, Nat.reduceMul, Nat.zero_mul, Nat.zero_add] at hy31_ hz31_)
         (try rw [show ((1 : Int)).toNat = 1 from rfl] at hy31_)
         (try rw [show ((1 : Int)).toNat = 1 from rfl] at hz31_)
         have HP31 := Kd.R_putg HO_3.out (1 : Int) (wrap64 ((rd y381 1) + 1))
         try go_wp2_with (first | ((with_reducible refine gate_store (t := 3) (p := 62) rfl ?_); refine store_event (t := 3) (p := 62) (v := ?vo_w32) (w1 := (w29.setCell ⟨go18, (1 : Int).toNat, none⟩ (.int .i64 (wrap64 ((rd y381 1) + 1))))) ?hg ?ho ?hn ?hr ?_; (case ho => rfl); (case hg => rfl); (case hn => rfl); (case hr => first | (go_simp; done) | (go_simp; rfl)); intro w32 hw; have hg : w29.grownBy w32 (some go18) := (by rw [hw]; exact HP31.2); have hp_ : Kd.R (Kd.int .i64) 3 w32 w.heap.size (fun _ => True) (.slice (some ⟨go18, 0, none⟩) x3_1.length co27) y383 := (by rw [hw, Ny383.out]; exact HP31.1); clear HP31; replace BK370 := Aside0.mk (blk_grown (g := gb370) (o := .cells #[.int .i64 a0_0, .slice (some ad372) l0_1.length c0_1, .int .i64 a0_2] 90 (0, 0)) (up_ BK370.out) hg (Kd.R_ne HO_3.out BK370.out (by decide))); replace BK379 := Aside0.mk (blk_grown (g := gb379) (o := .cells #[.int .i64 ((rd_T166 l0_1 x38_1).f0), .int .i64 ((rd_T166 l0_1 x38_1).f1), .int .i64 ((rd_T166 l0_1 x38_1).f2)] 166 (0, 0)) (up_ BK379.out) hg (Kd.R_ne HO_3.out BK379.out (by decide))); replace HO_3 := Aside0.mk (hp_); replace HB := Aside0.mk ((by rw [hw]; exact below_set (HB.out) GB18.out : Below w.heap.size w w32)); clear hg hw hp_))
         go_roundg k1
         case measure => have := HK1.out; omega
         case rel => exact ⟨(y383), (wrap64 (x38_1 + 1)), rs_, H', ⟨by have := HK1.out; omega⟩, ⟨up_ HO_3.out⟩, ⟨up_ BK370.out⟩, ⟨up_ HB.out⟩⟩
        ·rw [if_neg c20] at H
         exact absurd H (by simp)
       ·replace H := ieq_ H; rcases H with ⟨-, c33b0, c33b1, H⟩ | ⟨c33, c33b0, c33b1, H⟩
        ·by_cases c34 : 2 < (x3_1.length : Int)
         ·rw [if_pos c34] at H
          have c34b0 : decide (2 < (x3_1.length : Int)) = true := decide_eq_true c34
          have c34b1 : decide (2 < x3_1.length) = true := decide_eq_true (by omega)
          clear c34
          obtain ⟨y385, hy385⟩ : ∃ y_ : List Int, y_ = (y381.set (2 : Int).toNat (wrap64 ((rd y381 2) + 1))) := ⟨_, rfl⟩
          replace H : (impl_FootMarks.l0 k1 y385 l0_1 (l0_1.length : Int) (wrap64 (x38_1 + 1))) = some r := rh_ hy385 H
          have Ny385 := Aside0.mk hy385
          clear hy385
          have H' := Aside0.mk H
          clear H
          have p378 : 0 ≤ (x38_1 : Int) := od_
          have q378 : x38_1 < (l0_1.length : Int) := od_
          obtain ⟨ad378, e378, hx378_0, hx378_1, hx378_2⟩ := at_T166 HR0_1.out x38_1 p378 q378
          obtain rfl : ad372 = ad378 := (by injection e378)
          replace hx378_0 := bh_ HB hx378_0
          replace hx378_1 := bh_ HB hx378_1
          replace hx378_2 := bh_ HB hx378_2
          replace p378 := eq_true p378
          replace q378 := eq_true q378
          try go_wp2_with (first | ((with_reducible refine gd_ 5 ?_); refine bx_ 5 #[.int .i64 0, .int .i64 0, .int .i64 0] 166 ?_; intro gb379 hg w36 hbox hb; replace HO_3 := Aside0.mk (Kd.R_below (up_ HO_3.out) hb); have BK379 := Aside0.mk (hbox); have GW379 := gw_ HB hg; have GE379 := gw_ HB hg; replace HB := bs_ HB hb; have NB370_379 := Aside0.mk ((by rw [hg]; exact Nat.ne_of_lt (blk_lt (g := gb370) (o := .cells #[.int .i64 a0_0, .slice (some ad372) l0_1.length c0_1, .int .i64 a0_2] 90 (0, 0)) (up_ BK370.out)) : gb370 ≠ gb379)); have NB379_370 := Aside0.mk ((by rw [hg]; exact Nat.ne_of_gt (blk_lt (g := gb370) (o := .cells #[.int .i64 a0_0, .slice (some ad372) l0_1.length c0_1, .int .i64 a0_2] 90 (0, 0)) (up_ BK370.out)) : gb379 ≠ gb370)); replace BK370 := bb_ BK370 hb; clear hb hbox hg; have hnb37 := NB379_370.out; have hnc37 := NB370_379.out; obtain ⟨hcz38_0, hcz38_1, hcz38_2⟩ := c3_ BK379; have hfz38_0 := blk_frozen BK379.out 0; have hfz38_1 := blk_frozen BK379.out 1; have hfz38_2 := blk_frozen BK379.out 2))
          have n0_ : Aside0 (Kd.R (Kd.int .i64) 3 (((w36.setCell ⟨gb379, 0, none⟩ (.int .i64 ((rd_T166 l0_1 x38_1).f0))).setCell ⟨gb379, 1, none⟩ (.int .i64 ((rd_T166 l0_1 x38_1).f1))).setCell ⟨gb379, 2, none⟩ (.int .i64 ((rd_T166 l0_1 x38_1).f2))) w.heap.size (fun _ => True) v376 x3_1) := ⟨by (with_reducible repeat (first | apply Kd.R_alloc | apply Kd.R_drewN | apply Kd.R_drew)); exact Kd.R_mono (Kd.R_far (p := ⟨gb379, 2, none⟩) (Kd.R_far (p := ⟨gb379, 1, none⟩) (Kd.R_far (p := ⟨gb379, 0, none⟩) (Kd.R_types HO_3.out BK379.out (by decide)) (fun _ hk => hk.2) (.int .i64 ((rd_T166 l0_1 x38_1).f0))) (fun _ hk => hk.2) (.int .i64 ((rd_T166 l0_1 x38_1).f1))) (fun _ hk => hk.2) (.int .i64 ((rd_T166 l0_1 x38_1).f2))) (fun _ hk => trivial)⟩
          have n1_ : Aside0 ((((w36.setCell ⟨gb379, 0, none⟩ (.int .i64 ((rd_T166 l0_1 x38_1).f0))).setCell ⟨gb379, 1, none⟩ (.int .i64 ((rd_T166 l0_1 x38_1).f1))).setCell ⟨gb379, 2, none⟩ (.int .i64 ((rd_T166 l0_1 x38_1).f2))).heap[gb370]? = some (.cells #[.int .i64 a0_0, .slice (some ad372) l0_1.length c0_1, .int .i64 a0_2] 90 (0, 0))) := ⟨by (with_reducible repeat (first | refine blk_drewN ?_ _ | refine blk_drew ?_ | refine blk_alloc ?_ _)); refine blk_far ?_ NB370_379.out _; (with_reducible repeat (first | refine blk_drewN ?_ _ | refine blk_drew ?_ | refine blk_alloc ?_ _)); refine blk_far ?_ NB370_379.out _; (with_reducible repeat (first | refine blk_drewN ?_ _ | refine blk_drew ?_ | refine blk_alloc ?_ _)); refine blk_far ?_ NB370_379.out _; (with_reducible repeat (first | refine blk_drewN ?_ _ | refine blk_drew ?_ | refine blk_alloc ?_ _)); exact BK370.out⟩
          have n2_ : Aside0 ((((w36.setCell ⟨gb379, 0, none⟩ (.int .i64 ((rd_T166 l0_1 x38_1).f0))).setCell ⟨gb379, 1, none⟩ (.int .i64 ((rd_T166 l0_1 x38_1).f1))).setCell ⟨gb379, 2, none⟩ (.int .i64 ((rd_T166 l0_1 x38_1).f2))).heap[gb379]? = some (.cells #[.int .i64 ((rd_T166 l0_1 x38_1).f0), .int .i64 ((rd_T166 l0_1 x38_1).f1), .int .i64 ((rd_T166 l0_1 x38_1).f2)] 166 (0, 0))) := ⟨by (with_reducible repeat (first | refine blk_drewN ?_ _ | refine blk_drew ?_ | refine blk_alloc ?_ _)); refine blk_put (cs := #[.int .i64 ((rd_T166 l0_1 x38_1).f0), .int .i64 ((rd_T166 l0_1 x38_1).f1), .int .i64 0]) ?_ 2 _ rfl; (with_reducible repeat (first | refine blk_drewN ?_ _ | refine blk_drew ?_ | refine blk_alloc ?_ _)); refine blk_put (cs := #[.int .i64 ((rd_T166 l0_1 x38_1).f0), .int .i64 0, .int .i64 0]) ?_ 1 _ rfl; (with_reducible repeat (first | refine blk_drewN ?_ _ | refine blk_drew ?_ | refine blk_alloc ?_ _)); refine blk_put (cs := #[.int .i64 0, .int .i64 0, .int .i64 0]) ?_ 0 _ rfl; (with_reducible repeat (first | refine blk_drewN ?_ _ | refine blk_drew ?_ | refine blk_alloc ?_ _)); exact BK379.out⟩
          have n3_ : Aside0 (Below w.heap.size w (((w36.setCell ⟨gb379, 0, none⟩ (.int .i64 ((rd_T166 l0_1 x38_1).f0))).setCell ⟨gb379, 1, none⟩ (.int .i64 ((rd_T166 l0_1 x38_1).f1))).setCell ⟨gb379, 2, none⟩ (.int .i64 ((rd_T166 l0_1 x38_1).f2)))) := ⟨up_ HB.out⟩
          (try clear HO_3)
          (try clear BK370)
          (try clear BK379)
          (try clear HB)
          generalize (((w36.setCell ⟨gb379, 0, none⟩ (.int .i64 ((rd_T166 l0_1 x38_1).f0))).setCell ⟨gb379, 1, none⟩ (.int .i64 ((rd_T166 l0_1 x38_1).f1))).setCell ⟨gb379, 2, none⟩ (.int .i64 ((rd_T166 l0_1 x38_1).f2))) = w39 at n0_ n1_ n2_ n3_ ⊢
          have HO_3 := n0_
          have BK370 := n1_
          have BK379 := n2_
          have HB := n3_
          clear n0_ n1_ n2_ n3_
          have n0_ := Aside0.mk (Kd.R_drew HO_3.out)
          have n1_ := Aside0.mk (blk_drew BK370.out)
          have n2_ := Aside0.mk (blk_drew BK379.out)
          have n3_ := Aside0.mk (below_drew1 HB.out)
          clear HO_3
          clear BK370
          clear BK379
          clear HB
          have HO_3 := n0_
          have BK370 := n1_
          have BK379 := n2_
          have HB := n3_
          clear n0_ n1_ n2_ n3_
          obtain ⟨Ao41, co41, eo41⟩ := Kd.R_slice HO_3.out
          (first | subst eo41 | (injection eo41 with f1_ f2_ f3_; have f4_ := f1_.symm; have f5_ := f3_.symm; clear f1_ f2_ f3_; subst f4_; subst f5_))
          have p380 : 0 ≤ (0 : Int) := (by omega)
          have q380 : 0 < (x3_1.length : Int) := od_
          obtain ⟨ad380, e380, hx380_0⟩ := Kd.at_int (Kd.R_reads' HO_3.out).2.2 0 p380 q380
          cases e380
          have qi380 : (0 < x3_1.length) = True := eq_true (by omega)
          (try rw [show ((0 : Int)).toNat = 0 from rfl] at hx380_0)
          (try rw [Addr.add_zero'] at hx380_0)
          replace p380 := eq_true p380
          replace q380 := eq_true q380
          have p18 : 0 ≤ (0 : Int) := (by omega)
          have q18 : (0 : Int) < ((x3_1.length : Int) : Int) := od_
          have qi18 : (0 < x3_1.length) = True := eq_true (by omega)
          obtain ⟨go18, co18, eo18, gb18, gl18, cl18, HG18⟩ := Kd.R_form HO_3.out (by omega)
          (first | cases eo18 | (injection eo18 with ea_ en_ ec_; (first | subst ea_ | (injection ea_ with ea_; subst ea_)); subst ec_; clear en_))
          have GB18 := Aside0.mk gb18
          have GG18 := Aside0.mk HG18
          clear gb18 gl18 HG18
          (first | simp only [add_plain] at hx380_0 | skip)
          obtain ⟨hx18_0, hf18_0⟩ := Kd.R_celln 0 HO_3.out (0 : Int) p18 q18
          (try rw [show ((0 : Int)).toNat = 0 from rfl] at hx18_0)
          (try simp only [Nat.reduceMul, Nat.zero_mul, Nat.zero_add, Nat.reduceAdd] at hx18_0)
          (try rw [show ((0 : Int)).toNat = 0 from rfl] at hf18_0)
          (try simp only [Nat.reduceMul, Nat.zero_mul, Nat.zero_add, Nat.reduceAdd] at hf18_0)
          replace p18 := eq_true p18
          replace q18 := eq_true q18
          have HP42 := Kd.R_putn HO_3.out (0 : Int) (wrap64 ((rd x3_1 0) - ((rd_T166 l0_1 x38_1).f1)))
          rw [← Ny381.out] at HP42
          have HQ42 := Aside0.mk HP42
          clear HP42
          refine start_ (n := 8) (S := fun w' => w'.cell? ⟨gb379, 0, none⟩ = some (.int .i64 ((rd_T166 l0_1 x38_1).f0)) ∧ w'.cell? ⟨gb379, 1, none⟩ = some (.int .i64 ((rd_T166 l0_1 x38_1).f1)) ∧ w'.cell? ⟨gb379, 2, none⟩ = some (.int .i64 ((rd_T166 l0_1 x38_1).f2)) ∧ w'.cell? ⟨go18, 0, none⟩ = some (.int .i64 (rd x3_1 0))) (ds := [7]) #[false, false, false, false, false, false, false, false] (by kernel_rfl) rfl rfl ⟨(blk_cell BK379.out 0).trans rfl, (blk_cell BK379.out 1).trans rfl, (blk_cell BK379.out 2).trans rfl, hx380_0⟩ (fun hHeld => ?_); refine with_tabW impl_FootMarks.tab7 impl_FootMarks.bits7 (fun HT_ HW_ => ?_)
          generalize w39.drew = w40 at HO_3 BK370 BK379 HB GG18 HQ42 hf18_0 hx18_0 hx380_0 hHeld ⊢
          refine pu_ 0 (some 42) ?_
          refine pu_ 1 (some 43) ?_
          refine pu_ 3 (some 45) ?_
          refine tk_ 2 (some 44) hHeld ?_
          refine tk_ 4 (some 46) hHeld ?_
          refine pu_ 5 (some 47) ?_
          refine pu_ 6 (some 48) ?_
          refine last_ (i := 7) (N := none) #[true, true, true, true, true, true, true, true] rfl rfl (one_of HT_.out (by kernel_rfl)) (by decide) (fun K hK => ?_)
          refine skip_ (w1 := ?_) (by rfl) rfl ?_ ?_
          rotate_left
          ·go_simp
           rfl
          refine hK.out _ _ ?_
          clear hK K
          refine done_ (done_of HT_.out (by kernel_rfl)) ?_
          try have hnxgb379_ : gb379 ≠ go18 := fun e_ => (Kd.R_ne HO_3.out BK379.out (by decide)) (by rw [e_]; rfl)
          try have hmxgb379_ := Ne.symm hnxgb379_
          have n0_ : Aside0 (Kd.R (Kd.int .i64) 3 (w40.setCell ⟨go18, 0, none⟩ (.int .i64 (wrap64 ((rd x3_1 0) - ((rd_T166 l0_1 x38_1).f1))))) w.heap.size (fun _ => True) (.slice (some ⟨go18, 0, none⟩) x3_1.length co41) y381) := ⟨up_ HQ42.out⟩
          have n1_ : Aside0 ((w40.setCell ⟨go18, 0, none⟩ (.int .i64 (wrap64 ((rd x3_1 0) - ((rd_T166 l0_1 x38_1).f1))))).heap[gb370]? = some (.cells #[.int .i64 a0_0, .slice (some ad372) l0_1.length c0_1, .int .i64 a0_2] 90 (0, 0))) := ⟨by (with_reducible repeat (first | refine blk_drewN ?_ _ | refine blk_drew ?_ | refine blk_alloc ?_ _)); refine blk_far ?_ (by have h_ := Kd.R_ne HO_3.out BK370.out (by decide); intro e_; exact h_ (by rw [e_]; rfl)) _; (with_reducible repeat (first | refine blk_drewN ?_ _ | refine blk_drew ?_ | refine blk_alloc ?_ _)); exact BK370.out⟩
          have n2_ : Aside0 ((w40.setCell ⟨go18, 0, none⟩ (.int .i64 (wrap64 ((rd x3_1 0) - ((rd_T166 l0_1 x38_1).f1))))).heap[gb379]? = some (.cells #[.int .i64 ((rd_T166 l0_1 x38_1).f0), .int .i64 ((rd_T166 l0_1 x38_1).f1), .int .i64 ((rd_T166 l0_1 x38_1).f2)] 166 (0, 0))) := ⟨by (with_reducible repeat (first | refine blk_drewN ?_ _ | refine blk_drew ?_ | refine blk_alloc ?_ _)); refine blk_far ?_ (by have h_ := Kd.R_ne HO_3.out BK379.out (by decide); intro e_; exact h_ (by rw [e_]; rfl)) _; (with_reducible repeat (first | refine blk_drewN ?_ _ | refine blk_drew ?_ | refine blk_alloc ?_ _)); exact BK379.out⟩
          have n3_ : Aside0 (Below w.heap.size w (w40.setCell ⟨go18, 0, none⟩ (.int .i64 (wrap64 ((rd x3_1 0) - ((rd_T166 l0_1 x38_1).f1)))))) := ⟨up_ HB.out⟩
          (try clear HO_3)
          (try clear BK370)
          (try clear BK379)
          (try clear HB)
          generalize (w40.setCell ⟨go18, 0, none⟩ (.int .i64 (wrap64 ((rd x3_1 0) - ((rd_T166 l0_1 x38_1).f1))))) = w43 at n0_ n1_ n2_ n3_ ⊢
          have HO_3 := n0_
          have BK370 := n1_
          have BK379 := n2_
          have HB := n3_
          clear n0_ n1_ n2_ n3_
          obtain ⟨hcz44_0, hcz44_1, hcz44_2⟩ := c3_ BK379
          have hfz44_0 := blk_frozen BK379.out 0
          have hfz44_1 := blk_frozen BK379.out 1
          have hfz44_2 := blk_frozen BK379.out 2
          have p384 : 0 ≤ (2 : Int) := (by omega)
          have q384 : 2 < (y381.length : Int) := (by have h_ : (2 : Int) < ((x3_1.length : Int) : Int) := od_; first | (have e_ := (Kd.R_reads' HO_3.out).1; omega) | simpa only [Ny381.out, List.length_set] using h_)
          have ql384 : ((2 : Int) < ((x3_1.length : Int) : Int)) = True := eq_true (od_)
          (try have qn384 : (2 < x3_1.length) = True := eq_true (by have h_ : (2 : Int) < ((x3_1.length : Int) : Int) := od_; omega))
          obtain ⟨ad384, e384, hx384_0⟩ := Kd.at_int (Kd.R_reads' HO_3.out).2.2 2 p384 q384
          obtain rfl : (⟨go18, 0, none⟩ : Addr) = ad384 := (by injection e384)
          (first | simp only [add_plain] at hx384_0 | simp only [add_at] at hx384_0 | simp only [Addr.add, Nat.zero_add] at hx384_0 | skip)
          have qi384 : (2 < y381.length) = True := eq_true (by omega)
          (try rw [show ((2 : Int)).toNat = 2 from rfl] at hx384_0)
          replace p384 := eq_true p384
          replace q384 := eq_true q384
          have p35 : 0 ≤ (2 : Int) := (by omega)
          have q35 : (2 : Int) < ((x3_1.length : Int) : Int) := od_
          have qi35 : (2 < x3_1.length) = True := eq_true (by omega)
          obtain ⟨hx35_0, hf35_0⟩ := Kd.R_celln 0 HO_3.out (2 : Int) p35 q35
          (try rw [show ((2 : Int)).toNat = 2 from rfl] at hx35_0)
          (try simp only [Nat.reduceMul, Nat.zero_mul, Nat.zero_add, Nat.reduceAdd] at hx35_0)
          (try rw [show ((2 : Int)).toNat = 2 from rfl] at hf35_0)
          (try simp only [Nat.reduceMul, Nat.zero_mul, Nat.zero_add, Nat.reduceAdd] at hf35_0)
          replace p35 := eq_true p35
          replace q35 := eq_true q35
          obtain ⟨hy45_, hz45_⟩ := Kd.R_celln 0 HO_3.out (2 : Int) (by omega) (od_)
          (try simp only [Int.reduceToNat, Int.toNat_zero, Int.toNat_ofNat, Nat.reduceMul, Nat.zero_mul, Nat.zero_add] at hy45_ hz45_)
          (try rw [show ((2 : Int)).toNat = 2 from rfl] at hy45_)
          (try rw [show ((2 : Int)).toNat = 2 from rfl] at hz45_)
          have HP45 := Kd.R_putg HO_3.out (2 : Int) (wrap64 ((rd y381 2) + 1))
          try go_wp2_with (first | ((with_reducible refine gate_store (t := 3) (p := 71) rfl ?_); refine store_event (t := 3) (p := 71) (v := ?vo_w46) (w1 := (w43.setCell ⟨go18, (2 : Int).toNat, none⟩ (.int .i64 (wrap64 ((rd y381 2) + 1))))) ?hg ?ho ?hn ?hr ?_; (case ho => rfl); (case hg => rfl); (case hn => rfl); (case hr => first | (go_simp; done) | (go_simp; rfl)); intro w46 hw; have hg : w43.grownBy w46 (some go18) := (by rw [hw]; exact HP45.2); have hp_ : Kd.R (Kd.int .i64) 3 w46 w.heap.size (fun _ => True) (.slice (some ⟨go18, 0, none⟩) x3_1.length co41) y385 := (by rw [hw, Ny385.out]; exact HP45.1); clear HP45; replace BK370 := Aside0.mk (blk_grown (g := gb370) (o := .cells #[.int .i64 a0_0, .slice (some ad372) l0_1.length c0_1, .int .i64 a0_2] 90 (0, 0)) (up_ BK370.out) hg (Kd.R_ne HO_3.out BK370.out (by decide))); replace BK379 := Aside0.mk (blk_grown (g := gb379) (o := .cells #[.int .i64 ((rd_T166 l0_1 x38_1).f0), .int .i64 ((rd_T166 l0_1 x38_1).f1), .int .i64 ((rd_T166 l0_1 x38_1).f2)] 166 (0, 0)) (up_ BK379.out) hg (Kd.R_ne HO_3.out BK379.out (by decide))); replace HO_3 := Aside0.mk (hp_); replace HB := Aside0.mk ((by rw [hw]; exact below_set (HB.out) GB18.out : Below w.heap.size w w46)); clear hg hw hp_))
          go_roundg k1
          case measure => have := HK1.out; omega
          case rel => exact ⟨(y385), (wrap64 (x38_1 + 1)), rs_, H', ⟨by have := HK1.out; omega⟩, ⟨up_ HO_3.out⟩, ⟨up_ BK370.out⟩, ⟨up_ HB.out⟩⟩
         ·rw [if_neg c34] at H
          exact absurd H (by simp)
        ·by_cases c47 : 3 < (x3_1.length : Int)
         ·rw [if_pos c47] at H
          have c47b0 : decide (3 < (x3_1.length : Int)) = true := decide_eq_true c47
          have c47b1 : decide (3 < x3_1.length) = true := decide_eq_true (by omega)
          clear c47
          obtain ⟨y387, hy387⟩ : ∃ y_ : List Int, y_ = (y381.set (3 : Int).toNat (wrap64 ((rd y381 3) + 1))) := ⟨_, rfl⟩
          replace H : (impl_FootMarks.l0 k1 y387 l0_1 (l0_1.length : Int) (wrap64 (x38_1 + 1))) = some r := rh_ hy387 H
          have Ny387 := Aside0.mk hy387
          clear hy387
          have H' := Aside0.mk H
          clear H
          have p378 : 0 ≤ (x38_1 : Int) := od_
          have q378 : x38_1 < (l0_1.length : Int) := od_
          obtain ⟨ad378, e378, hx378_0, hx378_1, hx378_2⟩ := at_T166 HR0_1.out x38_1 p378 q378
          obtain rfl : ad372 = ad378 := (by injection e378)
          replace hx378_0 := bh_ HB hx378_0
          replace hx378_1 := bh_ HB hx378_1
          replace hx378_2 := bh_ HB hx378_2
          replace p378 := eq_true p378
          replace q378 := eq_true q378
          try go_wp2_with (first | ((with_reducible refine gd_ 5 ?_); refine bx_ 5 #[.int .i64 0, .int .i64 0, .int .i64 0] 166 ?_; intro gb379 hg w49 hbox hb; replace HO_3 := Aside0.mk (Kd.R_below (up_ HO_3.out) hb); have BK379 := Aside0.mk (hbox); have GW379 := gw_ HB hg; have GE379 := gw_ HB hg; replace HB := bs_ HB hb; have NB370_379 := Aside0.mk ((by rw [hg]; exact Nat.ne_of_lt (blk_lt (g := gb370) (o := .cells #[.int .i64 a0_0, .slice (some ad372) l0_1.length c0_1, .int .i64 a0_2] 90 (0, 0)) (up_ BK370.out)) : gb370 ≠ gb379)); have NB379_370 := Aside0.mk ((by rw [hg]; exact Nat.ne_of_gt (blk_lt (g := gb370) (o := .cells #[.int .i64 a0_0, .slice (some ad372) l0_1.length c0_1, .int .i64 a0_2] 90 (0, 0)) (up_ BK370.out)) : gb379 ≠ gb370)); replace BK370 := bb_ BK370 hb; clear hb hbox hg; have hnb50 := NB379_370.out; have hnc50 := NB370_379.out; obtain ⟨hcz51_0, hcz51_1, hcz51_2⟩ := c3_ BK379; have hfz51_0 := blk_frozen BK379.out 0; have hfz51_1 := blk_frozen BK379.out 1; have hfz51_2 := blk_frozen BK379.out 2))
          have n0_ : Aside0 (Kd.R (Kd.int .i64) 3 (((w49.setCell ⟨gb379, 0, none⟩ (.int .i64 ((rd_T166 l0_1 x38_1).f0))).setCell ⟨gb379, 1, none⟩ (.int .i64 ((rd_T166 l0_1 x38_1).f1))).setCell ⟨gb379, 2, none⟩ (.int .i64 ((rd_T166 l0_1 x38_1).f2))) w.heap.size (fun _ => True) v376 x3_1) := ⟨by (with_reducible repeat (first | apply Kd.R_alloc | apply Kd.R_drewN | apply Kd.R_drew)); exact Kd.R_mono (Kd.R_far (p := ⟨gb379, 2, none⟩) (Kd.R_far (p := ⟨gb379, 1, none⟩) (Kd.R_far (p := ⟨gb379, 0, none⟩) (Kd.R_types HO_3.out BK379.out (by decide)) (fun _ hk => hk.2) (.int .i64 ((rd_T166 l0_1 x38_1).f0))) (fun _ hk => hk.2) (.int .i64 ((rd_T166 l0_1 x38_1).f1))) (fun _ hk => hk.2) (.int .i64 ((rd_T166 l0_1 x38_1).f2))) (fun _ hk => trivial)⟩
          have n1_ : Aside0 ((((w49.setCell ⟨gb379, 0, none⟩ (.int .i64 ((rd_T166 l0_1 x38_1).f0))).setCell ⟨gb379, 1, none⟩ (.int .i64 ((rd_T166 l0_1 x38_1).f1))).setCell ⟨gb379, 2, none⟩ (.int .i64 ((rd_T166 l0_1 x38_1).f2))).heap[gb370]? = some (.cells #[.int .i64 a0_0, .slice (some ad372) l0_1.length c0_1, .int .i64 a0_2] 90 (0, 0))) := ⟨by (with_reducible repeat (first | refine blk_drewN ?_ _ | refine blk_drew ?_ | refine blk_alloc ?_ _)); refine blk_far ?_ NB370_379.out _; (with_reducible repeat (first | refine blk_drewN ?_ _ | refine blk_drew ?_ | refine blk_alloc ?_ _)); refine blk_far ?_ NB370_379.out _; (with_reducible repeat (first | refine blk_drewN ?_ _ | refine blk_drew ?_ | refine blk_alloc ?_ _)); refine blk_far ?_ NB370_379.out _; (with_reducible repeat (first | refine blk_drewN ?_ _ | refine blk_drew ?_ | refine blk_alloc ?_ _)); exact BK370.out⟩
          have n2_ : Aside0 ((((w49.setCell ⟨gb379, 0, none⟩ (.int .i64 ((rd_T166 l0_1 x38_1).f0))).setCell ⟨gb379, 1, none⟩ (.int .i64 ((rd_T166 l0_1 x38_1).f1))).setCell ⟨gb379, 2, none⟩ (.int .i64 ((rd_T166 l0_1 x38_1).f2))).heap[gb379]? = some (.cells #[.int .i64 ((rd_T166 l0_1 x38_1).f0), .int .i64 ((rd_T166 l0_1 x38_1).f1), .int .i64 ((rd_T166 l0_1 x38_1).f2)] 166 (0, 0))) := ⟨by (with_reducible repeat (first | refine blk_drewN ?_ _ | refine blk_drew ?_ | refine blk_alloc ?_ _)); refine blk_put (cs := #[.int .i64 ((rd_T166 l0_1 x38_1).f0), .int .i64 ((rd_T166 l0_1 x38_1).f1), .int .i64 0]) ?_ 2 _ rfl; (with_reducible repeat (first | refine blk_drewN ?_ _ | refine blk_drew ?_ | refine blk_alloc ?_ _)); refine blk_put (cs := #[.int .i64 ((rd_T166 l0_1 x38_1).f0), .int .i64 0, .int .i64 0]) ?_ 1 _ rfl; (with_reducible repeat (first | refine blk_drewN ?_ _ | refine blk_drew ?_ | refine blk_alloc ?_ _)); refine blk_put (cs := #[.int .i64 0, .int .i64 0, .int .i64 0]) ?_ 0 _ rfl; (with_reducible repeat (first | refine blk_drewN ?_ _ | refine blk_drew ?_ | refine blk_alloc ?_ _)); exact BK379.out⟩
          have n3_ : Aside0 (Below w.heap.size w (((w49.setCell ⟨gb379, 0, none⟩ (.int .i64 ((rd_T166 l0_1 x38_1).f0))).setCell ⟨gb379, 1, none⟩ (.int .i64 ((rd_T166 l0_1 x38_1).f1))).setCell ⟨gb379, 2, none⟩ (.int .i64 ((rd_T166 l0_1 x38_1).f2)))) := ⟨up_ HB.out⟩
          (try clear HO_3)
          (try clear BK370)
          (try clear BK379)
          (try clear HB)
          generalize (((w49.setCell ⟨gb379, 0, none⟩ (.int .i64 ((rd_T166 l0_1 x38_1).f0))).setCell ⟨gb379, 1, none⟩ (.int .i64 ((rd_T166 l0_1 x38_1).f1))).setCell ⟨gb379, 2, none⟩ (.int .i64 ((rd_T166 l0_1 x38_1).f2))) = w52 at n0_ n1_ n2_ n3_ ⊢
          have HO_3 := n0_
          have BK370 := n1_
          have BK379 := n2_
          have HB := n3_
          clear n0_ n1_ n2_ n3_
          have n0_ := Aside0.mk (Kd.R_drew HO_3.out)
          have n1_ := Aside0.mk (blk_drew BK370.out)
          have n2_ := Aside0.mk (blk_drew BK379.out)
          have n3_ := Aside0.mk (below_drew1 HB.out)
          clear HO_3
          clear BK370
          clear BK379
          clear HB
          have HO_3 := n0_
          have BK370 := n1_
          have BK379 := n2_
          have HB := n3_
          clear n0_ n1_ n2_ n3_
          obtain ⟨Ao54, co54, eo54⟩ := Kd.R_slice HO_3.out
          (first | subst eo54 | (injection eo54 with f1_ f2_ f3_; have f4_ := f1_.symm; have f5_ := f3_.symm; clear f1_ f2_ f3_; subst f4_; subst f5_))
          have p380 : 0 ≤ (0 : Int) := (by omega)
          have q380 : 0 < (x3_1.length : Int) := od_
          obtain ⟨ad380, e380, hx380_0⟩ := Kd.at_int (Kd.R_reads' HO_3.out).2.2 0 p380 q380
          cases e380
          have qi380 : (0 < x3_1.length) = True := eq_true (by omega)
          (try rw [show ((0 : Int)).toNat = 0 from rfl] at hx380_0)
          (try rw [Addr.add_zero'] at hx380_0)
          replace p380 := eq_true p380
          replace q380 := eq_true q380
          have p18 : 0 ≤ (0 : Int) := (by omega)
          have q18 : (0 : Int) < ((x3_1.length : Int) : Int) := od_
          have qi18 : (0 < x3_1.length) = True := eq_true (by omega)
          obtain ⟨go18, co18, eo18, gb18, gl18, cl18, HG18⟩ := Kd.R_form HO_3.out (by omega)
          (first | cases eo18 | (injection eo18 with ea_ en_ ec_; (first | subst ea_ | (injection ea_ with ea_; subst ea_)); subst ec_; clear en_))
          have GB18 := Aside0.mk gb18
          have GG18 := Aside0.mk HG18
          clear gb18 gl18 HG18
          (first | simp only [add_plain] at hx380_0 | skip)
          obtain ⟨hx18_0, hf18_0⟩ := Kd.R_celln 0 HO_3.out (0 : Int) p18 q18
          (try rw [show ((0 : Int)).toNat = 0 from rfl] at hx18_0)
          (try simp only [Nat.reduceMul, Nat.zero_mul, Nat.zero_add, Nat.reduceAdd] at hx18_0)
          (try rw [show ((0 : Int)).toNat = 0 from rfl] at hf18_0)
          (try simp only [Nat.reduceMul, Nat.zero_mul, Nat.zero_add, Nat.reduceAdd] at hf18_0)
          replace p18 := eq_true p18
          replace q18 := eq_true q18
          have HP55 := Kd.R_putn HO_3.out (0 : Int) (wrap64 ((rd x3_1 0) - ((rd_T166 l0_1 x38_1).f1)))
          rw [← Ny381.out] at HP55
          have HQ55 := Aside0.mk HP55
          clear HP55
          refine start_ (n := 8) (S := fun w' => w'.cell? ⟨gb379, 0, none⟩ = some (.int .i64 ((rd_T166 l0_1 x38_1).f0)) ∧ w'.cell? ⟨gb379, 1, none⟩ = some (.int .i64 ((rd_T166 l0_1 x38_1).f1)) ∧ w'.cell? ⟨gb379, 2, none⟩ = some (.int .i64 ((rd_T166 l0_1 x38_1).f2)) ∧ w'.cell? ⟨go18, 0, none⟩ = some (.int .i64 (rd x3_1 0))) (ds := [7]) #[false, false, false, false, false, false, false, false] (by kernel_rfl) rfl rfl ⟨(blk_cell BK379.out 0).trans rfl, (blk_cell BK379.out 1).trans rfl, (blk_cell BK379.out 2).trans rfl, hx380_0⟩ (fun hHeld => ?_); refine with_tabW impl_FootMarks.tab7 impl_FootMarks.bits7 (fun HT_ HW_ => ?_)
          generalize w52.drew = w53 at HO_3 BK370 BK379 HB GG18 HQ55 hf18_0 hx18_0 hx380_0 hHeld ⊢
          refine pu_ 0 (some 42) ?_
          refine pu_ 1 (some 43) ?_
          refine pu_ 3 (some 45) ?_
          refine tk_ 2 (some 44) hHeld ?_
          refine tk_ 4 (some 46) hHeld ?_
          refine pu_ 5 (some 47) ?_
          refine pu_ 6 (some 48) ?_
          refine last_ (i := 7) (N := none) #[true, true, true, true, true, true, true, true] rfl rfl (one_of HT_.out (by kernel_rfl)) (by decide) (fun K hK => ?_)
          refine skip_ (w1 := ?_) (by rfl) rfl ?_ ?_
          rotate_left
          ·go_simp
           rfl
          refine hK.out _ _ ?_
          clear hK K
          refine done_ (done_of HT_.out (by kernel_rfl)) ?_
          try have hnxgb379_ : gb379 ≠ go18 := fun e_ => (Kd.R_ne HO_3.out BK379.out (by decide)) (by rw [e_]; rfl)
          try have hmxgb379_ := Ne.symm hnxgb379_
          have n0_ : Aside0 (Kd.R (Kd.int .i64) 3 (w53.setCell ⟨go18, 0, none⟩ (.int .i64 (wrap64 ((rd x3_1 0) - ((rd_T166 l0_1 x38_1).f1))))) w.heap.size (fun _ => True) (.slice (some ⟨go18, 0, none⟩) x3_1.length co54) y381) := ⟨up_ HQ55.out⟩
          have n1_ : Aside0 ((w53.setCell ⟨go18, 0, none⟩ (.int .i64 (wrap64 ((rd x3_1 0) - ((rd_T166 l0_1 x38_1).f1))))).heap[gb370]? = some (.cells #[.int .i64 a0_0, .slice (some ad372) l0_1.length c0_1, .int .i64 a0_2] 90 (0, 0))) := ⟨by (with_reducible repeat (first | refine blk_drewN ?_ _ | refine blk_drew ?_ | refine blk_alloc ?_ _)); refine blk_far ?_ (by have h_ := Kd.R_ne HO_3.out BK370.out (by decide); intro e_; exact h_ (by rw [e_]; rfl)) _; (with_reducible repeat (first | refine blk_drewN ?_ _ | refine blk_drew ?_ | refine blk_alloc ?_ _)); exact BK370.out⟩
          have n2_ : Aside0 ((w53.setCell ⟨go18, 0, none⟩ (.int .i64 (wrap64 ((rd x3_1 0) - ((rd_T166 l0_1 x38_1).f1))))).heap[gb379]? = some (.cells #[.int .i64 ((rd_T166 l0_1 x38_1).f0), .int .i64 ((rd_T166 l0_1 x38_1).f1), .int .i64 ((rd_T166 l0_1 x38_1).f2)] 166 (0, 0))) := ⟨by (with_reducible repeat (first | refine blk_drewN ?_ _ | refine blk_drew ?_ | refine blk_alloc ?_ _)); refine blk_far ?_ (by have h_ := Kd.R_ne HO_3.out BK379.out (by decide); intro e_; exact h_ (by rw [e_]; rfl)) _; (with_reducible repeat (first | refine blk_drewN ?_ _ | refine blk_drew ?_ | refine blk_alloc ?_ _)); exact BK379.out⟩
          have n3_ : Aside0 (Below w.heap.size w (w53.setCell ⟨go18, 0, none⟩ (.int .i64 (wrap64 ((rd x3_1 0) - ((rd_T166 l0_1 x38_1).f1)))))) := ⟨up_ HB.out⟩
          (try clear HO_3)
          (try clear BK370)
          (try clear BK379)
          (try clear HB)
          generalize (w53.setCell ⟨go18, 0, none⟩ (.int .i64 (wrap64 ((rd x3_1 0) - ((rd_T166 l0_1 x38_1).f1))))) = w56 at n0_ n1_ n2_ n3_ ⊢
          have HO_3 := n0_
          have BK370 := n1_
          have BK379 := n2_
          have HB := n3_
          clear n0_ n1_ n2_ n3_
          obtain ⟨hcz57_0, hcz57_1, hcz57_2⟩ := c3_ BK379
          have hfz57_0 := blk_frozen BK379.out 0
          have hfz57_1 := blk_frozen BK379.out 1
          have hfz57_2 := blk_frozen BK379.out 2
          have p386 : 0 ≤ (3 : Int) := (by omega)
          have q386 : 3 < (y381.length : Int) := (by have h_ : (3 : Int) < ((x3_1.length : Int) : Int) := od_; first | (have e_ := (Kd.R_reads' HO_3.out).1; omega) | simpa only [Ny381.out, List.length_set] using h_)
          have ql386 : ((3 : Int) < ((x3_1.length : Int) : Int)) = True := eq_true (od_)
          (try have qn386 : (3 < x3_1.length) = True := eq_true (by have h_ : (3 : Int) < ((x3_1.length : Int) : Int) := od_; omega))
          obtain ⟨ad386, e386, hx386_0⟩ := Kd.at_int (Kd.R_reads' HO_3.out).2.2 3 p386 q386
          obtain rfl : (⟨go18, 0, none⟩ : Addr) = ad386 := (by injection e386)
          (first | simp only [add_plain] at hx386_0 | simp only [add_at] at hx386_0 | simp only [Addr.add, Nat.zero_add] at hx386_0 | skip)
          have qi386 : (3 < y381.length) = True := eq_true (by omega)
          (try rw [show ((3 : Int)).toNat = 3 from rfl] at hx386_0)
          replace p386 := eq_true p386
          replace q386 := eq_true q386
          have p48 : 0 ≤ (3 : Int) := (by omega)
          have q48 : (3 : Int) < ((x3_1.length : Int) : Int) := od_
          have qi48 : (3 < x3_1.length) = True := eq_true (by omega)
          obtain ⟨hx48_0, hf48_0⟩ := Kd.R_celln 0 HO_3.out (3 : Int) p48 q48
          (try rw [show ((3 : Int)).toNat = 3 from rfl] at hx48_0)
          (try simp only [Nat.reduceMul, Nat.zero_mul, Nat.zero_add, Nat.reduceAdd] at hx48_0)
          (try rw [show ((3 : Int)).toNat = 3 from rfl] at hf48_0)
          (try simp only [Nat.reduceMul, Nat.zero_mul, Nat.zero_add, Nat.reduceAdd] at hf48_0)
          replace p48 := eq_true p48
          replace q48 := eq_true q48
          obtain ⟨hy58_, hz58_⟩ := Kd.R_celln 0 HO_3.out (3 : Int) (by omega) (od_)
          (try simp only [Int.reduceToNat, Int.toNat_zero, Int.toNat_ofNat, Nat.reduceMul, Nat.zero_mul, Nat.zero_add] at hy58_ hz58_)
          (try rw [show ((3 : Int)).toNat = 3 from rfl] at hy58_)
          (try rw [show ((3 : Int)).toNat = 3 from rfl] at hz58_)
          have HP58 := Kd.R_putg HO_3.out (3 : Int) (wrap64 ((rd y381 3) + 1))
          try go_wp2_with (first | ((with_reducible refine gate_store (t := 3) (p := 53) rfl ?_); refine store_event (t := 3) (p := 53) (v := ?vo_w59) (w1 := (w56.setCell ⟨go18, (3 : Int).toNat, none⟩ (.int .i64 (wrap64 ((rd y381 3) + 1))))) ?hg ?ho ?hn ?hr ?_; (case ho => rfl); (case hg => rfl); (case hn => rfl); (case hr => first | (go_simp; done) | (go_simp; rfl)); intro w59 hw; have hg : w56.grownBy w59 (some go18) := (by rw [hw]; exact HP58.2); have hp_ : Kd.R (Kd.int .i64) 3 w59 w.heap.size (fun _ => True) (.slice (some ⟨go18, 0, none⟩) x3_1.length co54) y387 := (by rw [hw, Ny387.out]; exact HP58.1); clear HP58; replace BK370 := Aside0.mk (blk_grown (g := gb370) (o := .cells #[.int .i64 a0_0, .slice (some ad372) l0_1.length c0_1, .int .i64 a0_2] 90 (0, 0)) (up_ BK370.out) hg (Kd.R_ne HO_3.out BK370.out (by decide))); replace BK379 := Aside0.mk (blk_grown (g := gb379) (o := .cells #[.int .i64 ((rd_T166 l0_1 x38_1).f0), .int .i64 ((rd_T166 l0_1 x38_1).f1), .int .i64 ((rd_T166 l0_1 x38_1).f2)] 166 (0, 0)) (up_ BK379.out) hg (Kd.R_ne HO_3.out BK379.out (by decide))); replace HO_3 := Aside0.mk (hp_); replace HB := Aside0.mk ((by rw [hw]; exact below_set (HB.out) GB18.out : Below w.heap.size w w59)); clear hg hw hp_))
          go_roundg k1
          case measure => have := HK1.out; omega
          case rel => exact ⟨(y387), (wrap64 (x38_1 + 1)), rs_, H', ⟨by have := HK1.out; omega⟩, ⟨up_ HO_3.out⟩, ⟨up_ BK370.out⟩, ⟨up_ HB.out⟩⟩
         ·rw [if_neg c47] at H
          exact absurd H (by simp)
      ·rw [if_neg c17] at H
       exact absurd H (by simp)
     ·obtain rfl := Option.some.inj H
      go_wp2
      go_ret
      exact ⟨_, re_, by (with_reducible repeat (first | apply Kd.R_alloc | apply Kd.R_drewN | apply Kd.R_drew)); exact HO_3.out, up_ HB.out⟩
  ·rw [if_neg c4] at H
   exact absurd H (by simp)
 ·obtain rfl := Option.some.inj H
  go_enter Try.func178, Try.ntmps178
  go_wp2_with (first | ((with_reducible refine gd_ 1 ?_); refine bx_ 1 #[.int .i64 a0_0, .slice A0_1 l0_1.length c0_1, .int .i64 a0_2] 90 ?_; intro gb370 hg w60 hbox hb; have BK370 := Aside0.mk (hbox); have GW370 := gw_ HB hg; have GE370 := gw_ HB hg; replace HB := bs_ HB hb; clear hb hbox hg; obtain ⟨hcz61_0, hcz61_1, hcz61_2⟩ := c3_ BK370; have hfz61_0 := blk_frozen BK370.out 0; have hfz61_1 := blk_frozen BK370.out 1; have hfz61_2 := blk_frozen BK370.out 2) | ((with_reducible refine gc_ 128 ?_); refine gl_ (some 7) Try.func128 (impl_IsFooting.calls k a0_0 _ _ l0_1 a0_2 false _ (Kd.C_below HR0_1.out (up_ HB.out)) HC0_1.out A2.out) ?_; rintro e w62 ⟨rfl, hb⟩; refine ⟨_, rfl, ?_⟩; replace BK370 := bb_ BK370 hb; replace HB := bs_ HB hb; (try clear hb); (try clear hb2); (try clear hk); (try clear hi)))
  go_ret
  exact ⟨_, re_, by first | exact Kd.R_nil _ _ _ _ _ | exact Kd.N_nil _ _ _ _ _ | exact Kd.V_nil _ _ _ _ _ | exact Kd.Q_nil _ _ _ _ _ | exact Kd.S_nil _ _ _ _ _, up_ HB.out⟩

end Go.Proofs.Ytkddpilambnicaa.PFnExactFootRows
