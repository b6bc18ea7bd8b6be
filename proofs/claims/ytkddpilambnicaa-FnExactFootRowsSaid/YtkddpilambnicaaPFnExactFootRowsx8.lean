/- Walks of Go functions that the law FnExactFootRows uses: written by this session's program out of the kit's printer; each shows that a call comes to the answers of the Lean function beside it. Conditions: each contract's own. -/
import Derived.Test.YtkddpilambnicaaPFnExactFootRowsx0
import Derived.Test.YtkddpilambnicaaPFnExactFootRowsx2
import Derived.Test.YtkddpilambnicaaPFnExactFootRowsx3
import Derived.Test.YtkddpilambnicaaPFnExactFootRowsx4
import Derived.Test.YtkddpilambnicaaPFnExactFootRowsx5
import Derived.Test.YtkddpilambnicaaPFnExactFootRowsx7
namespace Go.Proofs.Ytkddpilambnicaa.PFnExactFootRows
open Go.RowKit Go.Proofs.YtkddpilambnicaaW.PrintWords Go.Proofs.YtkddpilambnicaaW.PrintLast Go.Proofs.YtkddpilambnicaaW.PrintMore Go.Proofs.Ytkddpilambnicaa.Mac Go.Proofs.Ytkddpilambnicaa.Law
attribute [local go_sem] max2_int min2_int max_two min_two max_three min_three max_four min_four   -- for this text's walks alone
set_option linter.unusedVariables false
set_option linter.unusedSimpArgs false

/-! ### spec_FootRows: function 56 -/
mutual
def spec_FootRows.j0 : Nat → List (S34) → Bool → Int → List (S166) → Int → Option ((List (S34)) × Bool)
 | 0, _, _, _, _, _ => none
 | k + 1, x6, x29, x242000, x242001, x242002 => if x29 = true then (some (x6, false)) else ((spec_FootingsOf.f k x242000).bind fun t250 => (spec_FootRows.l0 k x6 t250 0 x242000 x242001 x242002))
def spec_FootRows.l0 : Nat → List (S34) → List (S90) → Int → Int → List (S166) → Int → Option ((List (S34)) × Bool)
 | 0, _, _, _, _, _, _ => none
 | k + 1, x6, x7, x8, x242000, x242001, x242002 => if x8 < (x7.length : Int) then ((spec_l23Marks.f k x242000 x242001 x242002).bind fun t253 => (if 0 ≤ x8 then ((spec_l23Marks.f k ((rd_T90 x7 x8).f0) ((rd_T90 x7 x8).f1) ((rd_T90 x7 x8).f2)).bind fun t257 => ((spec_RowOf.f k t253 t257).bind fun bt260 => ((spec_IsTrivial.f k bt260.1).bind fun t265 => (spec_FootRows.l1 k x6 x7 x8 t265 0 x242000 x242001 x242002 bt260.1)))) else (none))) else (some (x6, true))
def spec_FootRows.l1 : Nat → List (S34) → List (S90) → Int → Bool → Int → Int → List (S166) → Int → List Int → Option ((List (S34)) × Bool)
 | 0, _, _, _, _, _, _, _, _, _ => none
 | k + 1, x6, x7, x8, x11, x12, x242000, x242001, x242002, x265000 => if x12 < (x6.length : Int) then (if x11 = true then (spec_FootRows.l1 k x6 x7 x8 true (wrap64 (x12 + 1)) x242000 x242001 x242002 x265000) else (if 0 ≤ x12 then ((spec_l13Same.f k ((rd_T34 x6 x12).f0) x265000).bind fun t267 => (spec_FootRows.l1 k x6 x7 x8 t267 (wrap64 (x12 + 1)) x242000 x242001 x242002 x265000)) else (none))) else (if x11 = true then (spec_FootRows.l0 k x6 x7 (wrap64 (x8 + 1)) x242000 x242001 x242002) else (if x6.length < 5864062014805 then (spec_FootRows.l0 k (x6 ++ [(⟨x265000⟩ : S34)]) x7 (wrap64 (x8 + 1)) x242000 x242001 x242002) else (none)))
end
def spec_FootRows.f (k : Nat) (l0_0 : List Int) (a1_0 : Int) (l1_1 : List (S166)) (a1_2 : Int) : Option ((List (S34)) × Bool) := (some (([] : List (S34)) : List (S34))).bind fun y242 => ((spec_IsFooting.f k a1_0 l1_1 a1_2).bind fun t245 => (if t245 = true then ((spec_StressesOf.f k a1_0 l1_1 a1_2).bind fun t246 => ((spec_l5Same.f k t246 l0_0).bind fun t249 => (if t249 = true then (spec_FootRows.j0 k y242 (decide (a1_0 > 4)) a1_0 l1_1 a1_2) else (spec_FootRows.j0 k y242 true a1_0 l1_1 a1_2)))) else (spec_FootRows.j0 k y242 true a1_0 l1_1 a1_2)))
def spec_FootRows.T2 : Bool × List (List Nat × List Nat) := (true, [([], []), ([0], [0]), ([1], [1]), ([2, 1], [2]), ([3], [3]), ([4, 3, 3], [3, 4]), ([3], [3]), ([6, 3], [3, 6]), ([5, 7, 5, 3], [3, 5, 7]), ([8, 3], [3, 8]), ([3, 9], [3, 9]), ([10, 8], [10]), ([11], [11]), ([12, 11], [11, 12]), ([13, 11], [11, 13]), ([11, 14], [11, 14])])
def spec_FootRows.B2 : List Nat := [0, 1, 3, 7, 15, 31, 15, 79, 255, 511, 1023, 2047, 4095, 8191, 16383, 32767]
theorem spec_FootRows.tab2 : rtab .any (opsOf Try.f56 2) = spec_FootRows.T2 := by kernel_rfl
theorem spec_FootRows.bits2 : waitsOk spec_FootRows.T2.2 spec_FootRows.B2 = true := by kernel_rfl
def spec_FootRows.T8 : Bool × List (List Nat × List Nat) := (true, [([], []), ([0], [0]), ([], []), ([], []), ([2, 3], [2, 3]), ([4], [4]), ([5, 1], [5]), ([1, 6, 6], [1, 6]), ([7], [7]), ([8], [8]), ([8], [8]), ([], []), ([11, 9, 7, 0, 1, 2, 3, 4, 5, 6, 7, 8, 9, 11], [9, 11]), ([10, 12, 0, 1, 2, 3, 4, 5, 6, 7, 8, 9, 10, 11, 12], [10])])
def spec_FootRows.B8 : List Nat := [0, 1, 0, 0, 12, 28, 63, 127, 255, 511, 511, 0, 3071, 8191]
theorem spec_FootRows.tab8 : rtab .any (opsOf Try.f56 8) = spec_FootRows.T8 := by kernel_rfl
theorem spec_FootRows.bits8 : waitsOk spec_FootRows.T8.2 spec_FootRows.B8 = true := by kernel_rfl
def spec_FootRows.T13 : Bool × List (List Nat × List Nat) := (true, [([], []), ([0], [0]), ([1], [1]), ([1], [1]), ([2, 3, 1], [1, 2, 3]), ([4, 1], [1, 4]), ([1], [1]), ([5, 6, 1, 1], [1, 5, 6]), ([1, 7], [1, 7]), ([8, 7, 0, 1, 2, 3, 4, 5, 6, 7, 8], [0, 8])])
def spec_FootRows.B13 : List Nat := [0, 1, 3, 3, 15, 31, 3, 127, 255, 511]
theorem spec_FootRows.tab13 : rtab .any (opsOf Try.f56 13) = spec_FootRows.T13 := by kernel_rfl
theorem spec_FootRows.bits13 : waitsOk spec_FootRows.T13.2 spec_FootRows.B13 = true := by kernel_rfl
set_option maxHeartbeats 8000000 in
set_option maxRecDepth 100000 in
theorem spec_FootRows.calls (k : Nat) (A0_0 : Option Addr) (c0_0 : Nat) (l0_0 : List Int) (a1_0 : Int) (A1_1 : Option Addr) (c1_1 : Nat) (l1_1 : List (S166)) (a1_2 : Int) (r1 : List (S34)) (r2 : Bool) (w : World) (hr0_0 : Kd.C (Kd.int .i64) w A0_0 l0_0.length l0_0) (hc0_0 : l0_0.length ≤ c0_0) (hr1_1 : Kd.C k166 w A1_1 l1_1.length l1_1) (hc1_1 : l1_1.length ≤ c1_1) (h : spec_FootRows.f k l0_0 a1_0 l1_1 a1_2 = some (r1, r2)) :
  Calls Try.prog 56 #[.agg #[.slice A0_0 l0_0.length c0_0], .agg #[.int .i64 a1_0, .slice A1_1 l1_1.length c1_1, .int .i64 a1_2]] w fun e w' => ∃ v0_ : Value, e = .returned (.tuple #[v0_, .bool r2]) ∧ Kd.N k34 34 w' w.heap.size (fun k_ => (w.heap.size ≤ k_)) v0_ r1 ∧ Below w.heap.size w w' := by
 have hu86 := Try.underlying86
 have hu90 := Try.underlying90
 have hu34 := Try.underlying34
 have HR0_0 := Aside0.mk hr0_0
 have HC0_0 := Aside0.mk hc0_0
 clear hr0_0 hc0_0
 have HR1_1 := Aside0.mk hr1_1
 have HC1_1 := Aside0.mk hc1_1
 clear hr1_1 hc1_1
 have HB := Aside0.mk (Below.refl w.heap.size w)
 have H : ((some (([] : List (S34)) : List (S34))).bind fun y242 => ((spec_IsFooting.f k a1_0 l1_1 a1_2).bind fun t245 => (if t245 = true then ((spec_StressesOf.f k a1_0 l1_1 a1_2).bind fun t246 => ((spec_l5Same.f k t246 l0_0).bind fun t249 => (if t249 = true then (spec_FootRows.j0 k y242 (decide (a1_0 > 4)) a1_0 l1_1 a1_2) else (spec_FootRows.j0 k y242 true a1_0 l1_1 a1_2)))) else (spec_FootRows.j0 k y242 true a1_0 l1_1 a1_2)))) = some (r1, r2) := h
 clear h
 obtain ⟨y242, hy242⟩ : ∃ y_ : List (S34), y_ = (([] : List (S34))) := ⟨_, rfl⟩
 replace H : ((spec_IsFooting.f k a1_0 l1_1 a1_2).bind fun t245 => (if t245 = true then ((spec_StressesOf.f k a1_0 l1_1 a1_2).bind fun t246 => ((spec_l5Same.f k t246 l0_0).bind fun t249 => (if t249 = true then (spec_FootRows.j0 k y242 (decide (a1_0 > 4)) a1_0 l1_1 a1_2) else (spec_FootRows.j0 k y242 true a1_0 l1_1 a1_2)))) else (spec_FootRows.j0 k y242 true a1_0 l1_1 a1_2))) = some (r1, r2) := rh_ hy242 H
 have Ny242 := Aside0.mk hy242
 clear hy242
 have HC3 := Aside0.mk H
 clear H
 go_enter Try.func56, Try.ntmps56
 go_upto_region 2 with (first | ((with_reducible refine gd_ 2 ?_); refine bx_ 2 #[.slice A0_0 l0_0.length c0_0] 86 ?_; intro gb240 hg w4 hbox hb; have BK240 := Aside0.mk (hbox); have GW240 := gw_ HB hg; have GE240 := gw_ HB hg; replace HB := bs_ HB hb; clear hb hbox hg) | ((with_reducible refine gd_ 3 ?_); refine bx_ 3 #[.int .i64 a1_0, .slice A1_1 l1_1.length c1_1, .int .i64 a1_2] 90 ?_; intro gb241 hg w5 hbox hb; have BK241 := Aside0.mk (hbox); have GW241 := gw_ HB hg; have GE241 := gw_ HB hg; replace HB := bs_ HB hb; have NB240_241 := Aside0.mk ((by rw [hg]; exact Nat.ne_of_lt (blk_lt (g := gb240) (o := .cells #[.slice A0_0 l0_0.length c0_0] 86 (0, 0)) (up_ BK240.out)) : gb240 ≠ gb241)); have NB241_240 := Aside0.mk ((by rw [hg]; exact Nat.ne_of_gt (blk_lt (g := gb240) (o := .cells #[.slice A0_0 l0_0.length c0_0] 86 (0, 0)) (up_ BK240.out)) : gb241 ≠ gb240)); replace BK240 := bb_ BK240 hb; clear hb hbox hg) | ((with_reducible refine gd_ 13 ?_); refine Kd.N_lit k34 _ 34 ?hg (N' := 13) ?hd (xs := ([] : List (S34))) (inner := []) (ok := (fun k_ => (w.heap.size ≤ k_) ∧ k_ ≠ gb240 ∧ k_ ≠ gb241)) (okp := (fun k_ => (w.heap.size ≤ k_) ∧ k_ ≠ gb240 ∧ k_ ≠ gb241)) ?hr ?hp (fun _ hk => hk) ((show ∀ k_, w5.heap.size ≤ k_ → (fun k_ => (w.heap.size ≤ k_) ∧ k_ ≠ gb240 ∧ k_ ≠ gb241) k_ from fun k_ hk => ⟨(Nat.le_trans (below_size (up_ HB.out)) hk), Kd.freshB (g := gb240) (o := .cells #[.slice A0_0 l0_0.length c0_0] 86 (0, 0)) (up_ BK240.out) k_ hk, Kd.freshB (g := gb241) (o := .cells #[.int .i64 a1_0, .slice A1_1 l1_1.length c1_1, .int .i64 a1_2] 90 (0, 0)) (up_ BK241.out) k_ hk⟩) _ (Nat.le_refl _)) (Below.refl _ _) (Nat.le_refl _) (by simp) ?_; (case hd => rfl); (case hg => rfl); (case hr => first | (go_simp; done) | (go_simp; rfl)); (case hp => exact (Reps.none _ _)); intro v243 w6 ho7 hb hg_ hnew_; clear hg_ hnew_; (first | rw [← Ny242.out] at ho7 | (simp only [Int.reduceToNat] at ho7; rw [← Ny242.out] at ho7)); have HO244 := Aside0.mk (Kd.N_lower ho7 (below_size (up_ HB.out))); replace BK240 := bb_ BK240 hb; replace BK241 := bb_ BK241 hb; replace HB := bs_ HB hb; clear hb ho7))
 (try simp only [Act.put, List.setIfInBounds_toArray, List.set_cons_zero, List.set_cons_succ])
 go_cut [29] (fun v29 wc => ∃ (kq : Nat) (x29_2 : Bool), v29 = .bool x29_2 ∧ Aside0 (spec_FootRows.j0 kq y242 x29_2 a1_0 l1_1 a1_2 = some (r1, r2)) ∧ Aside0 (kq ≤ k) ∧ Aside0 (Kd.N k34 34 wc w.heap.size (fun k_ => (w.heap.size ≤ k_) ∧ k_ ≠ gb240 ∧ k_ ≠ gb241) v243 y242) ∧ Aside0 (wc.heap[gb240]? = some (.cells #[(.slice A0_0 l0_0.length c0_0)] 86 (0, 0))) ∧ Aside0 (wc.heap[gb241]? = some (.cells #[.int .i64 a1_0, (.slice A1_1 l1_1.length c1_1), .int .i64 a1_2] 90 (0, 0))) ∧ Aside0 (Below w.heap.size w wc))
 case first =>
  have H := HC3.out
  clear HC3
  replace H := Option.bind_eq_some_iff.mp H
  obtain ⟨t245, A80, H⟩ := H
  replace H : (if t245 = true then ((spec_StressesOf.f k a1_0 l1_1 a1_2).bind fun t246 => ((spec_l5Same.f k t246 l0_0).bind fun t249 => (if t249 = true then (spec_FootRows.j0 k y242 (decide (a1_0 > 4)) a1_0 l1_1 a1_2) else (spec_FootRows.j0 k y242 true a1_0 l1_1 a1_2)))) else (spec_FootRows.j0 k y242 true a1_0 l1_1 a1_2)) = some (r1, r2) := H
  have A8 := Aside0.mk A80
  clear A80
  replace H := itb_ H; rcases H with ⟨rfl, H⟩ | ⟨rfl, H⟩
  ·replace H := Option.bind_eq_some_iff.mp H
   obtain ⟨t246, A100, H⟩ := H
   replace H : ((spec_l5Same.f k t246 l0_0).bind fun t249 => (if t249 = true then (spec_FootRows.j0 k y242 (decide (a1_0 > 4)) a1_0 l1_1 a1_2) else (spec_FootRows.j0 k y242 true a1_0 l1_1 a1_2))) = some (r1, r2) := H
   have A10 := Aside0.mk A100
   clear A100
   replace H := Option.bind_eq_some_iff.mp H
   obtain ⟨t249, A110, H⟩ := H
   replace H : (if t249 = true then (spec_FootRows.j0 k y242 (decide (a1_0 > 4)) a1_0 l1_1 a1_2) else (spec_FootRows.j0 k y242 true a1_0 l1_1 a1_2)) = some (r1, r2) := H
   have A11 := Aside0.mk A110
   clear A110
   replace H := itb_ H; rcases H with ⟨rfl, H⟩ | ⟨rfl, H⟩
   ·have H' := Aside0.mk H
    clear H
    try go_wp2
    have n0_ := Aside0.mk (Kd.N_drew HO244.out)
    have n1_ := Aside0.mk (blk_drew BK240.out)
    have n2_ := Aside0.mk (blk_drew BK241.out)
    have n3_ := Aside0.mk (below_drew1 HB.out)
    clear HO244
    clear BK240
    clear BK241
    clear HB
    have HO244 := n0_
    have BK240 := n1_
    have BK241 := n2_
    have HB := n3_
    clear n0_ n1_ n2_ n3_
    refine start_ (n := 16) (S := fun w' => w'.cell? ⟨gb241, 0, none⟩ = some (.int .i64 a1_0) ∧ w'.cell? ⟨gb241, 1, none⟩ = some (.slice A1_1 l1_1.length c1_1) ∧ w'.cell? ⟨gb241, 2, none⟩ = some (.int .i64 a1_2) ∧ w'.cell? ⟨gb240, 0, none⟩ = some (.slice A0_0 l0_0.length c0_0)) (ds := []) #[false, false, false, false, false, false, false, false, false, false, false, false, false, false, false, false] (by kernel_rfl) rfl rfl ⟨(blk_cell BK241.out 0).trans rfl, (blk_cell BK241.out 1).trans rfl, (blk_cell BK241.out 2).trans rfl, (blk_cell BK240.out 0).trans rfl⟩ (fun hHeld => ?_); refine with_tabW spec_FootRows.tab2 spec_FootRows.bits2 (fun HT_ HW_ => ?_)
    generalize w6.drew = w13 at HO244 BK240 BK241 HB hHeld ⊢
    refine tk_ 0 (some 14) hHeld ?_
    refine one_ (i := 1) (N := some 15) #[true, true, false, false, false, false, false, false, false, false, false, false, false, false, false, false] rfl rfl (one_of HT_.out (by kernel_rfl)) (by decide) (fun K hK => ?_)
    refine goes_ Try.func119 (by kernel_rfl) rfl #[.agg #[.int .i64 a1_0, .slice A1_1 l1_1.length c1_1, .int .i64 a1_2]] (by rfl) rfl rfl am_ ?_
    with_reducible refine (spec_IsFooting.calls k a1_0 _ _ l1_1 a1_2 true _ ?side1 ?side2 A8.out).mono ?_
    (case side1 => exact Kd.C_below HR1_1.out (up_ HB.out))
    (case side2 => exact HC1_1.out)
    rintro e w14 ⟨rfl, hb⟩
    refine ⟨_, rfl, ?_⟩
    have n0_ := Aside0.mk (Kd.N_below (up_ HO244.out) hb)
    have n1_ := bb_ BK240 hb
    have n2_ := bb_ BK241 hb
    have n3_ := bs_ HB hb
    clear HO244
    clear BK240
    clear BK241
    clear HB
    have HO244 := n0_
    have BK240 := n1_
    have BK241 := n2_
    have HB := n3_
    clear n0_ n1_ n2_ n3_
    (try clear hb)
    (try clear hb2)
    (try clear hk)
    (try clear hi)
    refine hK.out _ _ ⟨(blk_cell BK241.out 0).trans rfl, (blk_cell BK241.out 1).trans rfl, (blk_cell BK241.out 2).trans rfl, (blk_cell BK240.out 0).trans rfl⟩ (fun hHeld => ?_)
    clear hK K
    refine nm_ ?_
    refine pu_ 2 (some 16) ?_
    refine pu_ 3 (some 17) ?_
    refine pu_ 6 (some 20) ?_
    refine tk_ 4 (some 18) hHeld ?_
    refine tk_ 7 (some 21) hHeld ?_
    refine one_ (i := 5) (N := some 19) #[true, true, true, true, true, true, true, true, false, false, false, false, false, false, false, false] rfl rfl (one_of HT_.out (by kernel_rfl)) (by decide) (fun K hK => ?_)
    refine goes_ Try.func121 (by kernel_rfl) rfl #[.agg #[.int .i64 a1_0, .slice A1_1 l1_1.length c1_1, .int .i64 a1_2]] (by rfl) rfl rfl am_ ?_
    with_reducible refine (spec_StressesOf.calls k a1_0 _ _ l1_1 a1_2 t246 _ ?side1 ?side2 A10.out).mono ?_
    (case side1 => exact Kd.C_below HR1_1.out (up_ HB.out))
    (case side2 => exact HC1_1.out)
    rintro e w15 ⟨v247, rfl, ho0, hb⟩
    refine ⟨_, rfl, ?_⟩
    have n0_ := Aside0.mk (Kd.N_elder' (up_ HO244.out) (Kd.R_base ho0) hb)
    have n1_ := Aside0.mk (Kd.R_lower (Kd.R_newM (M := fun k_ => (w.heap.size ≤ k_)) ho0 (below_size (up_ HB.out)) (fun k_ h_ => h_)) (below_size (up_ HB.out)))
    have n2_ := bb_ BK240 hb
    have n3_ := bb_ BK241 hb
    have n4_ := bs_ HB hb
    clear HO244
    clear BK240
    clear BK241
    clear HB
    have HO244 := n0_
    have HO248 := n1_
    have BK240 := n2_
    have BK241 := n3_
    have HB := n4_
    clear n0_ n1_ n2_ n3_ n4_
    (try clear hb)
    (try clear hb2)
    (try clear hk)
    (try clear hi)
    (try clear ho0)
    obtain ⟨Ao16, co16, eo16⟩ := Kd.R_slice HO248.out
    (first | subst eo16 | (injection eo16 with f1_ f2_ f3_; have f4_ := f1_.symm; have f5_ := f3_.symm; clear f1_ f2_ f3_; subst f4_; subst f5_))
    refine hK.out _ _ ⟨(blk_cell BK241.out 0).trans rfl, (blk_cell BK241.out 1).trans rfl, (blk_cell BK241.out 2).trans rfl, (blk_cell BK240.out 0).trans rfl⟩ (fun hHeld => ?_)
    clear hK K
    refine nm_ ?_
    refine one_ (i := 8) (N := some 22) #[true, true, true, true, true, true, true, true, true, false, false, false, false, false, false, false] rfl rfl (one_of HT_.out (by kernel_rfl)) (by decide) (fun K hK => ?_)
    refine goes_ Try.func120 (by kernel_rfl) rfl #[.slice Ao16 t246.length co16, .slice A0_0 l0_0.length c0_0] (by rfl) rfl rfl am_ ?_
    with_reducible refine (spec_l5Same.calls k _ _ t246 _ _ l0_0 true _ ?side1 ?side2 ?side3 ?side4 A11.out).mono ?_
    (case side1 => repeat (first | exact (Kd.R_reads' HO248.out).2.2 | (with_reducible refine Kd.C_alloc ?_ _) | (with_reducible refine Kd.C_drewN ?_ _) | (with_reducible refine Kd.C_drew ?_)))
    (case side2 => exact (Kd.R_reads' HO248.out).2.1)
    (case side3 => exact Kd.C_below HR0_0.out (up_ HB.out))
    (case side4 => exact HC0_0.out)
    rintro e w' ⟨rfl, ⟨nd, rfl⟩⟩
    refine ⟨_, rfl, ?_⟩
    refine hK.out _ _ ⟨(blk_cell BK241.out 0).trans rfl, (blk_cell BK241.out 1).trans rfl, (blk_cell BK241.out 2).trans rfl, (blk_cell BK240.out 0).trans rfl⟩ (fun hHeld => ?_)
    clear hK K
    refine nm_ ?_
    refine pu_ 9 (some 23) ?_
    refine pu_ 10 (some 24) ?_
    refine pu_ 11 (some 25) ?_
    refine pu_ 12 (some 26) ?_
    refine tk_ 13 (some 27) hHeld ?_
    refine pu_ 14 (some 28) ?_
    refine pu_ 15 (some 29) ?_
    refine done_ (done_of HT_.out (by kernel_rfl)) ?_
    try go_wp2
    go_meet
    case rel => exact ⟨_, (decide (a1_0 > 4)), rs_, H', ⟨by first | omega | exact Nat.le_refl _⟩, ⟨by (with_reducible repeat (first | apply Kd.N_alloc | apply Kd.N_drewN | apply Kd.N_drew)); exact Kd.N_mono HO244.out (fun _ hk => ⟨hk.1.1, ⟨hk.1.2.1, hk.1.2.2⟩⟩)⟩, ⟨up_ BK240.out⟩, ⟨up_ BK241.out⟩, ⟨up_ HB.out⟩⟩
   ·have H' := Aside0.mk H
    clear H
    try go_wp2
    have n0_ := Aside0.mk (Kd.N_drew HO244.out)
    have n1_ := Aside0.mk (blk_drew BK240.out)
    have n2_ := Aside0.mk (blk_drew BK241.out)
    have n3_ := Aside0.mk (below_drew1 HB.out)
    clear HO244
    clear BK240
    clear BK241
    clear HB
    have HO244 := n0_
    have BK240 := n1_
    have BK241 := n2_
    have HB := n3_
    clear n0_ n1_ n2_ n3_
    refine start_ (n := 16) (S := fun w' => w'.cell? ⟨gb241, 0, none⟩ = some (.int .i64 a1_0) ∧ w'.cell? ⟨gb241, 1, none⟩ = some (.slice A1_1 l1_1.length c1_1) ∧ w'.cell? ⟨gb241, 2, none⟩ = some (.int .i64 a1_2) ∧ w'.cell? ⟨gb240, 0, none⟩ = some (.slice A0_0 l0_0.length c0_0)) (ds := []) #[false, false, false, false, false, false, false, false, false, false, false, false, false, false, false, false] (by kernel_rfl) rfl rfl ⟨(blk_cell BK241.out 0).trans rfl, (blk_cell BK241.out 1).trans rfl, (blk_cell BK241.out 2).trans rfl, (blk_cell BK240.out 0).trans rfl⟩ (fun hHeld => ?_); refine with_tabW spec_FootRows.tab2 spec_FootRows.bits2 (fun HT_ HW_ => ?_)
    generalize w6.drew = w17 at HO244 BK240 BK241 HB hHeld ⊢
    refine tk_ 0 (some 14) hHeld ?_
    refine one_ (i := 1) (N := some 15) #[true, true, false, false, false, false, false, false, false, false, false, false, false, false, false, false] rfl rfl (one_of HT_.out (by kernel_rfl)) (by decide) (fun K hK => ?_)
    refine goes_ Try.func119 (by kernel_rfl) rfl #[.agg #[.int .i64 a1_0, .slice A1_1 l1_1.length c1_1, .int .i64 a1_2]] (by rfl) rfl rfl am_ ?_
    with_reducible refine (spec_IsFooting.calls k a1_0 _ _ l1_1 a1_2 true _ ?side1 ?side2 A8.out).mono ?_
    (case side1 => exact Kd.C_below HR1_1.out (up_ HB.out))
    (case side2 => exact HC1_1.out)
    rintro e w18 ⟨rfl, hb⟩
    refine ⟨_, rfl, ?_⟩
    have n0_ := Aside0.mk (Kd.N_below (up_ HO244.out) hb)
    have n1_ := bb_ BK240 hb
    have n2_ := bb_ BK241 hb
    have n3_ := bs_ HB hb
    clear HO244
    clear BK240
    clear BK241
    clear HB
    have HO244 := n0_
    have BK240 := n1_
    have BK241 := n2_
    have HB := n3_
    clear n0_ n1_ n2_ n3_
    (try clear hb)
    (try clear hb2)
    (try clear hk)
    (try clear hi)
    refine hK.out _ _ ⟨(blk_cell BK241.out 0).trans rfl, (blk_cell BK241.out 1).trans rfl, (blk_cell BK241.out 2).trans rfl, (blk_cell BK240.out 0).trans rfl⟩ (fun hHeld => ?_)
    clear hK K
    refine nm_ ?_
    refine pu_ 2 (some 16) ?_
    refine pu_ 3 (some 17) ?_
    refine pu_ 6 (some 20) ?_
    refine tk_ 4 (some 18) hHeld ?_
    refine tk_ 7 (some 21) hHeld ?_
    refine one_ (i := 5) (N := some 19) #[true, true, true, true, true, true, true, true, false, false, false, false, false, false, false, false] rfl rfl (one_of HT_.out (by kernel_rfl)) (by decide) (fun K hK => ?_)
    refine goes_ Try.func121 (by kernel_rfl) rfl #[.agg #[.int .i64 a1_0, .slice A1_1 l1_1.length c1_1, .int .i64 a1_2]] (by rfl) rfl rfl am_ ?_
    with_reducible refine (spec_StressesOf.calls k a1_0 _ _ l1_1 a1_2 t246 _ ?side1 ?side2 A10.out).mono ?_
    (case side1 => exact Kd.C_below HR1_1.out (up_ HB.out))
    (case side2 => exact HC1_1.out)
    rintro e w19 ⟨v247, rfl, ho0, hb⟩
    refine ⟨_, rfl, ?_⟩
    have n0_ := Aside0.mk (Kd.N_elder' (up_ HO244.out) (Kd.R_base ho0) hb)
    have n1_ := Aside0.mk (Kd.R_lower (Kd.R_newM (M := fun k_ => (w.heap.size ≤ k_)) ho0 (below_size (up_ HB.out)) (fun k_ h_ => h_)) (below_size (up_ HB.out)))
    have n2_ := bb_ BK240 hb
    have n3_ := bb_ BK241 hb
    have n4_ := bs_ HB hb
    clear HO244
    clear BK240
    clear BK241
    clear HB
    have HO244 := n0_
    have HO248 := n1_
    have BK240 := n2_
    have BK241 := n3_
    have HB := n4_
    clear n0_ n1_ n2_ n3_ n4_
    (try clear hb)
    (try clear hb2)
    (try clear hk)
    (try clear hi)
    (try clear ho0)
    obtain ⟨Ao20, co20, eo20⟩ := Kd.R_slice HO248.out
    (first | subst eo20 | (injection eo20 with f1_ f2_ f3_; have f4_ := f1_.symm; have f5_ := f3_.symm; clear f1_ f2_ f3_; subst f4_; subst f5_))
    refine hK.out _ _ ⟨(blk_cell BK241.out 0).trans rfl, (blk_cell BK241.out 1).trans rfl, (blk_cell BK241.out 2).trans rfl, (blk_cell BK240.out 0).trans rfl⟩ (fun hHeld => ?_)
    clear hK K
    refine nm_ ?_
    refine one_ (i := 8) (N := some 22) #[true, true, true, true, true, true, true, true, true, false, false, false, false, false, false, false] rfl rfl (one_of HT_.out (by kernel_rfl)) (by decide) (fun K hK => ?_)
    refine goes_ Try.func120 (by kernel_rfl) rfl #[.slice Ao20 t246.length co20, .slice A0_0 l0_0.length c0_0] (by rfl) rfl rfl am_ ?_
    with_reducible refine (spec_l5Same.calls k _ _ t246 _ _ l0_0 false _ ?side1 ?side2 ?side3 ?side4 A11.out).mono ?_
    (case side1 => repeat (first | exact (Kd.R_reads' HO248.out).2.2 | (with_reducible refine Kd.C_alloc ?_ _) | (with_reducible refine Kd.C_drewN ?_ _) | (with_reducible refine Kd.C_drew ?_)))
    (case side2 => exact (Kd.R_reads' HO248.out).2.1)
    (case side3 => exact Kd.C_below HR0_0.out (up_ HB.out))
    (case side4 => exact HC0_0.out)
    rintro e w' ⟨rfl, ⟨nd, rfl⟩⟩
    refine ⟨_, rfl, ?_⟩
    refine hK.out _ _ ⟨(blk_cell BK241.out 0).trans rfl, (blk_cell BK241.out 1).trans rfl, (blk_cell BK241.out 2).trans rfl, (blk_cell BK240.out 0).trans rfl⟩ (fun hHeld => ?_)
    clear hK K
    refine nm_ ?_
    refine pu_ 9 (some 23) ?_
    refine pu_ 10 (some 24) ?_
    refine pu_ 11 (some 25) ?_
    refine po_ 12 (some 26) ?_
    refine po_ 13 (some 27) ?_
    refine po_ 14 (some 28) ?_
    refine pu_ 15 (some 29) ?_
    refine done_ (done_of HT_.out (by kernel_rfl)) ?_
    try go_wp2
    go_meet
    case rel => exact ⟨_, (true), rs_, H', ⟨by first | omega | exact Nat.le_refl _⟩, ⟨by (with_reducible repeat (first | apply Kd.N_alloc | apply Kd.N_drewN | apply Kd.N_drew)); exact Kd.N_mono HO244.out (fun _ hk => ⟨hk.1.1, ⟨hk.1.2.1, hk.1.2.2⟩⟩)⟩, ⟨up_ BK240.out⟩, ⟨up_ BK241.out⟩, ⟨up_ HB.out⟩⟩
  ·have H' := Aside0.mk H
   clear H
   try go_wp2
   have n0_ := Aside0.mk (Kd.N_drew HO244.out)
   have n1_ := Aside0.mk (blk_drew BK240.out)
   have n2_ := Aside0.mk (blk_drew BK241.out)
   have n3_ := Aside0.mk (below_drew1 HB.out)
   clear HO244
   clear BK240
   clear BK241
   clear HB
   have HO244 := n0_
   have BK240 := n1_
   have BK241 := n2_
   have HB := n3_
   clear n0_ n1_ n2_ n3_
   refine start_ (n := 16) (S := fun w' => w'.cell? ⟨gb241, 0, none⟩ = some (.int .i64 a1_0) ∧ w'.cell? ⟨gb241, 1, none⟩ = some (.slice A1_1 l1_1.length c1_1) ∧ w'.cell? ⟨gb241, 2, none⟩ = some (.int .i64 a1_2)) (ds := []) #[false, false, false, false, false, false, false, false, false, false, false, false, false, false, false, false] (by kernel_rfl) rfl rfl ⟨(blk_cell BK241.out 0).trans rfl, (blk_cell BK241.out 1).trans rfl, (blk_cell BK241.out 2).trans rfl⟩ (fun hHeld => ?_); refine with_tabW spec_FootRows.tab2 spec_FootRows.bits2 (fun HT_ HW_ => ?_)
   generalize w6.drew = w21 at HO244 BK240 BK241 HB hHeld ⊢
   refine tk_ 0 (some 14) hHeld ?_
   refine one_ (i := 1) (N := some 15) #[true, true, false, false, false, false, false, false, false, false, false, false, false, false, false, false] rfl rfl (one_of HT_.out (by kernel_rfl)) (by decide) (fun K hK => ?_)
   refine goes_ Try.func119 (by kernel_rfl) rfl #[.agg #[.int .i64 a1_0, .slice A1_1 l1_1.length c1_1, .int .i64 a1_2]] (by rfl) rfl rfl am_ ?_
   with_reducible refine (spec_IsFooting.calls k a1_0 _ _ l1_1 a1_2 false _ ?side1 ?side2 A8.out).mono ?_
   (case side1 => exact Kd.C_below HR1_1.out (up_ HB.out))
   (case side2 => exact HC1_1.out)
   rintro e w22 ⟨rfl, hb⟩
   refine ⟨_, rfl, ?_⟩
   have n0_ := Aside0.mk (Kd.N_below (up_ HO244.out) hb)
   have n1_ := bb_ BK240 hb
   have n2_ := bb_ BK241 hb
   have n3_ := bs_ HB hb
   clear HO244
   clear BK240
   clear BK241
   clear HB
   have HO244 := n0_
   have BK240 := n1_
   have BK241 := n2_
   have HB := n3_
   clear n0_ n1_ n2_ n3_
   (try clear hb)
   (try clear hb2)
   (try clear hk)
   (try clear hi)
   refine hK.out _ _ ⟨(blk_cell BK241.out 0).trans rfl, (blk_cell BK241.out 1).trans rfl, (blk_cell BK241.out 2).trans rfl⟩ (fun hHeld => ?_)
   clear hK K
   refine nm_ ?_
   refine pu_ 2 (some 16) ?_
   refine pu_ 3 (some 17) ?_
   refine po_ 4 (some 18) ?_
   refine po_ 5 (some 19) ?_
   refine po_ 6 (some 20) ?_
   refine po_ 7 (some 21) ?_
   refine po_ 8 (some 22) ?_
   refine po_ 9 (some 23) ?_
   refine pu_ 10 (some 24) ?_
   refine pu_ 11 (some 25) ?_
   refine po_ 12 (some 26) ?_
   refine po_ 13 (some 27) ?_
   refine po_ 14 (some 28) ?_
   refine pu_ 15 (some 29) ?_
   refine done_ (done_of HT_.out (by kernel_rfl)) ?_
   try go_wp2
   go_meet
   case rel => exact ⟨_, (true), rs_, H', ⟨by first | omega | exact Nat.le_refl _⟩, ⟨up_ HO244.out⟩, ⟨up_ BK240.out⟩, ⟨up_ BK241.out⟩, ⟨up_ HB.out⟩⟩
 case rest =>
  clear HC3
  try clear c1
  try clear p2
  try clear c5
  try clear c9
  try clear c11
  try clear c12
  obtain ⟨kq, x29_2, rfl, HA, HJ2, HO_6, BK240, BK241, HB⟩ := hcut
  cases kq with
  | zero => exact absurd HA.out (by simp [spec_FootRows.j0])
  | succ kj2 =>
   have H := HA.out
   clear HA
   simp only [spec_FootRows.j0] at H
   replace H := itb_ H; rcases H with ⟨rfl, H⟩ | ⟨rfl, H⟩
   ·simp only [Option.some.injEq, Prod.mk.injEq] at H
    obtain ⟨rfl, rfl⟩ := H
    go_wp2
    go_ret2
    exact ⟨_, re_, by (with_reducible repeat (first | apply Kd.N_alloc | apply Kd.N_drewN | apply Kd.N_drew)); exact Kd.N_mono HO_6.out (fun _ hk => hk.1), up_ HB.out⟩
   ·replace H := Option.bind_eq_some_iff.mp H
    obtain ⟨t250, A240, H⟩ := H
    replace H : (spec_FootRows.l0 kj2 y242 t250 0 a1_0 l1_1 a1_2) = some (r1, r2) := H
    have A24 := Aside0.mk A240
    clear A240
    have H' := Aside0.mk H
    clear H
    have hnb25 := NB241_240.out
    have hnc25 := NB240_241.out
    obtain ⟨hcz26_0, hcz26_1, hcz26_2⟩ := c3_ BK241
    have hfz26_0 := blk_frozen BK241.out 0
    have hfz26_1 := blk_frozen BK241.out 1
    have hfz26_2 := blk_frozen BK241.out 2
    go_wp2_with (first | ((with_reducible refine gc_ 122 ?_); refine gl_ (some 33) Try.func122 (spec_FootingsOf.calls kj2 a1_0 t250 _ A24.out) ?_; rintro e w27 ⟨v251, rfl, ho0, hb⟩; refine ⟨_, rfl, ?_⟩; have HO252 := Aside0.mk (Kd.N_lower (Kd.N_mono (ok' := fun k_ => (w.heap.size ≤ k_) ∧ some k_ ≠ (v243 : Value).ownBlock ∧ k_ ≠ gb240 ∧ k_ ≠ gb241) ho0 (fun k_ hk_ => ⟨(Nat.le_trans (below_size (up_ HB.out)) hk_), (Kd.fresh' (Kd.N_lt (up_ HO_6.out)) k_ hk_), (Kd.freshB (g := gb240) (o := .cells #[.slice A0_0 l0_0.length c0_0] 86 (0, 0)) (up_ BK240.out) k_ hk_), (Kd.freshB (g := gb241) (o := .cells #[.int .i64 a1_0, .slice A1_1 l1_1.length c1_1, .int .i64 a1_2] 90 (0, 0)) (up_ BK241.out) k_ hk_)⟩)) (below_size (up_ HB.out))); replace HO_6 := Aside0.mk (Kd.N_elder' (up_ HO_6.out) (Kd.N_base ho0) hb); replace BK240 := bb_ BK240 hb; replace BK241 := bb_ BK241 hb; replace HB := bs_ HB hb; (try clear hb); (try clear hb2); (try clear hk); (try clear hi); (try clear ho0)))
    go_loopg [6, 8] kj2 (fun kq v6 v8 w' => ∃ (x6_2 : List (S34)) (x8_2 : Int), v8 = .int .i64 x8_2 ∧ Aside0 (spec_FootRows.l0 kq x6_2 t250 x8_2 a1_0 l1_1 a1_2 = some (r1, r2)) ∧ Aside0 (kq ≤ kj2) ∧ Aside0 (Kd.N k34 34 w' w.heap.size (fun k_ => (w.heap.size ≤ k_) ∧ some k_ ≠ (v251 : Value).ownBlock ∧ k_ ≠ gb240 ∧ k_ ≠ gb241) v6 x6_2) ∧ Aside0 (Kd.N k90 90 w' w.heap.size (fun k_ => (w.heap.size ≤ k_) ∧ some k_ ≠ (v6 : Value).ownBlock ∧ k_ ≠ gb240 ∧ k_ ≠ gb241) v251 t250) ∧ Aside0 (w'.heap[gb240]? = some (.cells #[(.slice A0_0 l0_0.length c0_0)] 86 (0, 0))) ∧ Aside0 (w'.heap[gb241]? = some (.cells #[.int .i64 a1_0, (.slice A1_1 l1_1.length c1_1), .int .i64 a1_2] 90 (0, 0))) ∧ Aside0 (Below w.heap.size w w'))
    case atStart => exact ⟨(y242), (0), rs_, H', ⟨Nat.le_refl _⟩, ⟨by (with_reducible repeat (first | apply Kd.N_alloc | apply Kd.N_drewN | apply Kd.N_drew)); exact Kd.N_mono HO_6.out (fun _ hk => ⟨hk.1.1, ⟨hk.2, ⟨hk.1.2.1, hk.1.2.2⟩⟩⟩)⟩, ⟨up_ HO252.out⟩, ⟨up_ BK240.out⟩, ⟨up_ BK241.out⟩, ⟨up_ HB.out⟩⟩
    case round =>
     clear H'
     try clear c1
     try clear c2
     try clear p2
     try clear c5
     try clear c9
     try clear c11
     try clear c12
     try clear c23
     try clear c25
     try clear hcz26_0
     try clear hcz26_1
     try clear hcz26_2
     try clear hfz26_0
     try clear hfz26_1
     try clear hfz26_2
     try clear p2
     obtain ⟨x6_2, x8_2, rfl, HA, HK2, HO_6, HO_7, BK240, BK241, HB⟩ := hrel
     cases gk with
     | zero => exact absurd HA.out (by simp [spec_FootRows.l0])
     | succ k2 =>
      have H := HA.out
      clear HA
      simp only [spec_FootRows.l0] at H
      replace H := its_ H; rcases H with ⟨c28b0, H⟩ | ⟨c28b0, H⟩
      ·replace H := Option.bind_eq_some_iff.mp H
       obtain ⟨t253, A290, H⟩ := H
       replace H : (if 0 ≤ x8_2 then ((spec_l23Marks.f k2 ((rd_T90 t250 x8_2).f0) ((rd_T90 t250 x8_2).f1) ((rd_T90 t250 x8_2).f2)).bind fun t257 => ((spec_RowOf.f k2 t253 t257).bind fun bt260 => ((spec_IsTrivial.f k2 bt260.1).bind fun t265 => (spec_FootRows.l1 k2 x6_2 t250 x8_2 t265 0 a1_0 l1_1 a1_2 bt260.1)))) else (none)) = some (r1, r2) := H
       have A29 := Aside0.mk A290
       clear A290
       replace H := its_ H; rcases H with ⟨c30b0, H⟩ | ⟨_, ⟨⟩⟩
       replace H := Option.bind_eq_some_iff.mp H
       obtain ⟨t257, A310, H⟩ := H
       replace H : ((spec_RowOf.f k2 t253 t257).bind fun bt260 => ((spec_IsTrivial.f k2 bt260.1).bind fun t265 => (spec_FootRows.l1 k2 x6_2 t250 x8_2 t265 0 a1_0 l1_1 a1_2 bt260.1))) = some (r1, r2) := H
       have A31 := Aside0.mk A310
       clear A310
       replace H := Option.bind_eq_some_iff.mp H
       obtain ⟨⟨t260, t263⟩, A320, H⟩ := H
       replace H : ((spec_IsTrivial.f k2 t260).bind fun t265 => (spec_FootRows.l1 k2 x6_2 t250 x8_2 t265 0 a1_0 l1_1 a1_2 t260)) = some (r1, r2) := H
       have A32 := Aside0.mk A320
       clear A320
       replace H := Option.bind_eq_some_iff.mp H
       obtain ⟨t265, A330, H⟩ := H
       replace H : (spec_FootRows.l1 k2 x6_2 t250 x8_2 t265 0 a1_0 l1_1 a1_2 t260) = some (r1, r2) := H
       have A33 := Aside0.mk A330
       clear A330
       have H' := Aside0.mk H
       clear H
       obtain ⟨Ao34, co34, eo34⟩ := Kd.N_slice HO_7.out
       subst eo34
       try go_wp2
       have n0_ := Aside0.mk (Kd.N_drew HO_6.out)
       have n1_ := Aside0.mk (Kd.N_drew HO_7.out)
       have n2_ := Aside0.mk (blk_drew BK240.out)
       have n3_ := Aside0.mk (blk_drew BK241.out)
       have n4_ := Aside0.mk (below_drew1 HB.out)
       clear HO_6
       clear HO_7
       clear BK240
       clear BK241
       clear HB
       have HO_6 := n0_
       have HO_7 := n1_
       have BK240 := n2_
       have BK241 := n3_
       have HB := n4_
       clear n0_ n1_ n2_ n3_ n4_
       have p256 : 0 ≤ (x8_2 : Int) := od_
       have q256 : x8_2 < (t250.length : Int) := od_
       obtain ⟨ad256, A256_1, c256_1, e256, hx256_0, hx256_1, hx256_2, hl256_1, hi256_1⟩ := at_T90 (Kd.N_reads' HO_7.out).2.2 x8_2 p256 q256
       cases e256
       obtain ⟨ce256, hce256, hMe256, hcc256⟩ := Kd.N_get HO_7.out z90 x8_2 p256 (by first | exact q256 | exact od_ | (have e_ := (Kd.N_reads' HO_7.out).1; omega))
       obtain ⟨ua256_1, uc256_1, rfl, ul256_1, ge256_1⟩ := k90_openF hMe256
       have hv256_1 := hcc256 1 _ rfl
       rw [add_field _ _ 1 (by omega)] at hv256_1
       replace hv256_1 := Option.some.inj (hv256_1.symm.trans hx256_1)
       injection hv256_1 with hva_ hvn_ hvc_
       rw [hva_] at ge256_1
       rw [hvc_] at ul256_1
       have HL256_1 := Aside0.mk (show Kd.V k166 166 _ w.heap.size _ _ ((rd_T90 t250 x8_2).f1) from Kd.V_mk ul256_1 ge256_1)
       clear hva_ hvn_ hvc_ ge256_1 ul256_1
       clear hcc256 hce256
       have HR256_1 := Aside0.mk hi256_1
       have HC256_1 := Aside0.mk hl256_1
       clear hi256_1 hl256_1
       replace p256 := eq_true p256
       replace q256 := eq_true q256
       refine start_ (n := 14) (S := fun w' => w'.cell? ⟨gb241, 0, none⟩ = some (.int .i64 a1_0) ∧ w'.cell? ⟨gb241, 1, none⟩ = some (.slice A1_1 l1_1.length c1_1) ∧ w'.cell? ⟨gb241, 2, none⟩ = some (.int .i64 a1_2) ∧ w'.cell? (ad256.add ((x8_2).toNat * 3)) = some (.int .i64 ((rd_T90 t250 x8_2).f0)) ∧ w'.cell? ⟨(ad256.add ((x8_2).toNat * 3)).block, (ad256.add ((x8_2).toNat * 3)).off + 1, none⟩ = some (.slice A256_1 ((rd_T90 t250 x8_2).f1).length c256_1) ∧ w'.cell? ⟨(ad256.add ((x8_2).toNat * 3)).block, (ad256.add ((x8_2).toNat * 3)).off + 2, none⟩ = some (.int .i64 ((rd_T90 t250 x8_2).f2))) (ds := []) #[false, false, false, false, false, false, false, false, false, false, false, false, false, false] (by kernel_rfl) rfl rfl ⟨(blk_cell BK241.out 0).trans rfl, (blk_cell BK241.out 1).trans rfl, (blk_cell BK241.out 2).trans rfl, hx256_0, hx256_1, hx256_2⟩ (fun hHeld => ?_); refine with_tabW spec_FootRows.tab8 spec_FootRows.bits8 (fun HT_ HW_ => ?_)
       generalize wr.drew = w35 at HO_6 HO_7 BK240 BK241 HB HL256_1 HR256_1 hx256_0 hx256_1 hx256_2 hHeld ⊢
       refine pu_ 2 (some 43) ?_
       refine pu_ 3 (some 44) ?_
       refine pu_ 4 (some 45) ?_
       refine tk_ 0 (some 41) hHeld ?_
       refine tk_ 5 (some 46) hHeld ?_
       refine join_ (σ := Value × Value × Value × Nat) 2 #[true, true, true, true, true, true, true, true, true, true, true, true, false, false] (fun s_ => [(42, s_.1), (47, s_.2.1), (48, .tuple #[.agg #[s_.2.2.1], .bool t263]), (9, .pointer (some ⟨s_.2.2.2, 0, none⟩)), (40, .tuple #[.agg #[s_.2.2.1], .bool t263]), (49, .agg #[s_.2.2.1]), (50, .bool t263)]) (fun s_ w' => (w'.cell? ⟨gb241, 0, none⟩ = some (.int .i64 a1_0) ∧ w'.cell? ⟨gb241, 1, none⟩ = some (.slice A1_1 l1_1.length c1_1) ∧ w'.cell? ⟨gb241, 2, none⟩ = some (.int .i64 a1_2) ∧ w'.cell? (ad256.add ((x8_2).toNat * 3)) = some (.int .i64 ((rd_T90 t250 x8_2).f0)) ∧ w'.cell? ⟨(ad256.add ((x8_2).toNat * 3)).block, (ad256.add ((x8_2).toNat * 3)).off + 1, none⟩ = some (.slice A256_1 ((rd_T90 t250 x8_2).f1).length c256_1) ∧ w'.cell? ⟨(ad256.add ((x8_2).toNat * 3)).block, (ad256.add ((x8_2).toNat * 3)).off + 2, none⟩ = some (.int .i64 ((rd_T90 t250 x8_2).f2))) ∧ (Kd.V k166 166 w' w.heap.size (fun k_ => (w.heap.size ≤ k_) ∧ some k_ ≠ (s_.1 : Value).ownBlock ∧ some k_ ≠ (s_.2.1 : Value).ownBlock ∧ some k_ ≠ (s_.2.2.1 : Value).ownBlock ∧ some k_ ≠ (u6 : Value).ownBlock ∧ some k_ ≠ (.slice (some ad256) t250.length co34 : Value).ownBlock ∧ k_ ≠ gb240 ∧ k_ ≠ gb241 ∧ k_ ≠ s_.2.2.2) (.slice A256_1 ((rd_T90 t250 x8_2).f1).length c256_1) ((rd_T90 t250 x8_2).f1)) ∧ (Kd.R (Kd.int .i64) 3 w' w.heap.size (fun k_ => (w.heap.size ≤ k_) ∧ some k_ ≠ (s_.2.1 : Value).ownBlock ∧ some k_ ≠ (s_.2.2.1 : Value).ownBlock) s_.1 t253) ∧ (Kd.R (Kd.int .i64) 3 w' w.heap.size (fun k_ => (w.heap.size ≤ k_) ∧ some k_ ≠ (s_.1 : Value).ownBlock ∧ some k_ ≠ (s_.2.2.1 : Value).ownBlock) s_.2.1 t257) ∧ (Kd.R (Kd.int .i64) 3 w' w.heap.size (fun k_ => (w.heap.size ≤ k_) ∧ some k_ ≠ (s_.1 : Value).ownBlock ∧ some k_ ≠ (s_.2.1 : Value).ownBlock) s_.2.2.1 t260) ∧ (Kd.N k34 34 w' w.heap.size (fun k_ => (w.heap.size ≤ k_) ∧ some k_ ≠ (s_.1 : Value).ownBlock ∧ some k_ ≠ (s_.2.1 : Value).ownBlock ∧ some k_ ≠ (s_.2.2.1 : Value).ownBlock ∧ some k_ ≠ (.slice (some ad256) t250.length co34 : Value).ownBlock ∧ k_ ≠ gb240 ∧ k_ ≠ gb241 ∧ k_ ≠ s_.2.2.2) u6 x6_2) ∧ (Kd.N k90 90 w' w.heap.size (fun k_ => (w.heap.size ≤ k_) ∧ some k_ ≠ (s_.1 : Value).ownBlock ∧ some k_ ≠ (s_.2.1 : Value).ownBlock ∧ some k_ ≠ (s_.2.2.1 : Value).ownBlock ∧ some k_ ≠ (u6 : Value).ownBlock ∧ k_ ≠ gb240 ∧ k_ ≠ gb241 ∧ k_ ≠ s_.2.2.2) (.slice (some ad256) t250.length co34) t250) ∧ (w'.heap[gb240]? = some (.cells #[.slice A0_0 l0_0.length c0_0] 86 (0, 0))) ∧ (w'.heap[gb241]? = some (.cells #[.int .i64 a1_0, .slice A1_1 l1_1.length c1_1, .int .i64 a1_2] 90 (0, 0))) ∧ (w'.heap[s_.2.2.2]? = some (.cells #[.slice none 0 0] 34 (0, 0))) ∧ (w.heap.size ≤ s_.2.2.2) ∧ (w.heap.size ≤ s_.2.2.2) ∧ (gb240 ≠ s_.2.2.2) ∧ (s_.2.2.2 ≠ gb240) ∧ (gb241 ≠ s_.2.2.2) ∧ (s_.2.2.2 ≠ gb241) ∧ (Below w.heap.size w w')) ?_ ?_
       rotate_left
       ·intro hCont
        refine two_ (i := 1) (j := 11) (Ni := some 42) (Nj := some 9) #[true, true, true, true, true, true, false, false, false, false, false, false, false, false] #[true, false, true, true, true, true, false, false, false, false, false, true, false, false] rfl rfl rfl rfl (two_of HT_.out (by kernel_rfl)) (by decide) (by decide) (fun K hK => ?_) (fun K hK => ?_)
        ·skip
         refine goes_ Try.func124 (by kernel_rfl) rfl #[.agg #[.int .i64 a1_0, .slice A1_1 l1_1.length c1_1, .int .i64 a1_2]] (by rfl) rfl rfl am_ ?_
         with_reducible refine (spec_l23Marks.calls k2 a1_0 _ _ l1_1 a1_2 t253 _ ?side1 ?side2 A29.out).mono ?_
         (case side1 => exact Kd.C_below HR1_1.out (up_ HB.out))
         (case side2 => exact HC1_1.out)
         rintro e w36 ⟨v254, rfl, ho0, hb⟩
         have HS3_ := (hb.cell (World.block_lt_of_cell? _ _ (hHeld.2.2.2.1))).trans (hHeld.2.2.2.1)
         have HS4_ := (hb.cell (World.block_lt_of_cell? _ _ (hHeld.2.2.2.2.1))).trans (hHeld.2.2.2.2.1)
         have HS5_ := (hb.cell (World.block_lt_of_cell? _ _ (hHeld.2.2.2.2.2))).trans (hHeld.2.2.2.2.2)
         refine ⟨_, rfl, ?_⟩
         have n0_ := Aside0.mk (Kd.N_elder' (up_ HO_6.out) (Kd.R_base ho0) hb)
         have n1_ := Aside0.mk (Kd.N_elder' (up_ HO_7.out) (Kd.R_base ho0) hb)
         have n2_ := Aside0.mk (Kd.V_elder' (up_ HL256_1.out) (Kd.R_base ho0) hb)
         have n3_ := Aside0.mk (Kd.R_lower (Kd.R_newM (M := fun k_ => (w.heap.size ≤ k_)) ho0 (below_size (up_ HB.out)) (fun k_ h_ => h_)) (below_size (up_ HB.out)))
         have n4_ := bb_ BK240 hb
         have n5_ := bb_ BK241 hb
         have n6_ := Aside0.mk (Kd.C_below (up_ HR256_1.out) hb)
         have n7_ := bs_ HB hb
         clear HO_6
         clear HO_7
         clear HL256_1
         clear BK240
         clear BK241
         clear HR256_1
         clear HB
         have HO_6 := n0_
         have HO_7 := n1_
         have HL256_1 := n2_
         have HO255 := n3_
         have BK240 := n4_
         have BK241 := n5_
         have HR256_1 := n6_
         have HB := n7_
         clear n0_ n1_ n2_ n3_ n4_ n5_ n6_ n7_
         (try clear hb)
         (try clear hb2)
         (try clear hk)
         (try clear hi)
         (try clear ho0)
         refine hK.out _ _ ⟨(blk_cell BK241.out 0).trans rfl, (blk_cell BK241.out 1).trans rfl, (blk_cell BK241.out 2).trans rfl, HS3_, HS4_, HS5_⟩ (fun hHeld => ?_)
         clear hK K
         refine nm_ ?_
         refine two_ (i := 6) (j := 11) (Ni := some 47) (Nj := some 9) #[true, true, true, true, true, true, true, false, false, false, false, false, false, false] #[true, true, true, true, true, true, false, false, false, false, false, true, false, false] rfl rfl rfl rfl (two_of HT_.out (by kernel_rfl)) (by decide) (by decide) (fun K hK => ?_) (fun K hK => ?_)
         ·skip
          refine goes_ Try.func124 (by kernel_rfl) rfl #[.agg #[.int .i64 ((rd_T90 t250 x8_2).f0), .slice A256_1 ((rd_T90 t250 x8_2).f1).length c256_1, .int .i64 ((rd_T90 t250 x8_2).f2)]] (by rfl) rfl rfl am_ ?_
          with_reducible refine (spec_l23Marks.calls k2 ((rd_T90 t250 x8_2).f0) _ _ ((rd_T90 t250 x8_2).f1) ((rd_T90 t250 x8_2).f2) t257 _ ?side1 ?side2 A31.out).mono ?_
          (case side1 => exact up_ HR256_1.out)
          (case side2 => exact HC256_1.out)
          rintro e w37 ⟨v258, rfl, ho0, hb⟩
          have HS3_ := (hb.cell (World.block_lt_of_cell? _ _ (hHeld.2.2.2.1))).trans (hHeld.2.2.2.1)
          have HS4_ := (hb.cell (World.block_lt_of_cell? _ _ (hHeld.2.2.2.2.1))).trans (hHeld.2.2.2.2.1)
          have HS5_ := (hb.cell (World.block_lt_of_cell? _ _ (hHeld.2.2.2.2.2))).trans (hHeld.2.2.2.2.2)
          refine ⟨_, rfl, ?_⟩
          have n0_ := Aside0.mk (Kd.N_elder' (up_ HO_6.out) (Kd.R_base ho0) hb)
          have n1_ := Aside0.mk (Kd.N_elder' (up_ HO_7.out) (Kd.R_base ho0) hb)
          have n2_ := Aside0.mk (Kd.V_elder' (up_ HL256_1.out) (Kd.R_base ho0) hb)
          have n3_ := Aside0.mk (Kd.R_elder' (up_ HO255.out) (Kd.R_base ho0) hb)
          have n4_ := Aside0.mk (Kd.R_lower (Kd.R_new' (Kd.R_newM (M := fun k_ => (w.heap.size ≤ k_)) ho0 (below_size (up_ HB.out)) (fun k_ h_ => h_)) (Kd.R_lt (up_ HO255.out))) (below_size (up_ HB.out)))
          have n5_ := bb_ BK240 hb
          have n6_ := bb_ BK241 hb
          have n7_ := Aside0.mk (Kd.C_below (up_ HR256_1.out) hb)
          have n8_ := bs_ HB hb
          clear HO_6
          clear HO_7
          clear HL256_1
          clear HO255
          clear BK240
          clear BK241
          clear HR256_1
          clear HB
          have HO_6 := n0_
          have HO_7 := n1_
          have HL256_1 := n2_
          have HO255 := n3_
          have HO259 := n4_
          have BK240 := n5_
          have BK241 := n6_
          have HR256_1 := n7_
          have HB := n8_
          clear n0_ n1_ n2_ n3_ n4_ n5_ n6_ n7_ n8_
          (try clear hb)
          (try clear hb2)
          (try clear hk)
          (try clear hi)
          (try clear ho0)
          obtain ⟨Ao38, co38, eo38⟩ := Kd.R_slice HO255.out
          (first | subst eo38 | (injection eo38 with f1_ f2_ f3_; have f4_ := f1_.symm; have f5_ := f3_.symm; clear f1_ f2_ f3_; subst f4_; subst f5_))
          obtain ⟨Ao39, co39, eo39⟩ := Kd.R_slice HO259.out
          (first | subst eo39 | (injection eo39 with f1_ f2_ f3_; have f4_ := f1_.symm; have f5_ := f3_.symm; clear f1_ f2_ f3_; subst f4_; subst f5_))
          refine hK.out _ _ ⟨(blk_cell BK241.out 0).trans rfl, (blk_cell BK241.out 1).trans rfl, (blk_cell BK241.out 2).trans rfl, HS3_, HS4_, HS5_⟩ (fun hHeld => ?_)
          clear hK K
          refine nm_ ?_
          refine two_ (i := 7) (j := 11) (Ni := some 48) (Nj := some 9) #[true, true, true, true, true, true, true, true, false, false, false, false, false, false] #[true, true, true, true, true, true, true, false, false, false, false, true, false, false] rfl rfl rfl rfl (two_of HT_.out (by kernel_rfl)) (by decide) (by decide) (fun K hK => ?_) (fun K hK => ?_)
          ·skip
           refine goes_ Try.func123 (by kernel_rfl) rfl #[.slice Ao38 t253.length co38, .slice Ao39 t257.length co39] (by rfl) rfl rfl am_ ?_
           with_reducible refine (spec_RowOf.calls k2 _ _ t253 _ _ t257 t260 t263 _ ?side1 ?side2 ?side3 ?side4 A32.out).mono ?_
           (case side1 => repeat (first | exact (Kd.R_reads' HO255.out).2.2 | (with_reducible refine Kd.C_alloc ?_ _) | (with_reducible refine Kd.C_drewN ?_ _) | (with_reducible refine Kd.C_drew ?_)))
           (case side2 => exact (Kd.R_reads' HO255.out).2.1)
           (case side3 => repeat (first | exact (Kd.R_reads' HO259.out).2.2 | (with_reducible refine Kd.C_alloc ?_ _) | (with_reducible refine Kd.C_drewN ?_ _) | (with_reducible refine Kd.C_drew ?_)))
           (case side4 => exact (Kd.R_reads' HO259.out).2.1)
           rintro e w40 ⟨v261, rfl, ho0, hb⟩
           have HS3_ := (hb.cell (World.block_lt_of_cell? _ _ (hHeld.2.2.2.1))).trans (hHeld.2.2.2.1)
           have HS4_ := (hb.cell (World.block_lt_of_cell? _ _ (hHeld.2.2.2.2.1))).trans (hHeld.2.2.2.2.1)
           have HS5_ := (hb.cell (World.block_lt_of_cell? _ _ (hHeld.2.2.2.2.2))).trans (hHeld.2.2.2.2.2)
           refine ⟨_, rfl, ?_⟩
           have n0_ := Aside0.mk (Kd.N_elder' (up_ HO_6.out) (Kd.R_base ho0) hb)
           have n1_ := Aside0.mk (Kd.N_elder' (up_ HO_7.out) (Kd.R_base ho0) hb)
           have n2_ := Aside0.mk (Kd.V_elder' (up_ HL256_1.out) (Kd.R_base ho0) hb)
           have n3_ := Aside0.mk (Kd.R_elder' (up_ HO255.out) (Kd.R_base ho0) hb)
           have n4_ := Aside0.mk (Kd.R_elder' (up_ HO259.out) (Kd.R_base ho0) hb)
           have n5_ := Aside0.mk (Kd.R_lower (Kd.R_new' (Kd.R_new' (Kd.R_newM (M := fun k_ => (w.heap.size ≤ k_)) ho0 (below_size (up_ HB.out)) (fun k_ h_ => h_)) (Kd.R_lt (up_ HO255.out))) (Kd.R_lt (up_ HO259.out))) (below_size (up_ HB.out)))
           have n6_ := bb_ BK240 hb
           have n7_ := bb_ BK241 hb
           have n8_ := Aside0.mk (Kd.C_below (up_ HR256_1.out) hb)
           have n9_ := bs_ HB hb
           clear HO_6
           clear HO_7
           clear HL256_1
           clear HO255
           clear HO259
           clear BK240
           clear BK241
           clear HR256_1
           clear HB
           have HO_6 := n0_
           have HO_7 := n1_
           have HL256_1 := n2_
           have HO255 := n3_
           have HO259 := n4_
           have HO262 := n5_
           have BK240 := n6_
           have BK241 := n7_
           have HR256_1 := n8_
           have HB := n9_
           clear n0_ n1_ n2_ n3_ n4_ n5_ n6_ n7_ n8_ n9_
           (try clear hb)
           (try clear hb2)
           (try clear hk)
           (try clear hi)
           (try clear ho0)
           refine hK.out _ _ ⟨(blk_cell BK241.out 0).trans rfl, (blk_cell BK241.out 1).trans rfl, (blk_cell BK241.out 2).trans rfl, HS3_, HS4_, HS5_⟩ (fun hHeld => ?_)
           clear hK K
           refine nm_ ?_
           refine pu_ 8 (some 40) ?_
           refine pu_ 9 (some 49) ?_
           refine pu_ 10 (some 50) ?_
           refine one_ (i := 11) (N := some 9) #[true, true, true, true, true, true, true, true, true, true, true, true, false, false] rfl rfl (one_of HT_.out (by kernel_rfl)) (by decide) (fun K hK => ?_)
           refine box_step ?hg (N := 9) ?hd (cs := #[.slice none 0 0]) (t := 34) ?hr ?_; (case hd => rfl); (case hg => rfl); (case hr => first | (go_simp; done) | (go_simp; rfl))
           intro gb264 hg w41 hbox hb
           have HS3_ := (hb.cell (World.block_lt_of_cell? _ _ (hHeld.2.2.2.1))).trans (hHeld.2.2.2.1)
           have HS4_ := (hb.cell (World.block_lt_of_cell? _ _ (hHeld.2.2.2.2.1))).trans (hHeld.2.2.2.2.1)
           have HS5_ := (hb.cell (World.block_lt_of_cell? _ _ (hHeld.2.2.2.2.2))).trans (hHeld.2.2.2.2.2)
           have n0_ := Aside0.mk (Kd.N_below (Kd.N_elderB (up_ HO_6.out) gb264 (Nat.le_of_eq hg.symm)) hb)
           have n1_ := Aside0.mk (Kd.N_below (Kd.N_elderB (up_ HO_7.out) gb264 (Nat.le_of_eq hg.symm)) hb)
           have n2_ := Aside0.mk (Kd.V_below (Kd.V_elderB (up_ HL256_1.out) gb264 (Nat.le_of_eq hg.symm)) hb)
           have n3_ := Aside0.mk (Kd.R_below (up_ HO255.out) hb)
           have n4_ := Aside0.mk (Kd.R_below (up_ HO259.out) hb)
           have n5_ := Aside0.mk (Kd.R_below (up_ HO262.out) hb)
           have n6_ := bb_ BK240 hb
           have n7_ := bb_ BK241 hb
           have n8_ := Aside0.mk (Kd.C_below (up_ HR256_1.out) hb)
           have n9_ := bs_ HB hb
           have n10_ := Aside0.mk (hbox)
           have n11_ := gw_ HB hg
           have n12_ := gw_ HB hg
           have n13_ := Aside0.mk ((by rw [hg]; exact Nat.ne_of_lt (blk_lt (g := gb240) (o := .cells #[.slice A0_0 l0_0.length c0_0] 86 (0, 0)) (up_ BK240.out)) : gb240 ≠ gb264))
           have n14_ := Aside0.mk ((by rw [hg]; exact Nat.ne_of_gt (blk_lt (g := gb240) (o := .cells #[.slice A0_0 l0_0.length c0_0] 86 (0, 0)) (up_ BK240.out)) : gb264 ≠ gb240))
           have n15_ := Aside0.mk ((by rw [hg]; exact Nat.ne_of_lt (blk_lt (g := gb241) (o := .cells #[.int .i64 a1_0, .slice A1_1 l1_1.length c1_1, .int .i64 a1_2] 90 (0, 0)) (up_ BK241.out)) : gb241 ≠ gb264))
           have n16_ := Aside0.mk ((by rw [hg]; exact Nat.ne_of_gt (blk_lt (g := gb241) (o := .cells #[.int .i64 a1_0, .slice A1_1 l1_1.length c1_1, .int .i64 a1_2] 90 (0, 0)) (up_ BK241.out)) : gb264 ≠ gb241))
           clear HO_6
           clear HO_7
           clear HL256_1
           clear HO255
           clear HO259
           clear HO262
           clear BK240
           clear BK241
           clear HR256_1
           clear HB
           have HO_6 := n0_
           have HO_7 := n1_
           have HL256_1 := n2_
           have HO255 := n3_
           have HO259 := n4_
           have HO262 := n5_
           have BK240 := n6_
           have BK241 := n7_
           have HR256_1 := n8_
           have HB := n9_
           have BK264 := n10_
           have GW264 := n11_
           have GE264 := n12_
           have NB240_264 := n13_
           have NB264_240 := n14_
           have NB241_264 := n15_
           have NB264_241 := n16_
           clear n0_ n1_ n2_ n3_ n4_ n5_ n6_ n7_ n8_ n9_ n10_ n11_ n12_ n13_ n14_ n15_ n16_
           clear hb hbox hg
           refine hK.out _ _ ⟨(blk_cell BK241.out 0).trans rfl, (blk_cell BK241.out 1).trans rfl, (blk_cell BK241.out 2).trans rfl, HS3_, HS4_, HS5_⟩ (fun hHeld => ?_)
           clear hK K
           refine nm_ ?_
           exact norm_ (by simp only [putAll, Act.put, List.setIfInBounds_toArray, List.set_cons_zero, List.set_cons_succ]) (hCont (.slice Ao38 t253.length co38, .slice Ao39 t257.length co39, v261, gb264) _ ⟨hHeld, (by (with_reducible repeat (first | apply Kd.V_alloc | apply Kd.V_drewN | apply Kd.V_drew)); exact Kd.V_mono HL256_1.out (fun _ hk => ⟨hk.1.1.1.1.1.1, ⟨hk.1.1.1.2, ⟨hk.1.1.2, ⟨hk.1.2, ⟨hk.1.1.1.1.1.2.1, ⟨hk.1.1.1.1.2, ⟨hk.1.1.1.1.1.2.2.1, ⟨hk.1.1.1.1.1.2.2.2, hk.2⟩⟩⟩⟩⟩⟩⟩⟩)), (by (with_reducible repeat (first | apply Kd.R_alloc | apply Kd.R_drewN | apply Kd.R_drew)); exact Kd.R_mono HO255.out (fun _ hk => ⟨hk.1.1.1, ⟨hk.1.2, hk.2⟩⟩)), (by (with_reducible repeat (first | apply Kd.R_alloc | apply Kd.R_drewN | apply Kd.R_drew)); exact Kd.R_mono HO259.out (fun _ hk => ⟨hk.1.1.1, ⟨hk.1.2, hk.2⟩⟩)), (by (with_reducible repeat (first | apply Kd.R_alloc | apply Kd.R_drewN | apply Kd.R_drew)); exact Kd.R_mono HO262.out (fun _ hk => ⟨hk.1.1.1, ⟨hk.1.2, hk.2⟩⟩)), (by (with_reducible repeat (first | apply Kd.N_alloc | apply Kd.N_drewN | apply Kd.N_drew)); exact Kd.N_mono HO_6.out (fun _ hk => ⟨hk.1.1.1.1.1, ⟨hk.1.1.1.2, ⟨hk.1.1.2, ⟨hk.1.2, ⟨hk.1.1.1.1.2.1, ⟨hk.1.1.1.1.2.2.1, ⟨hk.1.1.1.1.2.2.2, hk.2⟩⟩⟩⟩⟩⟩⟩)), (by (with_reducible repeat (first | apply Kd.N_alloc | apply Kd.N_drewN | apply Kd.N_drew)); exact Kd.N_mono HO_7.out (fun _ hk => ⟨hk.1.1.1.1.1, ⟨hk.1.1.1.2, ⟨hk.1.1.2, ⟨hk.1.2, ⟨hk.1.1.1.1.2.1, ⟨hk.1.1.1.1.2.2.1, ⟨hk.1.1.1.1.2.2.2, hk.2⟩⟩⟩⟩⟩⟩⟩)), (up_ BK240.out), (up_ BK241.out), (up_ BK264.out), GW264.out, GE264.out, NB240_264.out, NB264_240.out, NB241_264.out, NB264_241.out, (up_ HB.out)⟩)
          ·skip
           refine box_step ?hg (N := 9) ?hd (cs := #[.slice none 0 0]) (t := 34) ?hr ?_; (case hd => rfl); (case hg => rfl); (case hr => first | (go_simp; done) | (go_simp; rfl))
           intro gb264 hg w38 hbox hb
           have HS3_ := (hb.cell (World.block_lt_of_cell? _ _ (hHeld.2.2.2.1))).trans (hHeld.2.2.2.1)
           have HS4_ := (hb.cell (World.block_lt_of_cell? _ _ (hHeld.2.2.2.2.1))).trans (hHeld.2.2.2.2.1)
           have HS5_ := (hb.cell (World.block_lt_of_cell? _ _ (hHeld.2.2.2.2.2))).trans (hHeld.2.2.2.2.2)
           have n0_ := Aside0.mk (Kd.N_below (Kd.N_elderB (up_ HO_6.out) gb264 (Nat.le_of_eq hg.symm)) hb)
           have n1_ := Aside0.mk (Kd.N_below (Kd.N_elderB (up_ HO_7.out) gb264 (Nat.le_of_eq hg.symm)) hb)
           have n2_ := Aside0.mk (Kd.V_below (Kd.V_elderB (up_ HL256_1.out) gb264 (Nat.le_of_eq hg.symm)) hb)
           have n3_ := Aside0.mk (Kd.R_below (up_ HO255.out) hb)
           have n4_ := Aside0.mk (Kd.R_below (up_ HO259.out) hb)
           have n5_ := bb_ BK240 hb
           have n6_ := bb_ BK241 hb
           have n7_ := Aside0.mk (Kd.C_below (up_ HR256_1.out) hb)
           have n8_ := bs_ HB hb
           have n9_ := Aside0.mk (hbox)
           have n10_ := gw_ HB hg
           have n11_ := gw_ HB hg
           have n12_ := Aside0.mk ((by rw [hg]; exact Nat.ne_of_lt (blk_lt (g := gb240) (o := .cells #[.slice A0_0 l0_0.length c0_0] 86 (0, 0)) (up_ BK240.out)) : gb240 ≠ gb264))
           have n13_ := Aside0.mk ((by rw [hg]; exact Nat.ne_of_gt (blk_lt (g := gb240) (o := .cells #[.slice A0_0 l0_0.length c0_0] 86 (0, 0)) (up_ BK240.out)) : gb264 ≠ gb240))
           have n14_ := Aside0.mk ((by rw [hg]; exact Nat.ne_of_lt (blk_lt (g := gb241) (o := .cells #[.int .i64 a1_0, .slice A1_1 l1_1.length c1_1, .int .i64 a1_2] 90 (0, 0)) (up_ BK241.out)) : gb241 ≠ gb264))
           have n15_ := Aside0.mk ((by rw [hg]; exact Nat.ne_of_gt (blk_lt (g := gb241) (o := .cells #[.int .i64 a1_0, .slice A1_1 l1_1.length c1_1, .int .i64 a1_2] 90 (0, 0)) (up_ BK241.out)) : gb264 ≠ gb241))
           clear HO_6
           clear HO_7
           clear HL256_1
           clear HO255
           clear HO259
           clear BK240
           clear BK241
           clear HR256_1
           clear HB
           have HO_6 := n0_
           have HO_7 := n1_
           have HL256_1 := n2_
           have HO255 := n3_
           have HO259 := n4_
           have BK240 := n5_
           have BK241 := n6_
           have HR256_1 := n7_
           have HB := n8_
           have BK264 := n9_
           have GW264 := n10_
           have GE264 := n11_
           have NB240_264 := n12_
           have NB264_240 := n13_
           have NB241_264 := n14_
           have NB264_241 := n15_
           clear n0_ n1_ n2_ n3_ n4_ n5_ n6_ n7_ n8_ n9_ n10_ n11_ n12_ n13_ n14_ n15_
           clear hb hbox hg
           obtain ⟨Ao39, co39, eo39⟩ := Kd.R_slice HO255.out
           (first | subst eo39 | (injection eo39 with f1_ f2_ f3_; have f4_ := f1_.symm; have f5_ := f3_.symm; clear f1_ f2_ f3_; subst f4_; subst f5_))
           obtain ⟨Ao40, co40, eo40⟩ := Kd.R_slice HO259.out
           (first | subst eo40 | (injection eo40 with f1_ f2_ f3_; have f4_ := f1_.symm; have f5_ := f3_.symm; clear f1_ f2_ f3_; subst f4_; subst f5_))
           refine hK.out _ _ ⟨(blk_cell BK241.out 0).trans rfl, (blk_cell BK241.out 1).trans rfl, (blk_cell BK241.out 2).trans rfl, HS3_, HS4_, HS5_⟩ (fun hHeld => ?_)
           clear hK K
           refine nm_ ?_
           refine one_ (i := 7) (N := some 48) #[true, true, true, true, true, true, true, true, false, false, false, true, false, false] rfl rfl (one_of HT_.out (by kernel_rfl)) (by decide) (fun K hK => ?_)
           refine goes_ Try.func123 (by kernel_rfl) rfl #[.slice Ao39 t253.length co39, .slice Ao40 t257.length co40] (by rfl) rfl rfl am_ ?_
           with_reducible refine (spec_RowOf.calls k2 _ _ t253 _ _ t257 t260 t263 _ ?side1 ?side2 ?side3 ?side4 A32.out).mono ?_
           (case side1 => repeat (first | exact (Kd.R_reads' HO255.out).2.2 | (with_reducible refine Kd.C_alloc ?_ _) | (with_reducible refine Kd.C_drewN ?_ _) | (with_reducible refine Kd.C_drew ?_)))
           (case side2 => exact (Kd.R_reads' HO255.out).2.1)
           (case side3 => repeat (first | exact (Kd.R_reads' HO259.out).2.2 | (with_reducible refine Kd.C_alloc ?_ _) | (with_reducible refine Kd.C_drewN ?_ _) | (with_reducible refine Kd.C_drew ?_)))
           (case side4 => exact (Kd.R_reads' HO259.out).2.1)
           rintro e w41 ⟨v261, rfl, ho0, hb⟩
           have HS3_ := (hb.cell (World.block_lt_of_cell? _ _ (hHeld.2.2.2.1))).trans (hHeld.2.2.2.1)
           have HS4_ := (hb.cell (World.block_lt_of_cell? _ _ (hHeld.2.2.2.2.1))).trans (hHeld.2.2.2.2.1)
           have HS5_ := (hb.cell (World.block_lt_of_cell? _ _ (hHeld.2.2.2.2.2))).trans (hHeld.2.2.2.2.2)
           refine ⟨_, rfl, ?_⟩
           have n0_ := Aside0.mk (Kd.N_elder' (up_ HO_6.out) (Kd.R_base ho0) hb)
           have n1_ := Aside0.mk (Kd.N_elder' (up_ HO_7.out) (Kd.R_base ho0) hb)
           have n2_ := Aside0.mk (Kd.V_elder' (up_ HL256_1.out) (Kd.R_base ho0) hb)
           have n3_ := Aside0.mk (Kd.R_elder' (up_ HO255.out) (Kd.R_base ho0) hb)
           have n4_ := Aside0.mk (Kd.R_elder' (up_ HO259.out) (Kd.R_base ho0) hb)
           have n5_ := Aside0.mk (Kd.R_lower (Kd.R_new' (Kd.R_new' (Kd.R_newM (M := fun k_ => (w.heap.size ≤ k_)) ho0 (below_size (up_ HB.out)) (fun k_ h_ => h_)) (Kd.R_lt (up_ HO255.out))) (Kd.R_lt (up_ HO259.out))) (below_size (up_ HB.out)))
           have n6_ := bb_ BK240 hb
           have n7_ := bb_ BK241 hb
           have n8_ := Aside0.mk (Kd.C_below (up_ HR256_1.out) hb)
           have n9_ := bb_ BK264 hb
           have n10_ := bs_ HB hb
           clear HO_6
           clear HO_7
           clear HL256_1
           clear HO255
           clear HO259
           clear BK240
           clear BK241
           clear HR256_1
           clear BK264
           clear HB
           have HO_6 := n0_
           have HO_7 := n1_
           have HL256_1 := n2_
           have HO255 := n3_
           have HO259 := n4_
           have HO262 := n5_
           have BK240 := n6_
           have BK241 := n7_
           have HR256_1 := n8_
           have BK264 := n9_
           have HB := n10_
           clear n0_ n1_ n2_ n3_ n4_ n5_ n6_ n7_ n8_ n9_ n10_
           (try clear hb)
           (try clear hb2)
           (try clear hk)
           (try clear hi)
           (try clear ho0)
           refine hK.out _ _ ⟨(blk_cell BK241.out 0).trans rfl, (blk_cell BK241.out 1).trans rfl, (blk_cell BK241.out 2).trans rfl, HS3_, HS4_, HS5_⟩ (fun hHeld => ?_)
           clear hK K
           refine nm_ ?_
           refine pu_ 8 (some 40) ?_
           refine pu_ 9 (some 49) ?_
           refine pu_ 10 (some 50) ?_
           exact norm_ (by simp only [putAll, Act.put, List.setIfInBounds_toArray, List.set_cons_zero, List.set_cons_succ]) (hCont (.slice Ao39 t253.length co39, .slice Ao40 t257.length co40, v261, gb264) _ ⟨hHeld, (by (with_reducible repeat (first | apply Kd.V_alloc | apply Kd.V_drewN | apply Kd.V_drew)); exact Kd.V_mono HL256_1.out (fun _ hk => ⟨hk.1.1.1.1.1.1, ⟨hk.1.1.1.2, ⟨hk.1.1.2, ⟨hk.2, ⟨hk.1.1.1.1.1.2.1, ⟨hk.1.1.1.1.2, ⟨hk.1.1.1.1.1.2.2.1, ⟨hk.1.1.1.1.1.2.2.2, hk.1.2⟩⟩⟩⟩⟩⟩⟩⟩)), (by (with_reducible repeat (first | apply Kd.R_alloc | apply Kd.R_drewN | apply Kd.R_drew)); exact Kd.R_mono HO255.out (fun _ hk => ⟨hk.1.1.1, ⟨hk.1.2, hk.2⟩⟩)), (by (with_reducible repeat (first | apply Kd.R_alloc | apply Kd.R_drewN | apply Kd.R_drew)); exact Kd.R_mono HO259.out (fun _ hk => ⟨hk.1.1.1, ⟨hk.1.2, hk.2⟩⟩)), (by (with_reducible repeat (first | apply Kd.R_alloc | apply Kd.R_drewN | apply Kd.R_drew)); exact Kd.R_mono HO262.out (fun _ hk => ⟨hk.1.1.1, ⟨hk.1.2, hk.2⟩⟩)), (by (with_reducible repeat (first | apply Kd.N_alloc | apply Kd.N_drewN | apply Kd.N_drew)); exact Kd.N_mono HO_6.out (fun _ hk => ⟨hk.1.1.1.1.1, ⟨hk.1.1.1.2, ⟨hk.1.1.2, ⟨hk.2, ⟨hk.1.1.1.1.2.1, ⟨hk.1.1.1.1.2.2.1, ⟨hk.1.1.1.1.2.2.2, hk.1.2⟩⟩⟩⟩⟩⟩⟩)), (by (with_reducible repeat (first | apply Kd.N_alloc | apply Kd.N_drewN | apply Kd.N_drew)); exact Kd.N_mono HO_7.out (fun _ hk => ⟨hk.1.1.1.1.1, ⟨hk.1.1.1.2, ⟨hk.1.1.2, ⟨hk.2, ⟨hk.1.1.1.1.2.1, ⟨hk.1.1.1.1.2.2.1, ⟨hk.1.1.1.1.2.2.2, hk.1.2⟩⟩⟩⟩⟩⟩⟩)), (up_ BK240.out), (up_ BK241.out), (up_ BK264.out), GW264.out, GE264.out, NB240_264.out, NB264_240.out, NB241_264.out, NB264_241.out, (up_ HB.out)⟩)
         ·skip
          refine box_step ?hg (N := 9) ?hd (cs := #[.slice none 0 0]) (t := 34) ?hr ?_; (case hd => rfl); (case hg => rfl); (case hr => first | (go_simp; done) | (go_simp; rfl))
          intro gb264 hg w37 hbox hb
          have HS3_ := (hb.cell (World.block_lt_of_cell? _ _ (hHeld.2.2.2.1))).trans (hHeld.2.2.2.1)
          have HS4_ := (hb.cell (World.block_lt_of_cell? _ _ (hHeld.2.2.2.2.1))).trans (hHeld.2.2.2.2.1)
          have HS5_ := (hb.cell (World.block_lt_of_cell? _ _ (hHeld.2.2.2.2.2))).trans (hHeld.2.2.2.2.2)
          have n0_ := Aside0.mk (Kd.N_below (Kd.N_elderB (up_ HO_6.out) gb264 (Nat.le_of_eq hg.symm)) hb)
          have n1_ := Aside0.mk (Kd.N_below (Kd.N_elderB (up_ HO_7.out) gb264 (Nat.le_of_eq hg.symm)) hb)
          have n2_ := Aside0.mk (Kd.V_below (Kd.V_elderB (up_ HL256_1.out) gb264 (Nat.le_of_eq hg.symm)) hb)
          have n3_ := Aside0.mk (Kd.R_below (up_ HO255.out) hb)
          have n4_ := bb_ BK240 hb
          have n5_ := bb_ BK241 hb
          have n6_ := Aside0.mk (Kd.C_below (up_ HR256_1.out) hb)
          have n7_ := bs_ HB hb
          have n8_ := Aside0.mk (hbox)
          have n9_ := gw_ HB hg
          have n10_ := gw_ HB hg
          have n11_ := Aside0.mk ((by rw [hg]; exact Nat.ne_of_lt (blk_lt (g := gb240) (o := .cells #[.slice A0_0 l0_0.length c0_0] 86 (0, 0)) (up_ BK240.out)) : gb240 ≠ gb264))
          have n12_ := Aside0.mk ((by rw [hg]; exact Nat.ne_of_gt (blk_lt (g := gb240) (o := .cells #[.slice A0_0 l0_0.length c0_0] 86 (0, 0)) (up_ BK240.out)) : gb264 ≠ gb240))
          have n13_ := Aside0.mk ((by rw [hg]; exact Nat.ne_of_lt (blk_lt (g := gb241) (o := .cells #[.int .i64 a1_0, .slice A1_1 l1_1.length c1_1, .int .i64 a1_2] 90 (0, 0)) (up_ BK241.out)) : gb241 ≠ gb264))
          have n14_ := Aside0.mk ((by rw [hg]; exact Nat.ne_of_gt (blk_lt (g := gb241) (o := .cells #[.int .i64 a1_0, .slice A1_1 l1_1.length c1_1, .int .i64 a1_2] 90 (0, 0)) (up_ BK241.out)) : gb264 ≠ gb241))
          clear HO_6
          clear HO_7
          clear HL256_1
          clear HO255
          clear BK240
          clear BK241
          clear HR256_1
          clear HB
          have HO_6 := n0_
          have HO_7 := n1_
          have HL256_1 := n2_
          have HO255 := n3_
          have BK240 := n4_
          have BK241 := n5_
          have HR256_1 := n6_
          have HB := n7_
          have BK264 := n8_
          have GW264 := n9_
          have GE264 := n10_
          have NB240_264 := n11_
          have NB264_240 := n12_
          have NB241_264 := n13_
          have NB264_241 := n14_
          clear n0_ n1_ n2_ n3_ n4_ n5_ n6_ n7_ n8_ n9_ n10_ n11_ n12_ n13_ n14_
          clear hb hbox hg
          refine hK.out _ _ ⟨(blk_cell BK241.out 0).trans rfl, (blk_cell BK241.out 1).trans rfl, (blk_cell BK241.out 2).trans rfl, HS3_, HS4_, HS5_⟩ (fun hHeld => ?_)
          clear hK K
          refine nm_ ?_
          refine one_ (i := 6) (N := some 47) #[true, true, true, true, true, true, true, false, false, false, false, true, false, false] rfl rfl (one_of HT_.out (by kernel_rfl)) (by decide) (fun K hK => ?_)
          refine goes_ Try.func124 (by kernel_rfl) rfl #[.agg #[.int .i64 ((rd_T90 t250 x8_2).f0), .slice A256_1 ((rd_T90 t250 x8_2).f1).length c256_1, .int .i64 ((rd_T90 t250 x8_2).f2)]] (by rfl) rfl rfl am_ ?_
          with_reducible refine (spec_l23Marks.calls k2 ((rd_T90 t250 x8_2).f0) _ _ ((rd_T90 t250 x8_2).f1) ((rd_T90 t250 x8_2).f2) t257 _ ?side1 ?side2 A31.out).mono ?_
          (case side1 => exact up_ HR256_1.out)
          (case side2 => exact HC256_1.out)
          rintro e w38 ⟨v258, rfl, ho0, hb⟩
          have HS3_ := (hb.cell (World.block_lt_of_cell? _ _ (hHeld.2.2.2.1))).trans (hHeld.2.2.2.1)
          have HS4_ := (hb.cell (World.block_lt_of_cell? _ _ (hHeld.2.2.2.2.1))).trans (hHeld.2.2.2.2.1)
          have HS5_ := (hb.cell (World.block_lt_of_cell? _ _ (hHeld.2.2.2.2.2))).trans (hHeld.2.2.2.2.2)
          refine ⟨_, rfl, ?_⟩
          have n0_ := Aside0.mk (Kd.N_elder' (up_ HO_6.out) (Kd.R_base ho0) hb)
          have n1_ := Aside0.mk (Kd.N_elder' (up_ HO_7.out) (Kd.R_base ho0) hb)
          have n2_ := Aside0.mk (Kd.V_elder' (up_ HL256_1.out) (Kd.R_base ho0) hb)
          have n3_ := Aside0.mk (Kd.R_elder' (up_ HO255.out) (Kd.R_base ho0) hb)
          have n4_ := Aside0.mk (Kd.R_lower (Kd.R_new' (Kd.R_newM (M := fun k_ => (w.heap.size ≤ k_)) ho0 (below_size (up_ HB.out)) (fun k_ h_ => h_)) (Kd.R_lt (up_ HO255.out))) (below_size (up_ HB.out)))
          have n5_ := bb_ BK240 hb
          have n6_ := bb_ BK241 hb
          have n7_ := Aside0.mk (Kd.C_below (up_ HR256_1.out) hb)
          have n8_ := bb_ BK264 hb
          have n9_ := bs_ HB hb
          clear HO_6
          clear HO_7
          clear HL256_1
          clear HO255
          clear BK240
          clear BK241
          clear HR256_1
          clear BK264
          clear HB
          have HO_6 := n0_
          have HO_7 := n1_
          have HL256_1 := n2_
          have HO255 := n3_
          have HO259 := n4_
          have BK240 := n5_
          have BK241 := n6_
          have HR256_1 := n7_
          have BK264 := n8_
          have HB := n9_
          clear n0_ n1_ n2_ n3_ n4_ n5_ n6_ n7_ n8_ n9_
          (try clear hb)
          (try clear hb2)
          (try clear hk)
          (try clear hi)
          (try clear ho0)
          obtain ⟨Ao39, co39, eo39⟩ := Kd.R_slice HO255.out
          (first | subst eo39 | (injection eo39 with f1_ f2_ f3_; have f4_ := f1_.symm; have f5_ := f3_.symm; clear f1_ f2_ f3_; subst f4_; subst f5_))
          obtain ⟨Ao40, co40, eo40⟩ := Kd.R_slice HO259.out
          (first | subst eo40 | (injection eo40 with f1_ f2_ f3_; have f4_ := f1_.symm; have f5_ := f3_.symm; clear f1_ f2_ f3_; subst f4_; subst f5_))
          refine hK.out _ _ ⟨(blk_cell BK241.out 0).trans rfl, (blk_cell BK241.out 1).trans rfl, (blk_cell BK241.out 2).trans rfl, HS3_, HS4_, HS5_⟩ (fun hHeld => ?_)
          clear hK K
          refine nm_ ?_
          refine one_ (i := 7) (N := some 48) #[true, true, true, true, true, true, true, true, false, false, false, true, false, false] rfl rfl (one_of HT_.out (by kernel_rfl)) (by decide) (fun K hK => ?_)
          refine goes_ Try.func123 (by kernel_rfl) rfl #[.slice Ao39 t253.length co39, .slice Ao40 t257.length co40] (by rfl) rfl rfl am_ ?_
          with_reducible refine (spec_RowOf.calls k2 _ _ t253 _ _ t257 t260 t263 _ ?side1 ?side2 ?side3 ?side4 A32.out).mono ?_
          (case side1 => repeat (first | exact (Kd.R_reads' HO255.out).2.2 | (with_reducible refine Kd.C_alloc ?_ _) | (with_reducible refine Kd.C_drewN ?_ _) | (with_reducible refine Kd.C_drew ?_)))
          (case side2 => exact (Kd.R_reads' HO255.out).2.1)
          (case side3 => repeat (first | exact (Kd.R_reads' HO259.out).2.2 | (with_reducible refine Kd.C_alloc ?_ _) | (with_reducible refine Kd.C_drewN ?_ _) | (with_reducible refine Kd.C_drew ?_)))
          (case side4 => exact (Kd.R_reads' HO259.out).2.1)
          rintro e w41 ⟨v261, rfl, ho0, hb⟩
          have HS3_ := (hb.cell (World.block_lt_of_cell? _ _ (hHeld.2.2.2.1))).trans (hHeld.2.2.2.1)
          have HS4_ := (hb.cell (World.block_lt_of_cell? _ _ (hHeld.2.2.2.2.1))).trans (hHeld.2.2.2.2.1)
          have HS5_ := (hb.cell (World.block_lt_of_cell? _ _ (hHeld.2.2.2.2.2))).trans (hHeld.2.2.2.2.2)
          refine ⟨_, rfl, ?_⟩
          have n0_ := Aside0.mk (Kd.N_elder' (up_ HO_6.out) (Kd.R_base ho0) hb)
          have n1_ := Aside0.mk (Kd.N_elder' (up_ HO_7.out) (Kd.R_base ho0) hb)
          have n2_ := Aside0.mk (Kd.V_elder' (up_ HL256_1.out) (Kd.R_base ho0) hb)
          have n3_ := Aside0.mk (Kd.R_elder' (up_ HO255.out) (Kd.R_base ho0) hb)
          have n4_ := Aside0.mk (Kd.R_elder' (up_ HO259.out) (Kd.R_base ho0) hb)
          have n5_ := Aside0.mk (Kd.R_lower (Kd.R_new' (Kd.R_new' (Kd.R_newM (M := fun k_ => (w.heap.size ≤ k_)) ho0 (below_size (up_ HB.out)) (fun k_ h_ => h_)) (Kd.R_lt (up_ HO255.out))) (Kd.R_lt (up_ HO259.out))) (below_size (up_ HB.out)))
          have n6_ := bb_ BK240 hb
          have n7_ := bb_ BK241 hb
          have n8_ := Aside0.mk (Kd.C_below (up_ HR256_1.out) hb)
          have n9_ := bb_ BK264 hb
          have n10_ := bs_ HB hb
          clear HO_6
          clear HO_7
          clear HL256_1
          clear HO255
          clear HO259
          clear BK240
          clear BK241
          clear HR256_1
          clear BK264
          clear HB
          have HO_6 := n0_
          have HO_7 := n1_
          have HL256_1 := n2_
          have HO255 := n3_
          have HO259 := n4_
          have HO262 := n5_
          have BK240 := n6_
          have BK241 := n7_
          have HR256_1 := n8_
          have BK264 := n9_
          have HB := n10_
          clear n0_ n1_ n2_ n3_ n4_ n5_ n6_ n7_ n8_ n9_ n10_
          (try clear hb)
          (try clear hb2)
          (try clear hk)
          (try clear hi)
          (try clear ho0)
          refine hK.out _ _ ⟨(blk_cell BK241.out 0).trans rfl, (blk_cell BK241.out 1).trans rfl, (blk_cell BK241.out 2).trans rfl, HS3_, HS4_, HS5_⟩ (fun hHeld => ?_)
          clear hK K
          refine nm_ ?_
          refine pu_ 8 (some 40) ?_
          refine pu_ 9 (some 49) ?_
          refine pu_ 10 (some 50) ?_
          exact norm_ (by simp only [putAll, Act.put, List.setIfInBounds_toArray, List.set_cons_zero, List.set_cons_succ]) (hCont (.slice Ao39 t253.length co39, .slice Ao40 t257.length co40, v261, gb264) _ ⟨hHeld, (by (with_reducible repeat (first | apply Kd.V_alloc | apply Kd.V_drewN | apply Kd.V_drew)); exact Kd.V_mono HL256_1.out (fun _ hk => ⟨hk.1.1.1.1.1.1, ⟨hk.1.1.1.2, ⟨hk.1.2, ⟨hk.2, ⟨hk.1.1.1.1.1.2.1, ⟨hk.1.1.1.1.2, ⟨hk.1.1.1.1.1.2.2.1, ⟨hk.1.1.1.1.1.2.2.2, hk.1.1.2⟩⟩⟩⟩⟩⟩⟩⟩)), (by (with_reducible repeat (first | apply Kd.R_alloc | apply Kd.R_drewN | apply Kd.R_drew)); exact Kd.R_mono HO255.out (fun _ hk => ⟨hk.1.1.1, ⟨hk.1.2, hk.2⟩⟩)), (by (with_reducible repeat (first | apply Kd.R_alloc | apply Kd.R_drewN | apply Kd.R_drew)); exact Kd.R_mono HO259.out (fun _ hk => ⟨hk.1.1.1, ⟨hk.1.2, hk.2⟩⟩)), (by (with_reducible repeat (first | apply Kd.R_alloc | apply Kd.R_drewN | apply Kd.R_drew)); exact Kd.R_mono HO262.out (fun _ hk => ⟨hk.1.1.1, ⟨hk.1.2, hk.2⟩⟩)), (by (with_reducible repeat (first | apply Kd.N_alloc | apply Kd.N_drewN | apply Kd.N_drew)); exact Kd.N_mono HO_6.out (fun _ hk => ⟨hk.1.1.1.1.1, ⟨hk.1.1.1.2, ⟨hk.1.2, ⟨hk.2, ⟨hk.1.1.1.1.2.1, ⟨hk.1.1.1.1.2.2.1, ⟨hk.1.1.1.1.2.2.2, hk.1.1.2⟩⟩⟩⟩⟩⟩⟩)), (by (with_reducible repeat (first | apply Kd.N_alloc | apply Kd.N_drewN | apply Kd.N_drew)); exact Kd.N_mono HO_7.out (fun _ hk => ⟨hk.1.1.1.1.1, ⟨hk.1.1.1.2, ⟨hk.1.2, ⟨hk.2, ⟨hk.1.1.1.1.2.1, ⟨hk.1.1.1.1.2.2.1, ⟨hk.1.1.1.1.2.2.2, hk.1.1.2⟩⟩⟩⟩⟩⟩⟩)), (up_ BK240.out), (up_ BK241.out), (up_ BK264.out), GW264.out, GE264.out, NB240_264.out, NB264_240.out, NB241_264.out, NB264_241.out, (up_ HB.out)⟩)
        ·skip
         refine box_step ?hg (N := 9) ?hd (cs := #[.slice none 0 0]) (t := 34) ?hr ?_; (case hd => rfl); (case hg => rfl); (case hr => first | (go_simp; done) | (go_simp; rfl))
         intro gb264 hg w36 hbox hb
         have HS3_ := (hb.cell (World.block_lt_of_cell? _ _ (hHeld.2.2.2.1))).trans (hHeld.2.2.2.1)
         have HS4_ := (hb.cell (World.block_lt_of_cell? _ _ (hHeld.2.2.2.2.1))).trans (hHeld.2.2.2.2.1)
         have HS5_ := (hb.cell (World.block_lt_of_cell? _ _ (hHeld.2.2.2.2.2))).trans (hHeld.2.2.2.2.2)
         have n0_ := Aside0.mk (Kd.N_below (Kd.N_elderB (up_ HO_6.out) gb264 (Nat.le_of_eq hg.symm)) hb)
         have n1_ := Aside0.mk (Kd.N_below (Kd.N_elderB (up_ HO_7.out) gb264 (Nat.le_of_eq hg.symm)) hb)
         have n2_ := Aside0.mk (Kd.V_below (Kd.V_elderB (up_ HL256_1.out) gb264 (Nat.le_of_eq hg.symm)) hb)
         have n3_ := bb_ BK240 hb
         have n4_ := bb_ BK241 hb
         have n5_ := Aside0.mk (Kd.C_below (up_ HR256_1.out) hb)
         have n6_ := bs_ HB hb
         have n7_ := Aside0.mk (hbox)
         have n8_ := gw_ HB hg
         have n9_ := gw_ HB hg
         have n10_ := Aside0.mk ((by rw [hg]; exact Nat.ne_of_lt (blk_lt (g := gb240) (o := .cells #[.slice A0_0 l0_0.length c0_0] 86 (0, 0)) (up_ BK240.out)) : gb240 ≠ gb264))
         have n11_ := Aside0.mk ((by rw [hg]; exact Nat.ne_of_gt (blk_lt (g := gb240) (o := .cells #[.slice A0_0 l0_0.length c0_0] 86 (0, 0)) (up_ BK240.out)) : gb264 ≠ gb240))
         have n12_ := Aside0.mk ((by rw [hg]; exact Nat.ne_of_lt (blk_lt (g := gb241) (o := .cells #[.int .i64 a1_0, .slice A1_1 l1_1.length c1_1, .int .i64 a1_2] 90 (0, 0)) (up_ BK241.out)) : gb241 ≠ gb264))
         have n13_ := Aside0.mk ((by rw [hg]; exact Nat.ne_of_gt (blk_lt (g := gb241) (o := .cells #[.int .i64 a1_0, .slice A1_1 l1_1.length c1_1, .int .i64 a1_2] 90 (0, 0)) (up_ BK241.out)) : gb264 ≠ gb241))
         clear HO_6
         clear HO_7
         clear HL256_1
         clear BK240
         clear BK241
         clear HR256_1
         clear HB
         have HO_6 := n0_
         have HO_7 := n1_
         have HL256_1 := n2_
         have BK240 := n3_
         have BK241 := n4_
         have HR256_1 := n5_
         have HB := n6_
         have BK264 := n7_
         have GW264 := n8_
         have GE264 := n9_
         have NB240_264 := n10_
         have NB264_240 := n11_
         have NB241_264 := n12_
         have NB264_241 := n13_
         clear n0_ n1_ n2_ n3_ n4_ n5_ n6_ n7_ n8_ n9_ n10_ n11_ n12_ n13_
         clear hb hbox hg
         refine hK.out _ _ ⟨(blk_cell BK241.out 0).trans rfl, (blk_cell BK241.out 1).trans rfl, (blk_cell BK241.out 2).trans rfl, HS3_, HS4_, HS5_⟩ (fun hHeld => ?_)
         clear hK K
         refine nm_ ?_
         refine one_ (i := 1) (N := some 42) #[true, true, true, true, true, true, false, false, false, false, false, true, false, false] rfl rfl (one_of HT_.out (by kernel_rfl)) (by decide) (fun K hK => ?_)
         refine goes_ Try.func124 (by kernel_rfl) rfl #[.agg #[.int .i64 a1_0, .slice A1_1 l1_1.length c1_1, .int .i64 a1_2]] (by rfl) rfl rfl am_ ?_
         with_reducible refine (spec_l23Marks.calls k2 a1_0 _ _ l1_1 a1_2 t253 _ ?side1 ?side2 A29.out).mono ?_
         (case side1 => exact Kd.C_below HR1_1.out (up_ HB.out))
         (case side2 => exact HC1_1.out)
         rintro e w37 ⟨v254, rfl, ho0, hb⟩
         have HS3_ := (hb.cell (World.block_lt_of_cell? _ _ (hHeld.2.2.2.1))).trans (hHeld.2.2.2.1)
         have HS4_ := (hb.cell (World.block_lt_of_cell? _ _ (hHeld.2.2.2.2.1))).trans (hHeld.2.2.2.2.1)
         have HS5_ := (hb.cell (World.block_lt_of_cell? _ _ (hHeld.2.2.2.2.2))).trans (hHeld.2.2.2.2.2)
         refine ⟨_, rfl, ?_⟩
         have n0_ := Aside0.mk (Kd.N_elder' (up_ HO_6.out) (Kd.R_base ho0) hb)
         have n1_ := Aside0.mk (Kd.N_elder' (up_ HO_7.out) (Kd.R_base ho0) hb)
         have n2_ := Aside0.mk (Kd.V_elder' (up_ HL256_1.out) (Kd.R_base ho0) hb)
         have n3_ := Aside0.mk (Kd.R_lower (Kd.R_newM (M := fun k_ => (w.heap.size ≤ k_)) ho0 (below_size (up_ HB.out)) (fun k_ h_ => h_)) (below_size (up_ HB.out)))
         have n4_ := bb_ BK240 hb
         have n5_ := bb_ BK241 hb
         have n6_ := Aside0.mk (Kd.C_below (up_ HR256_1.out) hb)
         have n7_ := bb_ BK264 hb
         have n8_ := bs_ HB hb
         clear HO_6
         clear HO_7
         clear HL256_1
         clear BK240
         clear BK241
         clear HR256_1
         clear BK264
         clear HB
         have HO_6 := n0_
         have HO_7 := n1_
         have HL256_1 := n2_
         have HO255 := n3_
         have BK240 := n4_
         have BK241 := n5_
         have HR256_1 := n6_
         have BK264 := n7_
         have HB := n8_
         clear n0_ n1_ n2_ n3_ n4_ n5_ n6_ n7_ n8_
         (try clear hb)
         (try clear hb2)
         (try clear hk)
         (try clear hi)
         (try clear ho0)
         refine hK.out _ _ ⟨(blk_cell BK241.out 0).trans rfl, (blk_cell BK241.out 1).trans rfl, (blk_cell BK241.out 2).trans rfl, HS3_, HS4_, HS5_⟩ (fun hHeld => ?_)
         clear hK K
         refine nm_ ?_
         refine one_ (i := 6) (N := some 47) #[true, true, true, true, true, true, true, false, false, false, false, true, false, false] rfl rfl (one_of HT_.out (by kernel_rfl)) (by decide) (fun K hK => ?_)
         refine goes_ Try.func124 (by kernel_rfl) rfl #[.agg #[.int .i64 ((rd_T90 t250 x8_2).f0), .slice A256_1 ((rd_T90 t250 x8_2).f1).length c256_1, .int .i64 ((rd_T90 t250 x8_2).f2)]] (by rfl) rfl rfl am_ ?_
         with_reducible refine (spec_l23Marks.calls k2 ((rd_T90 t250 x8_2).f0) _ _ ((rd_T90 t250 x8_2).f1) ((rd_T90 t250 x8_2).f2) t257 _ ?side1 ?side2 A31.out).mono ?_
         (case side1 => exact up_ HR256_1.out)
         (case side2 => exact HC256_1.out)
         rintro e w38 ⟨v258, rfl, ho0, hb⟩
         have HS3_ := (hb.cell (World.block_lt_of_cell? _ _ (hHeld.2.2.2.1))).trans (hHeld.2.2.2.1)
         have HS4_ := (hb.cell (World.block_lt_of_cell? _ _ (hHeld.2.2.2.2.1))).trans (hHeld.2.2.2.2.1)
         have HS5_ := (hb.cell (World.block_lt_of_cell? _ _ (hHeld.2.2.2.2.2))).trans (hHeld.2.2.2.2.2)
         refine ⟨_, rfl, ?_⟩
         have n0_ := Aside0.mk (Kd.N_elder' (up_ HO_6.out) (Kd.R_base ho0) hb)
         have n1_ := Aside0.mk (Kd.N_elder' (up_ HO_7.out) (Kd.R_base ho0) hb)
         have n2_ := Aside0.mk (Kd.V_elder' (up_ HL256_1.out) (Kd.R_base ho0) hb)
         have n3_ := Aside0.mk (Kd.R_elder' (up_ HO255.out) (Kd.R_base ho0) hb)
         have n4_ := Aside0.mk (Kd.R_lower (Kd.R_new' (Kd.R_newM (M := fun k_ => (w.heap.size ≤ k_)) ho0 (below_size (up_ HB.out)) (fun k_ h_ => h_)) (Kd.R_lt (up_ HO255.out))) (below_size (up_ HB.out)))
         have n5_ := bb_ BK240 hb
         have n6_ := bb_ BK241 hb
         have n7_ := Aside0.mk (Kd.C_below (up_ HR256_1.out) hb)
         have n8_ := bb_ BK264 hb
         have n9_ := bs_ HB hb
         clear HO_6
         clear HO_7
         clear HL256_1
         clear HO255
         clear BK240
         clear BK241
         clear HR256_1
         clear BK264
         clear HB
         have HO_6 := n0_
         have HO_7 := n1_
         have HL256_1 := n2_
         have HO255 := n3_
         have HO259 := n4_
         have BK240 := n5_
         have BK241 := n6_
         have HR256_1 := n7_
         have BK264 := n8_
         have HB := n9_
         clear n0_ n1_ n2_ n3_ n4_ n5_ n6_ n7_ n8_ n9_
         (try clear hb)
         (try clear hb2)
         (try clear hk)
         (try clear hi)
         (try clear ho0)
         obtain ⟨Ao39, co39, eo39⟩ := Kd.R_slice HO255.out
         (first | subst eo39 | (injection eo39 with f1_ f2_ f3_; have f4_ := f1_.symm; have f5_ := f3_.symm; clear f1_ f2_ f3_; subst f4_; subst f5_))
         obtain ⟨Ao40, co40, eo40⟩ := Kd.R_slice HO259.out
         (first | subst eo40 | (injection eo40 with f1_ f2_ f3_; have f4_ := f1_.symm; have f5_ := f3_.symm; clear f1_ f2_ f3_; subst f4_; subst f5_))
         refine hK.out _ _ ⟨(blk_cell BK241.out 0).trans rfl, (blk_cell BK241.out 1).trans rfl, (blk_cell BK241.out 2).trans rfl, HS3_, HS4_, HS5_⟩ (fun hHeld => ?_)
         clear hK K
         refine nm_ ?_
         refine one_ (i := 7) (N := some 48) #[true, true, true, true, true, true, true, true, false, false, false, true, false, false] rfl rfl (one_of HT_.out (by kernel_rfl)) (by decide) (fun K hK => ?_)
         refine goes_ Try.func123 (by kernel_rfl) rfl #[.slice Ao39 t253.length co39, .slice Ao40 t257.length co40] (by rfl) rfl rfl am_ ?_
         with_reducible refine (spec_RowOf.calls k2 _ _ t253 _ _ t257 t260 t263 _ ?side1 ?side2 ?side3 ?side4 A32.out).mono ?_
         (case side1 => repeat (first | exact (Kd.R_reads' HO255.out).2.2 | (with_reducible refine Kd.C_alloc ?_ _) | (with_reducible refine Kd.C_drewN ?_ _) | (with_reducible refine Kd.C_drew ?_)))
         (case side2 => exact (Kd.R_reads' HO255.out).2.1)
         (case side3 => repeat (first | exact (Kd.R_reads' HO259.out).2.2 | (with_reducible refine Kd.C_alloc ?_ _) | (with_reducible refine Kd.C_drewN ?_ _) | (with_reducible refine Kd.C_drew ?_)))
         (case side4 => exact (Kd.R_reads' HO259.out).2.1)
         rintro e w41 ⟨v261, rfl, ho0, hb⟩
         have HS3_ := (hb.cell (World.block_lt_of_cell? _ _ (hHeld.2.2.2.1))).trans (hHeld.2.2.2.1)
         have HS4_ := (hb.cell (World.block_lt_of_cell? _ _ (hHeld.2.2.2.2.1))).trans (hHeld.2.2.2.2.1)
         have HS5_ := (hb.cell (World.block_lt_of_cell? _ _ (hHeld.2.2.2.2.2))).trans (hHeld.2.2.2.2.2)
         refine ⟨_, rfl, ?_⟩
         have n0_ := Aside0.mk (Kd.N_elder' (up_ HO_6.out) (Kd.R_base ho0) hb)
         have n1_ := Aside0.mk (Kd.N_elder' (up_ HO_7.out) (Kd.R_base ho0) hb)
         have n2_ := Aside0.mk (Kd.V_elder' (up_ HL256_1.out) (Kd.R_base ho0) hb)
         have n3_ := Aside0.mk (Kd.R_elder' (up_ HO255.out) (Kd.R_base ho0) hb)
         have n4_ := Aside0.mk (Kd.R_elder' (up_ HO259.out) (Kd.R_base ho0) hb)
         have n5_ := Aside0.mk (Kd.R_lower (Kd.R_new' (Kd.R_new' (Kd.R_newM (M := fun k_ => (w.heap.size ≤ k_)) ho0 (below_size (up_ HB.out)) (fun k_ h_ => h_)) (Kd.R_lt (up_ HO255.out))) (Kd.R_lt (up_ HO259.out))) (below_size (up_ HB.out)))
         have n6_ := bb_ BK240 hb
         have n7_ := bb_ BK241 hb
         have n8_ := Aside0.mk (Kd.C_below (up_ HR256_1.out) hb)
         have n9_ := bb_ BK264 hb
         have n10_ := bs_ HB hb
         clear HO_6
         clear HO_7
         clear HL256_1
         clear HO255
         clear HO259
         clear BK240
         clear BK241
         clear HR256_1
         clear BK264
         clear HB
         have HO_6 := n0_
         have HO_7 := n1_
         have HL256_1 := n2_
         have HO255 := n3_
         have HO259 := n4_
         have HO262 := n5_
         have BK240 := n6_
         have BK241 := n7_
         have HR256_1 := n8_
         have BK264 := n9_
         have HB := n10_
         clear n0_ n1_ n2_ n3_ n4_ n5_ n6_ n7_ n8_ n9_ n10_
         (try clear hb)
         (try clear hb2)
         (try clear hk)
         (try clear hi)
         (try clear ho0)
         refine hK.out _ _ ⟨(blk_cell BK241.out 0).trans rfl, (blk_cell BK241.out 1).trans rfl, (blk_cell BK241.out 2).trans rfl, HS3_, HS4_, HS5_⟩ (fun hHeld => ?_)
         clear hK K
         refine nm_ ?_
         refine pu_ 8 (some 40) ?_
         refine pu_ 9 (some 49) ?_
         refine pu_ 10 (some 50) ?_
         exact norm_ (by simp only [putAll, Act.put, List.setIfInBounds_toArray, List.set_cons_zero, List.set_cons_succ]) (hCont (.slice Ao39 t253.length co39, .slice Ao40 t257.length co40, v261, gb264) _ ⟨hHeld, (by (with_reducible repeat (first | apply Kd.V_alloc | apply Kd.V_drewN | apply Kd.V_drew)); exact Kd.V_mono HL256_1.out (fun _ hk => ⟨hk.1.1.1.1.1.1, ⟨hk.1.1.2, ⟨hk.1.2, ⟨hk.2, ⟨hk.1.1.1.1.1.2.1, ⟨hk.1.1.1.1.2, ⟨hk.1.1.1.1.1.2.2.1, ⟨hk.1.1.1.1.1.2.2.2, hk.1.1.1.2⟩⟩⟩⟩⟩⟩⟩⟩)), (by (with_reducible repeat (first | apply Kd.R_alloc | apply Kd.R_drewN | apply Kd.R_drew)); exact Kd.R_mono HO255.out (fun _ hk => ⟨hk.1.1.1, ⟨hk.1.2, hk.2⟩⟩)), (by (with_reducible repeat (first | apply Kd.R_alloc | apply Kd.R_drewN | apply Kd.R_drew)); exact Kd.R_mono HO259.out (fun _ hk => ⟨hk.1.1.1, ⟨hk.1.2, hk.2⟩⟩)), (by (with_reducible repeat (first | apply Kd.R_alloc | apply Kd.R_drewN | apply Kd.R_drew)); exact Kd.R_mono HO262.out (fun _ hk => ⟨hk.1.1.1, ⟨hk.1.2, hk.2⟩⟩)), (by (with_reducible repeat (first | apply Kd.N_alloc | apply Kd.N_drewN | apply Kd.N_drew)); exact Kd.N_mono HO_6.out (fun _ hk => ⟨hk.1.1.1.1.1, ⟨hk.1.1.2, ⟨hk.1.2, ⟨hk.2, ⟨hk.1.1.1.1.2.1, ⟨hk.1.1.1.1.2.2.1, ⟨hk.1.1.1.1.2.2.2, hk.1.1.1.2⟩⟩⟩⟩⟩⟩⟩)), (by (with_reducible repeat (first | apply Kd.N_alloc | apply Kd.N_drewN | apply Kd.N_drew)); exact Kd.N_mono HO_7.out (fun _ hk => ⟨hk.1.1.1.1.1, ⟨hk.1.1.2, ⟨hk.1.2, ⟨hk.2, ⟨hk.1.1.1.1.2.1, ⟨hk.1.1.1.1.2.2.1, ⟨hk.1.1.1.1.2.2.2, hk.1.1.1.2⟩⟩⟩⟩⟩⟩⟩)), (up_ BK240.out), (up_ BK241.out), (up_ BK264.out), GW264.out, GE264.out, NB240_264.out, NB264_240.out, NB241_264.out, NB264_241.out, (up_ HB.out)⟩)
       rintro ⟨v254, v258, v261, gb264⟩ w42 ⟨hS_, h0_, h1_, h2_, h3_, h4_, h5_, h6_, h7_, h8_, h9_, h10_, h11_, h12_, h13_, h14_, h15_⟩
       have n0_ : Aside0 (Kd.V k166 166 w42 w.heap.size (fun k_ => (w.heap.size ≤ k_) ∧ some k_ ≠ (v254 : Value).ownBlock ∧ some k_ ≠ (v258 : Value).ownBlock ∧ some k_ ≠ (v261 : Value).ownBlock ∧ some k_ ≠ (u6 : Value).ownBlock ∧ some k_ ≠ (.slice (some ad256) t250.length co34 : Value).ownBlock ∧ k_ ≠ gb240 ∧ k_ ≠ gb241 ∧ k_ ≠ gb264) (.slice A256_1 ((rd_T90 t250 x8_2).f1).length c256_1) ((rd_T90 t250 x8_2).f1)) := ⟨h0_⟩
       have n1_ : Aside0 (Kd.R (Kd.int .i64) 3 w42 w.heap.size (fun k_ => (w.heap.size ≤ k_) ∧ some k_ ≠ (v258 : Value).ownBlock ∧ some k_ ≠ (v261 : Value).ownBlock) v254 t253) := ⟨h1_⟩
       have n2_ : Aside0 (Kd.R (Kd.int .i64) 3 w42 w.heap.size (fun k_ => (w.heap.size ≤ k_) ∧ some k_ ≠ (v254 : Value).ownBlock ∧ some k_ ≠ (v261 : Value).ownBlock) v258 t257) := ⟨h2_⟩
       have n3_ : Aside0 (Kd.R (Kd.int .i64) 3 w42 w.heap.size (fun k_ => (w.heap.size ≤ k_) ∧ some k_ ≠ (v254 : Value).ownBlock ∧ some k_ ≠ (v258 : Value).ownBlock) v261 t260) := ⟨h3_⟩
       have n4_ : Aside0 (Kd.N k34 34 w42 w.heap.size (fun k_ => (w.heap.size ≤ k_) ∧ some k_ ≠ (v254 : Value).ownBlock ∧ some k_ ≠ (v258 : Value).ownBlock ∧ some k_ ≠ (v261 : Value).ownBlock ∧ some k_ ≠ (.slice (some ad256) t250.length co34 : Value).ownBlock ∧ k_ ≠ gb240 ∧ k_ ≠ gb241 ∧ k_ ≠ gb264) u6 x6_2) := ⟨h4_⟩
       have n5_ : Aside0 (Kd.N k90 90 w42 w.heap.size (fun k_ => (w.heap.size ≤ k_) ∧ some k_ ≠ (v254 : Value).ownBlock ∧ some k_ ≠ (v258 : Value).ownBlock ∧ some k_ ≠ (v261 : Value).ownBlock ∧ some k_ ≠ (u6 : Value).ownBlock ∧ k_ ≠ gb240 ∧ k_ ≠ gb241 ∧ k_ ≠ gb264) (.slice (some ad256) t250.length co34) t250) := ⟨h5_⟩
       have n6_ : Aside0 (w42.heap[gb240]? = some (.cells #[.slice A0_0 l0_0.length c0_0] 86 (0, 0))) := ⟨h6_⟩
       have n7_ : Aside0 (w42.heap[gb241]? = some (.cells #[.int .i64 a1_0, .slice A1_1 l1_1.length c1_1, .int .i64 a1_2] 90 (0, 0))) := ⟨h7_⟩
       have n8_ : Aside0 (w42.heap[gb264]? = some (.cells #[.slice none 0 0] 34 (0, 0))) := ⟨h8_⟩
       have n9_ : Aside0 (w.heap.size ≤ gb264) := ⟨h9_⟩
       have n10_ : Aside0 (w.heap.size ≤ gb264) := ⟨h10_⟩
       have n11_ : Aside0 (gb240 ≠ gb264) := ⟨h11_⟩
       have n12_ : Aside0 (gb264 ≠ gb240) := ⟨h12_⟩
       have n13_ : Aside0 (gb241 ≠ gb264) := ⟨h13_⟩
       have n14_ : Aside0 (gb264 ≠ gb241) := ⟨h14_⟩
       have n15_ : Aside0 (Below w.heap.size w w42) := ⟨h15_⟩
       clear HO_6
       clear HO_7
       clear BK240
       clear BK241
       clear HB
       clear h0_ h1_ h2_ h3_ h4_ h5_ h6_ h7_ h8_ h9_ h10_ h11_ h12_ h13_ h14_ h15_
       have HL256_1 := n0_
       have HO255 := n1_
       have HO259 := n2_
       have HO262 := n3_
       have HO_6 := n4_
       have HO_7 := n5_
       have BK240 := n6_
       have BK241 := n7_
       have BK264 := n8_
       have GW264 := n9_
       have GE264 := n10_
       have NB240_264 := n11_
       have NB264_240 := n12_
       have NB241_264 := n13_
       have NB264_241 := n14_
       have HB := n15_
       clear n0_ n1_ n2_ n3_ n4_ n5_ n6_ n7_ n8_ n9_ n10_ n11_ n12_ n13_ n14_ n15_
       have hHeld : w42.cell? ⟨gb241, 0, none⟩ = some (.int .i64 a1_0) ∧ w42.cell? ⟨gb241, 1, none⟩ = some (.slice A1_1 l1_1.length c1_1) ∧ w42.cell? ⟨gb241, 2, none⟩ = some (.int .i64 a1_2) ∧ w42.cell? (ad256.add ((x8_2).toNat * 3)) = some (.int .i64 ((rd_T90 t250 x8_2).f0)) ∧ w42.cell? ⟨(ad256.add ((x8_2).toNat * 3)).block, (ad256.add ((x8_2).toNat * 3)).off + 1, none⟩ = some (.slice A256_1 ((rd_T90 t250 x8_2).f1).length c256_1) ∧ w42.cell? ⟨(ad256.add ((x8_2).toNat * 3)).block, (ad256.add ((x8_2).toNat * 3)).off + 2, none⟩ = some (.int .i64 ((rd_T90 t250 x8_2).f2)) := hS_
       obtain ⟨Ao43, co43, eo43⟩ := Kd.R_slice HO262.out
       (first | subst eo43 | (injection eo43 with f1_ f2_ f3_; have f4_ := f1_.symm; have f5_ := f3_.symm; clear f1_ f2_ f3_; subst f4_; subst f5_))
       refine norm_ (a' := ?_) ?_ ?_
       rotate_left
       ·simp only [putAll, Act.put, List.setIfInBounds_toArray, List.set_cons_zero, List.set_cons_succ]
        rfl
       refine one_ (i := 12) (N := none) #[true, true, true, true, true, true, true, true, true, true, true, true, true, false] rfl rfl (one_of HT_.out (by kernel_rfl)) (by decide) (fun K hK => ?_)
       have hs44 : w42.cell? ⟨gb264, 0, none⟩ = some (.slice none 0 0) := (blk_cell BK264.out 0).trans rfl
       have hfs44 := blk_frozen BK264.out 0
       have hns44_0 := NB240_264.out
       have hns44_1 := NB241_264.out
       have hms44_0 := NB264_240.out
       have hms44_1 := NB264_241.out
       refine skip_ (w1 := ?_) (by rfl) rfl ?_ ?_
       rotate_left
       ·go_simp
        rfl
       refine hK.out _ _ ⟨((cell_far (p := ⟨gb264, _, none⟩) NB241_264.out _).trans (hHeld.1)), ((cell_far (p := ⟨gb264, _, none⟩) NB241_264.out _).trans (hHeld.2.1)), ((cell_far (p := ⟨gb264, _, none⟩) NB241_264.out _).trans (hHeld.2.2.1)), ((cell_far (p := ⟨gb264, _, none⟩) (by first | exact Kd.own_blk (Kd.N_away HO_7.out (fun _ hk => hk.2.2.2.2.2.2.2)) | (rw [add_block]; exact Kd.own_blk (Kd.N_away HO_7.out (fun _ hk => hk.2.2.2.2.2.2.2))) | (show (Addr.add _ _).block ≠ _; rw [add_block]; exact Kd.own_blk (Kd.N_away HO_7.out (fun _ hk => hk.2.2.2.2.2.2.2))) | (dsimp only; exact Kd.own_blk (Kd.N_away HO_7.out (fun _ hk => hk.2.2.2.2.2.2.2)))) _).trans (hHeld.2.2.2.1)), ((cell_far (p := ⟨gb264, _, none⟩) (by first | exact Kd.own_blk (Kd.N_away HO_7.out (fun _ hk => hk.2.2.2.2.2.2.2)) | (rw [add_block]; exact Kd.own_blk (Kd.N_away HO_7.out (fun _ hk => hk.2.2.2.2.2.2.2))) | (show (Addr.add _ _).block ≠ _; rw [add_block]; exact Kd.own_blk (Kd.N_away HO_7.out (fun _ hk => hk.2.2.2.2.2.2.2))) | (dsimp only; exact Kd.own_blk (Kd.N_away HO_7.out (fun _ hk => hk.2.2.2.2.2.2.2)))) _).trans (hHeld.2.2.2.2.1)), ((cell_far (p := ⟨gb264, _, none⟩) (by first | exact Kd.own_blk (Kd.N_away HO_7.out (fun _ hk => hk.2.2.2.2.2.2.2)) | (rw [add_block]; exact Kd.own_blk (Kd.N_away HO_7.out (fun _ hk => hk.2.2.2.2.2.2.2))) | (show (Addr.add _ _).block ≠ _; rw [add_block]; exact Kd.own_blk (Kd.N_away HO_7.out (fun _ hk => hk.2.2.2.2.2.2.2))) | (dsimp only; exact Kd.own_blk (Kd.N_away HO_7.out (fun _ hk => hk.2.2.2.2.2.2.2)))) _).trans (hHeld.2.2.2.2.2))⟩ (fun hHeld => ?_)
       clear hK K
       refine pu_ 13 (some 10) ?_
       refine done_ (done_of HT_.out (by kernel_rfl)) ?_
       have hnb45 := NB264_240.out
       have hnc45 := NB240_264.out
       have hnb46 := NB264_241.out
       have hnc46 := NB241_264.out
       have hcz47_0 := c1_ BK264
       have hfz47_0 := blk_frozen BK264.out 0
       try go_wp2_with (first | ((with_reducible refine gc_ 125 ?_); refine goesL_ (some 52) rfl rfl Try.func125 (by kernel_rfl) rfl #[.agg #[.slice Ao43 t260.length co43]] rfl am_ ?_; (with_reducible refine (spec_IsTrivial.calls k2 _ _ t260 t265 _ ?side1 ?side2 A33.out).mono ?_); (case side1 => refine (Kd.R_reads' (e := 3) (base := w.heap.size) (ok := fun k_ => ((w.heap.size ≤ k_) ∧ (some k_ ≠ (v254 : Value).ownBlock ∧ some k_ ≠ (v258 : Value).ownBlock))) (n := t260.length) (c := co43) ?_).2.2; exact (by (with_reducible repeat (first | apply Kd.R_alloc | apply Kd.R_drewN | apply Kd.R_drew)); exact (Kd.R_mono (Kd.R_far (p := ⟨gb264, 0, none⟩) (Kd.R_types HO262.out BK264.out (by decide)) (fun _ hk => hk.2) (.slice Ao43 t260.length co43)) (fun _ h_ => h_.1)))); (case side2 => exact (Kd.R_reads' HO262.out).2.1); rintro e w48 ⟨rfl, hb⟩; refine ⟨_, rfl, ?_⟩; replace HO_6 := Aside0.mk (Kd.N_below (by (with_reducible repeat (first | apply Kd.N_alloc | apply Kd.N_drewN | apply Kd.N_drew)); exact (Kd.N_mono (Kd.N_far (p := ⟨gb264, 0, none⟩) (Kd.N_mono HO_6.out (fun k_ hk => (⟨hk, hk.2.2.2.2.2.2.2⟩ : _ ∧ k_ ≠ gb264))) (fun _ hk => hk.2) (.slice Ao43 t260.length co43)) (fun _ h_ => h_.1))) hb); replace HO_7 := Aside0.mk (Kd.N_below (by (with_reducible repeat (first | apply Kd.N_alloc | apply Kd.N_drewN | apply Kd.N_drew)); exact (Kd.N_mono (Kd.N_far (p := ⟨gb264, 0, none⟩) (Kd.N_mono HO_7.out (fun k_ hk => (⟨hk, hk.2.2.2.2.2.2.2⟩ : _ ∧ k_ ≠ gb264))) (fun _ hk => hk.2) (.slice Ao43 t260.length co43)) (fun _ h_ => h_.1))) hb); replace HL256_1 := Aside0.mk (Kd.V_below (by (with_reducible repeat (first | apply Kd.V_alloc | apply Kd.V_drewN | apply Kd.V_drew)); exact (Kd.V_mono (Kd.V_far (p := ⟨gb264, 0, none⟩) (Kd.V_mono HL256_1.out (fun k_ hk => (⟨hk, hk.2.2.2.2.2.2.2.2⟩ : _ ∧ k_ ≠ gb264))) (fun _ hk => hk.2) (.slice Ao43 t260.length co43)) (fun _ h_ => h_.1))) hb); replace HO255 := Aside0.mk (Kd.R_below (by (with_reducible repeat (first | apply Kd.R_alloc | apply Kd.R_drewN | apply Kd.R_drew)); exact (Kd.R_mono (Kd.R_far (p := ⟨gb264, 0, none⟩) (Kd.R_types HO255.out BK264.out (by decide)) (fun _ hk => hk.2) (.slice Ao43 t260.length co43)) (fun _ h_ => h_.1))) hb); replace HO259 := Aside0.mk (Kd.R_below (by (with_reducible repeat (first | apply Kd.R_alloc | apply Kd.R_drewN | apply Kd.R_drew)); exact (Kd.R_mono (Kd.R_far (p := ⟨gb264, 0, none⟩) (Kd.R_types HO259.out BK264.out (by decide)) (fun _ hk => hk.2) (.slice Ao43 t260.length co43)) (fun _ h_ => h_.1))) hb); replace HO262 := Aside0.mk (Kd.R_below (by (with_reducible repeat (first | apply Kd.R_alloc | apply Kd.R_drewN | apply Kd.R_drew)); exact (Kd.R_mono (Kd.R_far (p := ⟨gb264, 0, none⟩) (Kd.R_types HO262.out BK264.out (by decide)) (fun _ hk => hk.2) (.slice Ao43 t260.length co43)) (fun _ h_ => h_.1))) hb); replace BK240 := Aside0.mk (blk_below (g := gb240) (o := .cells #[.slice A0_0 l0_0.length c0_0] 86 (0, 0)) (by (with_reducible repeat (first | refine blk_drewN ?_ _ | refine blk_drew ?_ | refine blk_alloc ?_ _)); refine blk_far ?_ NB240_264.out _; (with_reducible repeat (first | refine blk_drewN ?_ _ | refine blk_drew ?_ | refine blk_alloc ?_ _)); exact BK240.out) hb); replace BK241 := Aside0.mk (blk_below (g := gb241) (o := .cells #[.int .i64 a1_0, .slice A1_1 l1_1.length c1_1, .int .i64 a1_2] 90 (0, 0)) (by (with_reducible repeat (first | refine blk_drewN ?_ _ | refine blk_drew ?_ | refine blk_alloc ?_ _)); refine blk_far ?_ NB241_264.out _; (with_reducible repeat (first | refine blk_drewN ?_ _ | refine blk_drew ?_ | refine blk_alloc ?_ _)); exact BK241.out) hb); replace BK264 := Aside0.mk (blk_below (g := gb264) (o := .cells #[.slice Ao43 t260.length co43] 34 (0, 0)) (by (with_reducible repeat (first | refine blk_drewN ?_ _ | refine blk_drew ?_ | refine blk_alloc ?_ _)); refine blk_put (cs := #[.slice none 0 0]) ?_ 0 _ rfl; (with_reducible repeat (first | refine blk_drewN ?_ _ | refine blk_drew ?_ | refine blk_alloc ?_ _)); exact BK264.out) hb); replace HB := bs_ HB hb; (try clear hb); (try clear hb2); (try clear hk); (try clear hi)))
       go_loopg [11, 12] k2 (fun kq v11 v12 w' => ∃ (x11_3 : Bool) (x12_3 : Int), v11 = .bool x11_3 ∧ v12 = .int .i64 x12_3 ∧ Aside0 (spec_FootRows.l1 kq x6_2 t250 x8_2 x11_3 x12_3 a1_0 l1_1 a1_2 t260 = some (r1, r2)) ∧ Aside0 (kq ≤ k2) ∧ Aside0 (Kd.N k34 34 w' w.heap.size (fun k_ => (w.heap.size ≤ k_) ∧ some k_ ≠ ((.slice (some ad256) t250.length co34) : Value).ownBlock ∧ some k_ ≠ ((.slice Ao43 t260.length co43) : Value).ownBlock ∧ k_ ≠ gb240 ∧ k_ ≠ gb241 ∧ k_ ≠ gb264) u6 x6_2) ∧ Aside0 (Kd.N k90 90 w' w.heap.size (fun k_ => (w.heap.size ≤ k_) ∧ some k_ ≠ (u6 : Value).ownBlock ∧ some k_ ≠ ((.slice Ao43 t260.length co43) : Value).ownBlock ∧ k_ ≠ gb240 ∧ k_ ≠ gb241 ∧ k_ ≠ gb264) (.slice (some ad256) t250.length co34) t250) ∧ Aside0 (Kd.R (Kd.int .i64) 3 w' w.heap.size (fun k_ => (w.heap.size ≤ k_)) (.slice Ao43 t260.length co43) t260) ∧ Aside0 (w'.heap[gb240]? = some (.cells #[(.slice A0_0 l0_0.length c0_0)] 86 (0, 0))) ∧ Aside0 (w'.heap[gb241]? = some (.cells #[.int .i64 a1_0, (.slice A1_1 l1_1.length c1_1), .int .i64 a1_2] 90 (0, 0))) ∧ Aside0 (w'.heap[gb264]? = some (.cells #[(.slice Ao43 t260.length co43)] 34 (0, 0))) ∧ Aside0 (Below w.heap.size w w'))
       case atStart => exact ⟨(t265), (0), rs_, rs_, H', ⟨Nat.le_refl _⟩, ⟨by (with_reducible repeat (first | apply Kd.N_alloc | apply Kd.N_drewN | apply Kd.N_drew)); exact Kd.N_mono HO_6.out (fun _ hk => ⟨hk.1, ⟨hk.2.2.2.2.1, ⟨hk.2.2.2.1, ⟨hk.2.2.2.2.2.1, ⟨hk.2.2.2.2.2.2.1, hk.2.2.2.2.2.2.2⟩⟩⟩⟩⟩)⟩, ⟨by (with_reducible repeat (first | apply Kd.N_alloc | apply Kd.N_drewN | apply Kd.N_drew)); exact Kd.N_mono HO_7.out (fun _ hk => ⟨hk.1, ⟨hk.2.2.2.2.1, ⟨hk.2.2.2.1, ⟨hk.2.2.2.2.2.1, ⟨hk.2.2.2.2.2.2.1, hk.2.2.2.2.2.2.2⟩⟩⟩⟩⟩)⟩, ⟨by (with_reducible repeat (first | apply Kd.R_alloc | apply Kd.R_drewN | apply Kd.R_drew)); exact Kd.R_mono HO262.out (fun _ hk => hk.1)⟩, ⟨up_ BK240.out⟩, ⟨up_ BK241.out⟩, ⟨up_ BK264.out⟩, ⟨up_ HB.out⟩⟩
       case round =>
        clear H'
        try clear c1
        try clear c2
        try clear p2
        try clear c4
        try clear c12
        try clear c25
        try clear c45
        try clear c46
        try clear hcz47_0
        try clear hfz47_0
        obtain ⟨x11_3, x12_3, rfl, rfl, HA, HK3, HO_6, HO_7, HO_265000, BK240, BK241, BK264, HB⟩ := hrel
        cases gk with
        | zero => exact absurd HA.out (by simp [spec_FootRows.l1])
        | succ k3 =>
         have H := HA.out
         clear HA
         simp only [spec_FootRows.l1] at H
         replace H := its_ H; rcases H with ⟨c49b0, H⟩ | ⟨c49b0, H⟩
         ·replace H := itb_ H; rcases H with ⟨rfl, H⟩ | ⟨rfl, H⟩
          ·have H' := Aside0.mk H
           clear H
           obtain ⟨Ao51, co51, eo51⟩ := Kd.N_slice HO_6.out
           subst eo51
           try go_wp2
           have n0_ := Aside0.mk (Kd.N_drew HO_6.out)
           have n1_ := Aside0.mk (Kd.N_drew HO_7.out)
           have n2_ := Aside0.mk (Kd.R_drew HO_265000.out)
           have n3_ := Aside0.mk (blk_drew BK240.out)
           have n4_ := Aside0.mk (blk_drew BK241.out)
           have n5_ := Aside0.mk (blk_drew BK264.out)
           have n6_ := Aside0.mk (below_drew1 HB.out)
           clear HO_6
           clear HO_7
           clear HO_265000
           clear BK240
           clear BK241
           clear BK264
           clear HB
           have HO_6 := n0_
           have HO_7 := n1_
           have HO_265000 := n2_
           have BK240 := n3_
           have BK241 := n4_
           have BK264 := n5_
           have HB := n6_
           clear n0_ n1_ n2_ n3_ n4_ n5_ n6_
           refine start_ (n := 10) (S := fun w' => True) (ds := []) #[false, false, false, false, false, false, false, false, false, false] (by kernel_rfl) rfl rfl trivial (fun hHeld => ?_); refine with_tabW spec_FootRows.tab13 spec_FootRows.bits13 (fun HT_ HW_ => ?_)
           generalize wr.drew = w52 at HO_6 HO_7 HO_265000 BK240 BK241 BK264 HB hHeld ⊢
           refine pu_ 0 (some 59) ?_
           refine pu_ 1 (some 60) ?_
           refine po_ 2 (some 61) ?_
           refine po_ 3 (some 62) ?_
           refine po_ 4 (some 63) ?_
           refine po_ 5 (some 64) ?_
           refine po_ 6 (some 65) ?_
           refine po_ 7 (some 66) ?_
           refine pu_ 8 (some 67) ?_
           refine pu_ 9 (some 11) ?_
           refine done_ (done_of HT_.out (by kernel_rfl)) ?_
           try go_wp2
           go_roundg k3
           case measure => have := HJ2.out; have := HK2.out; have := HK3.out; omega
           case rel => exact ⟨(true), (wrap64 (x12_3 + 1)), rs_, rs_, H', ⟨by have := HJ2.out; have := HK2.out; have := HK3.out; omega⟩, ⟨up_ HO_6.out⟩, ⟨up_ HO_7.out⟩, ⟨up_ HO_265000.out⟩, ⟨up_ BK240.out⟩, ⟨up_ BK241.out⟩, ⟨up_ BK264.out⟩, ⟨up_ HB.out⟩⟩
          ·replace H := its_ H; rcases H with ⟨c53b0, H⟩ | ⟨_, ⟨⟩⟩
           replace H := Option.bind_eq_some_iff.mp H
           obtain ⟨t267, A540, H⟩ := H
           replace H : (spec_FootRows.l1 k3 x6_2 t250 x8_2 t267 (wrap64 (x12_3 + 1)) a1_0 l1_1 a1_2 t260) = some (r1, r2) := H
           have A54 := Aside0.mk A540
           clear A540
           have H' := Aside0.mk H
           clear H
           obtain ⟨Ao55, co55, eo55⟩ := Kd.N_slice HO_6.out
           subst eo55
           try go_wp2
           have n0_ := Aside0.mk (Kd.N_drew HO_6.out)
           have n1_ := Aside0.mk (Kd.N_drew HO_7.out)
           have n2_ := Aside0.mk (Kd.R_drew HO_265000.out)
           have n3_ := Aside0.mk (blk_drew BK240.out)
           have n4_ := Aside0.mk (blk_drew BK241.out)
           have n5_ := Aside0.mk (blk_drew BK264.out)
           have n6_ := Aside0.mk (below_drew1 HB.out)
           clear HO_6
           clear HO_7
           clear HO_265000
           clear BK240
           clear BK241
           clear BK264
           clear HB
           have HO_6 := n0_
           have HO_7 := n1_
           have HO_265000 := n2_
           have BK240 := n3_
           have BK241 := n4_
           have BK264 := n5_
           have HB := n6_
           clear n0_ n1_ n2_ n3_ n4_ n5_ n6_
           have p266 : 0 ≤ (x12_3 : Int) := od_
           have q266 : x12_3 < (x6_2.length : Int) := od_
           obtain ⟨ad266, A266_0, c266_0, e266, hx266_0, hl266_0, hi266_0⟩ := at_T34 (Kd.N_reads' HO_6.out).2.2 x12_3 p266 q266
           cases e266
           obtain ⟨ce266, hce266, hMe266, hcc266⟩ := Kd.N_get HO_6.out z34 x12_3 p266 (by first | exact q266 | exact od_ | (have e_ := (Kd.N_reads' HO_6.out).1; omega))
           obtain ⟨ua266_0, uc266_0, rfl, ul266_0, ge266_0⟩ := k34_openF hMe266
           have hv266_0 := hcc266 0 _ rfl
           rw [Nat.add_zero, show (k34).sz = 1 from rfl, Nat.mul_one] at hv266_0
           replace hv266_0 := Option.some.inj (hv266_0.symm.trans hx266_0)
           injection hv266_0 with hva_ hvn_ hvc_
           rw [hva_] at ge266_0
           rw [hvc_] at ul266_0
           have HL266_0 := Aside0.mk (show Kd.V (Kd.int .i64) 3 _ w.heap.size _ _ ((rd_T34 x6_2 x12_3).f0) from Kd.V_mk ul266_0 ge266_0)
           clear hva_ hvn_ hvc_ ge266_0 ul266_0
           clear hcc266 hce266
           have HR266_0 := Aside0.mk hi266_0
           have HC266_0 := Aside0.mk hl266_0
           clear hi266_0 hl266_0
           replace p266 := eq_true p266
           replace q266 := eq_true q266
           refine start_ (n := 10) (S := fun w' => w'.cell? ⟨gb264, 0, none⟩ = some (.slice Ao43 t260.length co43) ∧ w'.cell? (ad266.add (x12_3).toNat) = some (.slice A266_0 ((rd_T34 x6_2 x12_3).f0).length c266_0)) (ds := []) #[false, false, false, false, false, false, false, false, false, false] (by kernel_rfl) rfl rfl ⟨(blk_cell BK264.out 0).trans rfl, hx266_0⟩ (fun hHeld => ?_); refine with_tabW spec_FootRows.tab13 spec_FootRows.bits13 (fun HT_ HW_ => ?_)
           generalize wr.drew = w56 at HO_6 HO_7 HO_265000 BK240 BK241 BK264 HB HL266_0 HR266_0 hx266_0 hHeld ⊢
           refine pu_ 0 (some 59) ?_
           refine pu_ 1 (some 60) ?_
           refine pu_ 2 (some 61) ?_
           refine pu_ 3 (some 62) ?_
           refine pu_ 4 (some 63) ?_
           refine tk_ 5 (some 64) hHeld ?_
           refine tk_ 6 (some 65) hHeld ?_
           refine one_ (i := 7) (N := some 66) #[true, true, true, true, true, true, true, true, false, false] rfl rfl (one_of HT_.out (by kernel_rfl)) (by decide) (fun K hK => ?_)
           refine goes_ Try.func126 (by kernel_rfl) rfl #[.agg #[.slice A266_0 ((rd_T34 x6_2 x12_3).f0).length c266_0], .agg #[.slice Ao43 t260.length co43]] (by rfl) rfl rfl am_ ?_
           with_reducible refine (spec_l13Same.calls k3 _ _ ((rd_T34 x6_2 x12_3).f0) _ _ t260 t267 _ ?side1 ?side2 ?side3 ?side4 A54.out).mono ?_
           (case side1 => exact up_ HR266_0.out)
           (case side2 => exact HC266_0.out)
           (case side3 => repeat (first | exact (Kd.R_reads' HO_265000.out).2.2 | (with_reducible refine Kd.C_alloc ?_ _) | (with_reducible refine Kd.C_drewN ?_ _) | (with_reducible refine Kd.C_drew ?_)))
           (case side4 => exact (Kd.R_reads' HO_265000.out).2.1)
           rintro e w57 ⟨rfl, hb⟩
           have HS1_ := (hb.cell (World.block_lt_of_cell? _ _ (hHeld.2))).trans (hHeld.2)
           refine ⟨_, rfl, ?_⟩
           have n0_ := Aside0.mk (Kd.N_below (up_ HO_6.out) hb)
           have n1_ := Aside0.mk (Kd.N_below (up_ HO_7.out) hb)
           have n2_ := Aside0.mk (Kd.R_below (up_ HO_265000.out) hb)
           have n3_ := Aside0.mk (Kd.V_below (up_ HL266_0.out) hb)
           have n4_ := bb_ BK240 hb
           have n5_ := bb_ BK241 hb
           have n6_ := bb_ BK264 hb
           have n7_ := Aside0.mk (Kd.C_below (up_ HR266_0.out) hb)
           have n8_ := bs_ HB hb
           clear HO_6
           clear HO_7
           clear HO_265000
           clear HL266_0
           clear BK240
           clear BK241
           clear BK264
           clear HR266_0
           clear HB
           have HO_6 := n0_
           have HO_7 := n1_
           have HO_265000 := n2_
           have HL266_0 := n3_
           have BK240 := n4_
           have BK241 := n5_
           have BK264 := n6_
           have HR266_0 := n7_
           have HB := n8_
           clear n0_ n1_ n2_ n3_ n4_ n5_ n6_ n7_ n8_
           (try clear hb)
           (try clear hb2)
           (try clear hk)
           (try clear hi)
           refine hK.out _ _ ⟨(blk_cell BK264.out 0).trans rfl, HS1_⟩ (fun hHeld => ?_)
           clear hK K
           refine nm_ ?_
           refine pu_ 8 (some 67) ?_
           refine pu_ 9 (some 11) ?_
           refine done_ (done_of HT_.out (by kernel_rfl)) ?_
           try go_wp2
           go_roundg k3
           case measure => have := HJ2.out; have := HK2.out; have := HK3.out; omega
           case rel => exact ⟨(t267), (wrap64 (x12_3 + 1)), rs_, rs_, H', ⟨by have := HJ2.out; have := HK2.out; have := HK3.out; omega⟩, ⟨up_ HO_6.out⟩, ⟨up_ HO_7.out⟩, ⟨up_ HO_265000.out⟩, ⟨up_ BK240.out⟩, ⟨up_ BK241.out⟩, ⟨up_ BK264.out⟩, ⟨up_ HB.out⟩⟩
         ·replace H := itb_ H; rcases H with ⟨rfl, H⟩ | ⟨rfl, H⟩
          ·have H' := Aside0.mk H
           clear H
           obtain ⟨Ao59, co59, eo59⟩ := Kd.N_slice HO_6.out
           subst eo59
           go_wp2
           go_roundg k3
           case measure => have := HJ2.out; have := HK2.out; have := HK3.out; omega
           case rel => exact ⟨(x6_2), (wrap64 (x8_2 + 1)), rs_, H', ⟨by have := HJ2.out; have := HK2.out; have := HK3.out; omega⟩, ⟨by (with_reducible repeat (first | apply Kd.N_alloc | apply Kd.N_drewN | apply Kd.N_drew)); exact Kd.N_mono HO_6.out (fun _ hk => ⟨hk.1, ⟨hk.2.1, ⟨hk.2.2.2.1, hk.2.2.2.2.1⟩⟩⟩)⟩, ⟨by (with_reducible repeat (first | apply Kd.N_alloc | apply Kd.N_drewN | apply Kd.N_drew)); exact Kd.N_mono HO_7.out (fun _ hk => ⟨hk.1, ⟨hk.2.1, ⟨hk.2.2.2.1, hk.2.2.2.2.1⟩⟩⟩)⟩, ⟨up_ BK240.out⟩, ⟨up_ BK241.out⟩, ⟨up_ HB.out⟩⟩
          ·by_cases c60 : x6_2.length < 5864062014805
           ·rw [if_pos c60] at H
            have LMc60 := Aside0.mk c60
            clear c60
            obtain ⟨y268, hy268⟩ : ∃ y_ : List (S34), y_ = (x6_2 ++ [(⟨t260⟩ : S34)]) := ⟨_, rfl⟩
            replace H : (spec_FootRows.l0 k3 y268 t250 (wrap64 (x8_2 + 1)) a1_0 l1_1 a1_2) = some (r1, r2) := rh_ hy268 H
            have Ny268 := Aside0.mk hy268
            clear hy268
            have H' := Aside0.mk H
            clear H
            obtain ⟨Ao61, co61, eo61⟩ := Kd.N_slice HO_6.out
            subst eo61
            have hnb62 := NB264_240.out
            have hnc62 := NB240_264.out
            have hnb63 := NB264_241.out
            have hnc63 := NB241_264.out
            have hcz64_0 := c1_ BK264
            have hfz64_0 := blk_frozen BK264.out 0
            go_wp2_with (first | ((with_reducible refine gate_builtin (b := .append) (xs := #[.tmp 70, .tmp 72]) rfl ?_); at_builtin; refine Kd.N_append k34 (w0 := w) w.heap.size rfl (.tmp 70) (.tmp 72) 45 34 (.agg #[(.slice none 0 0)]) 24 rfl Try.underlying45 info34 rfl (by decide) (by omega) (.slice Ao61 x6_2.length co61) x6_2 (⟨t260⟩ : S34) [.slice Ao43 t260.length co43] (fun k_ => (w.heap.size ≤ k_) ∧ some k_ ≠ (.slice (some ad256) t250.length co34 : Value).ownBlock ∧ k_ ≠ gb240 ∧ k_ ≠ gb241 ∧ k_ ≠ gb264) (fun k_ => ((fun k_ => (w.heap.size ≤ k_) ∧ some k_ ≠ (.slice (some ad256) t250.length co34 : Value).ownBlock ∧ k_ ≠ gb240 ∧ k_ ≠ gb241 ∧ k_ ≠ gb264)) k_ ∧ some k_ ≠ (.slice Ao61 x6_2.length co61 : Value).ownBlock) rfl rfl ?aP (fun _ hk => hk) ?aF ?aO ?aB ?aS ?aL ?_; (case aP => exact (k34_mkF _ _ (⟨t260⟩ : S34) (Kd.R_reads' (Kd.R_mono (ok' := (fun k_ => ((fun k_ => (w.heap.size ≤ k_) ∧ some k_ ≠ (.slice (some ad256) t250.length co34 : Value).ownBlock ∧ k_ ≠ gb240 ∧ k_ ≠ gb241 ∧ k_ ≠ gb264)) k_ ∧ some k_ ≠ (.slice Ao61 x6_2.length co61 : Value).ownBlock)) (Kd.R_types (Kd.R_types (Kd.R_types (Kd.R_apart' (Kd.R_apart' (HO_265000.out) (Kd.N_typed HO_7.out) (by decide)) (Kd.N_typed HO_6.out) (by decide)) BK240.out (by decide)) BK241.out (by decide)) BK264.out (by decide)) (fun k_ hk => ⟨⟨hk.1.1.1.1.1, ⟨hk.1.1.1.1.2, ⟨hk.1.1.2, ⟨hk.1.2, hk.2⟩⟩⟩⟩, hk.1.1.1.2⟩))).2.1 (Kd.R_F (Kd.R_mono (ok' := (fun k_ => ((fun k_ => (w.heap.size ≤ k_) ∧ some k_ ≠ (.slice (some ad256) t250.length co34 : Value).ownBlock ∧ k_ ≠ gb240 ∧ k_ ≠ gb241 ∧ k_ ≠ gb264)) k_ ∧ some k_ ≠ (.slice Ao61 x6_2.length co61 : Value).ownBlock)) (Kd.R_types (Kd.R_types (Kd.R_types (Kd.R_apart' (Kd.R_apart' (HO_265000.out) (Kd.N_typed HO_7.out) (by decide)) (Kd.N_typed HO_6.out) (by decide)) BK240.out (by decide)) BK241.out (by decide)) BK264.out (by decide)) (fun k_ hk => ⟨⟨hk.1.1.1.1.1, ⟨hk.1.1.1.1.2, ⟨hk.1.1.2, ⟨hk.1.2, hk.2⟩⟩⟩⟩, hk.1.1.1.2⟩))))); (case aB => exact (up_ HB.out)); (case aF => exact (fun k_ hk => ⟨(Nat.le_trans (below_size (up_ HB.out)) hk), Kd.fresh' (Kd.N_lt (up_ HO_7.out)) k_ hk, Kd.freshB (g := gb240) (o := .cells #[.slice A0_0 l0_0.length c0_0] 86 (0, 0)) (up_ BK240.out) k_ hk, Kd.freshB (g := gb241) (o := .cells #[.int .i64 a1_0, .slice A1_1 l1_1.length c1_1, .int .i64 a1_2] 90 (0, 0)) (up_ BK241.out) k_ hk, Kd.freshB (g := gb264) (o := .cells #[.slice Ao43 t260.length co43] 34 (0, 0)) (up_ BK264.out) k_ hk⟩)); (case aO => exact (by (with_reducible repeat (first | apply Kd.N_alloc | apply Kd.N_drewN | apply Kd.N_drew)); exact Kd.N_mono HO_6.out (fun _ hk => ⟨hk.1, ⟨hk.2.1, ⟨hk.2.2.2.1, ⟨hk.2.2.2.2.1, hk.2.2.2.2.2⟩⟩⟩⟩))); (case aS => exact (below_size (up_ HB.out))); (case aL => have := LMc60.out; omega); intro v269 w65 ho hb hg hat; rw [← Ny268.out] at ho; have n0_ := Aside0.mk (Kd.N_afterv (ok := (fun k_ => (w.heap.size ≤ k_) ∧ some k_ ≠ (.slice Ao43 t260.length co43 : Value).ownBlock ∧ k_ ≠ gb240 ∧ k_ ≠ gb241 ∧ k_ ≠ gb264)) (by (with_reducible repeat (first | apply Kd.N_alloc | apply Kd.N_drewN | apply Kd.N_drew)); exact Kd.N_mono HO_7.out (fun _ hk => ⟨⟨hk.1, ⟨hk.2.2.1, ⟨hk.2.2.2.1, ⟨hk.2.2.2.2.1, hk.2.2.2.2.2⟩⟩⟩⟩, hk.2.1⟩)) hg hat); have n1_ := Aside0.mk (blk_grown (g := gb240) (o := .cells #[.slice A0_0 l0_0.length c0_0] 86 (0, 0)) (up_ BK240.out) hg (Kd.N_ne HO_6.out BK240.out (by decide))); have n2_ := Aside0.mk (blk_grown (g := gb241) (o := .cells #[.int .i64 a1_0, .slice A1_1 l1_1.length c1_1, .int .i64 a1_2] 90 (0, 0)) (up_ BK241.out) hg (Kd.N_ne HO_6.out BK241.out (by decide))); have n3_ := Aside0.mk (blk_grown (g := gb264) (o := .cells #[.slice Ao43 t260.length co43] 34 (0, 0)) (up_ BK264.out) hg (Kd.N_away HO_6.out (fun _ hk => hk.2.2.2.2.2))); have n4_ := Aside0.mk (hb); have n5_ := Aside0.mk (ho); clear HO_7; clear BK240; clear BK241; clear BK264; clear HB; clear HO_6; clear HO_265000; have HO_7 := n0_; have BK240 := n1_; have BK241 := n2_; have BK264 := n3_; have HB := n4_; have HO270 := n5_; clear n0_ n1_ n2_ n3_ n4_ n5_; clear ho hb hg hat))
            go_roundg k3
            case measure => have := HJ2.out; have := HK2.out; have := HK3.out; omega
            case rel => exact ⟨(y268), (wrap64 (x8_2 + 1)), rs_, H', ⟨by have := HJ2.out; have := HK2.out; have := HK3.out; omega⟩, ⟨by (with_reducible repeat (first | apply Kd.N_alloc | apply Kd.N_drewN | apply Kd.N_drew)); exact Kd.N_mono HO270.out (fun _ hk => ⟨hk.1, ⟨hk.2.1, ⟨hk.2.2.1, hk.2.2.2.1⟩⟩⟩)⟩, ⟨by (with_reducible repeat (first | apply Kd.N_alloc | apply Kd.N_drewN | apply Kd.N_drew)); exact Kd.N_mono HO_7.out (fun _ hk => ⟨hk.1.1, ⟨hk.2, ⟨hk.1.2.2.1, hk.1.2.2.2.1⟩⟩⟩)⟩, ⟨up_ BK240.out⟩, ⟨up_ BK241.out⟩, ⟨up_ HB.out⟩⟩
           ·rw [if_neg c60] at H
            exact absurd H (by simp)
      ·simp only [Option.some.injEq, Prod.mk.injEq] at H
       obtain ⟨rfl, rfl⟩ := H
       obtain ⟨Ao66, co66, eo66⟩ := Kd.N_slice HO_7.out
       subst eo66
       go_wp2
       go_ret2
       exact ⟨_, re_, by (with_reducible repeat (first | apply Kd.N_alloc | apply Kd.N_drewN | apply Kd.N_drew)); exact Kd.N_mono HO_6.out (fun _ hk => hk.1), up_ HB.out⟩

end Go.Proofs.Ytkddpilambnicaa.PFnExactFootRows
