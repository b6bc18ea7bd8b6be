/- Walks of Go functions that the law FnExactFootRows uses: written by this session's program out of the kit's printer; each shows that a call comes to the answers of the Lean function beside it. Conditions: each contract's own. -/
import Derived.Test.YtkddpilambnicaaPFnExactFootRowsx0
import Derived.Test.YtkddpilambnicaaPFnExactFootRowsx1
import Derived.Test.YtkddpilambnicaaPFnExactFootRowsx9
import Derived.Test.YtkddpilambnicaaPFnExactFootRowsx10
import Derived.Test.YtkddpilambnicaaPFnExactFootRowsx11
import Derived.Test.YtkddpilambnicaaPFnExactFootRowsx13
namespace Go.Proofs.Ytkddpilambnicaa.PFnExactFootRows
open Go.RowKit Go.Proofs.YtkddpilambnicaaW.PrintWords Go.Proofs.YtkddpilambnicaaW.PrintLast Go.Proofs.YtkddpilambnicaaW.PrintMore Go.Proofs.Ytkddpilambnicaa.Mac Go.Proofs.Ytkddpilambnicaa.Law
attribute [local go_sem] max2_int min2_int max_two min_two max_three min_three max_four min_four   -- for this text's walks alone
set_option linter.unusedVariables false
set_option linter.unusedSimpArgs false

/-! ### impl_FootRows: function 59 -/
def impl_FootRows.j0 : Nat → Bool → Int → List (S166) → Int → Option ((List (S34)) × Bool)
 | 0, _, _, _, _ => none
 | k + 1, x21, x417000, x417001, x417002 => if x21 = true then (some (([] : List (S34)), false)) else ((impl_footProfile.f k x417000 x417001 x417002).bind fun t422 => ((impl_footProfiles.f k x417000).bind fun t425 => ((impl_rowsAgainst.f k t422 t425).bind fun t428 => (some (t428, true)))))
def impl_FootRows.f (k : Nat) (l0_0 : List Int) (a1_0 : Int) (l1_1 : List (S166)) (a1_2 : Int) : Option ((List (S34)) × Bool) := (impl_IsFooting.f k a1_0 l1_1 a1_2).bind fun t417 => (if t417 = true then (if a1_0 > 4 then (impl_FootRows.j0 k true a1_0 l1_1 a1_2) else ((impl_StressesOf.f k a1_0 l1_1 a1_2).bind fun t418 => ((slices_Equal_int_int.f k t418 l0_0).bind fun t421 => (impl_FootRows.j0 k (!t421) a1_0 l1_1 a1_2)))) else (impl_FootRows.j0 k true a1_0 l1_1 a1_2))
def impl_FootRows.T1 : Bool × List (List Nat × List Nat) := (true, [([], []), ([0], [0]), ([1], [1]), ([2, 1], [2]), ([3], [3]), ([4, 3], [3, 4]), ([5, 3], [3, 5]), ([3, 6], [3, 6]), ([7, 3], [7]), ([8], [8]), ([9, 8, 8], [8, 9]), ([8], [8]), ([11, 8], [8, 11]), ([10, 12, 10, 8], [8, 10, 12]), ([13, 8], [8, 13]), ([8, 14], [8, 14])])
def impl_FootRows.B1 : List Nat := [0, 1, 3, 7, 15, 31, 63, 127, 255, 511, 1023, 511, 2559, 8191, 16383, 32767]
theorem impl_FootRows.tab1 : rtab .any (opsOf Try.f59 1) = impl_FootRows.T1 := by kernel_rfl
theorem impl_FootRows.bits1 : waitsOk impl_FootRows.T1.2 impl_FootRows.B1 = true := by kernel_rfl
def impl_FootRows.T3 : Bool × List (List Nat × List Nat) := (true, [([], []), ([0], [0]), ([], []), ([2], [2]), ([3, 1], [3]), ([1, 4, 4], [1, 4]), ([5, 5, 0, 1, 2, 3, 4, 5], [5]), ([6, 0, 1, 2, 3, 4, 5, 6], [])])
def impl_FootRows.B3 : List Nat := [0, 1, 0, 4, 15, 31, 63, 127]
theorem impl_FootRows.tab3 : rtab .any (opsOf Try.f59 3) = impl_FootRows.T3 := by kernel_rfl
theorem impl_FootRows.bits3 : waitsOk impl_FootRows.T3.2 impl_FootRows.B3 = true := by kernel_rfl
set_option maxHeartbeats 8000000 in
set_option maxRecDepth 100000 in
theorem impl_FootRows.calls (k : Nat) (A0_0 : Option Addr) (c0_0 : Nat) (l0_0 : List Int) (a1_0 : Int) (A1_1 : Option Addr) (c1_1 : Nat) (l1_1 : List (S166)) (a1_2 : Int) (r1 : List (S34)) (r2 : Bool) (w : World) (hr0_0 : Kd.C (Kd.int .i64) w A0_0 l0_0.length l0_0) (hc0_0 : l0_0.length ≤ c0_0) (hr1_1 : Kd.C k166 w A1_1 l1_1.length l1_1) (hc1_1 : l1_1.length ≤ c1_1) (h : impl_FootRows.f k l0_0 a1_0 l1_1 a1_2 = some (r1, r2)) :
  Calls Try.prog 59 #[.agg #[.slice A0_0 l0_0.length c0_0], .agg #[.int .i64 a1_0, .slice A1_1 l1_1.length c1_1, .int .i64 a1_2]] w fun e w' => ∃ v0_ : Value, e = .returned (.tuple #[v0_, .bool r2]) ∧ Kd.S k34 34 w' w.heap.size (fun _ => True) v0_ r1 ∧ Below w.heap.size w w' := by
 have hu86 := Try.underlying86
 have hu90 := Try.underlying90
 have HR0_0 := Aside0.mk hr0_0
 have HC0_0 := Aside0.mk hc0_0
 clear hr0_0 hc0_0
 have HR1_1 := Aside0.mk hr1_1
 have HC1_1 := Aside0.mk hc1_1
 clear hr1_1 hc1_1
 have HB := Aside0.mk (Below.refl w.heap.size w)
 have H : ((impl_IsFooting.f k a1_0 l1_1 a1_2).bind fun t417 => (if t417 = true then (if a1_0 > 4 then (impl_FootRows.j0 k true a1_0 l1_1 a1_2) else ((impl_StressesOf.f k a1_0 l1_1 a1_2).bind fun t418 => ((slices_Equal_int_int.f k t418 l0_0).bind fun t421 => (impl_FootRows.j0 k (!t421) a1_0 l1_1 a1_2)))) else (impl_FootRows.j0 k true a1_0 l1_1 a1_2))) = some (r1, r2) := h
 clear h
 have HC3 := Aside0.mk H
 clear H
 go_enter Try.func59, Try.ntmps59
 go_upto_region 1 with (first | ((with_reducible refine gd_ 2 ?_); refine bx_ 2 #[.slice A0_0 l0_0.length c0_0] 86 ?_; intro gb415 hg w4 hbox hb; have BK415 := Aside0.mk (hbox); have GW415 := gw_ HB hg; have GE415 := gw_ HB hg; replace HB := bs_ HB hb; clear hb hbox hg) | ((with_reducible refine gd_ 3 ?_); refine bx_ 3 #[.int .i64 a1_0, .slice A1_1 l1_1.length c1_1, .int .i64 a1_2] 90 ?_; intro gb416 hg w5 hbox hb; have BK416 := Aside0.mk (hbox); have GW416 := gw_ HB hg; have GE416 := gw_ HB hg; replace HB := bs_ HB hb; have NB415_416 := Aside0.mk ((by rw [hg]; exact Nat.ne_of_lt (blk_lt (g := gb415) (o := .cells #[.slice A0_0 l0_0.length c0_0] 86 (0, 0)) (up_ BK415.out)) : gb415 ≠ gb416)); have NB416_415 := Aside0.mk ((by rw [hg]; exact Nat.ne_of_gt (blk_lt (g := gb415) (o := .cells #[.slice A0_0 l0_0.length c0_0] 86 (0, 0)) (up_ BK415.out)) : gb416 ≠ gb415)); replace BK415 := bb_ BK415 hb; clear hb hbox hg))
 (try simp only [Act.put, List.setIfInBounds_toArray, List.set_cons_zero, List.set_cons_succ])
 go_cut [21] (fun v21 wc => ∃ (kq : Nat) (x21_2 : Bool), v21 = .bool x21_2 ∧ Aside0 (impl_FootRows.j0 kq x21_2 a1_0 l1_1 a1_2 = some (r1, r2)) ∧ Aside0 (kq ≤ k) ∧ Aside0 (wc.heap[gb415]? = some (.cells #[(.slice A0_0 l0_0.length c0_0)] 86 (0, 0))) ∧ Aside0 (wc.heap[gb416]? = some (.cells #[.int .i64 a1_0, (.slice A1_1 l1_1.length c1_1), .int .i64 a1_2] 90 (0, 0))) ∧ Aside0 (Below w.heap.size w wc))
 case first =>
  have H := HC3.out
  clear HC3
  replace H := Option.bind_eq_some_iff.mp H
  obtain ⟨t417, A60, H⟩ := H
  replace H : (if t417 = true then (if a1_0 > 4 then (impl_FootRows.j0 k true a1_0 l1_1 a1_2) else ((impl_StressesOf.f k a1_0 l1_1 a1_2).bind fun t418 => ((slices_Equal_int_int.f k t418 l0_0).bind fun t421 => (impl_FootRows.j0 k (!t421) a1_0 l1_1 a1_2)))) else (impl_FootRows.j0 k true a1_0 l1_1 a1_2)) = some (r1, r2) := H
  have A6 := Aside0.mk A60
  clear A60
  replace H := itb_ H; rcases H with ⟨rfl, H⟩ | ⟨rfl, H⟩
  ·by_cases c8 : a1_0 > 4
   ·rw [if_pos c8] at H
    have c8b0 : decide (4 < a1_0) = true := decide_eq_true c8
    clear c8
    (first | rw [c8b0] | (simp only [i64_w, i32_w]; rw [c8b0]) | skip)
    have H' := Aside0.mk H
    clear H
    try go_wp2
    have n0_ := Aside0.mk (blk_drew BK415.out)
    have n1_ := Aside0.mk (blk_drew BK416.out)
    have n2_ := Aside0.mk (below_drew1 HB.out)
    clear BK415
    clear BK416
    clear HB
    have BK415 := n0_
    have BK416 := n1_
    have HB := n2_
    clear n0_ n1_ n2_
    refine start_ (n := 16) (S := fun w' => w'.cell? ⟨gb416, 0, none⟩ = some (.int .i64 a1_0) ∧ w'.cell? ⟨gb416, 1, none⟩ = some (.slice A1_1 l1_1.length c1_1) ∧ w'.cell? ⟨gb416, 2, none⟩ = some (.int .i64 a1_2)) (ds := []) #[false, false, false, false, false, false, false, false, false, false, false, false, false, false, false, false] (by kernel_rfl) rfl rfl ⟨(blk_cell BK416.out 0).trans rfl, (blk_cell BK416.out 1).trans rfl, (blk_cell BK416.out 2).trans rfl⟩ (fun hHeld => ?_); refine with_tabW impl_FootRows.tab1 impl_FootRows.bits1 (fun HT_ HW_ => ?_)
    generalize w5.drew = w9 at BK415 BK416 HB hHeld ⊢
    refine tk_ 0 (some 6) hHeld ?_
    refine one_ (i := 1) (N := some 7) #[true, true, false, false, false, false, false, false, false, false, false, false, false, false, false, false] rfl rfl (one_of HT_.out (by kernel_rfl)) (by decide) (fun K hK => ?_)
    refine goes_ Try.func128 (by kernel_rfl) rfl #[.agg #[.int .i64 a1_0, .slice A1_1 l1_1.length c1_1, .int .i64 a1_2]] (by rfl) rfl rfl am_ ?_
    with_reducible refine (impl_IsFooting.calls k a1_0 _ _ l1_1 a1_2 true _ ?side1 ?side2 A6.out).mono ?_
    (case side1 => exact Kd.C_below HR1_1.out (up_ HB.out))
    (case side2 => exact HC1_1.out)
    rintro e w10 ⟨rfl, hb⟩
    refine ⟨_, rfl, ?_⟩
    have n0_ := bb_ BK415 hb
    have n1_ := bb_ BK416 hb
    have n2_ := bs_ HB hb
    clear BK415
    clear BK416
    clear HB
    have BK415 := n0_
    have BK416 := n1_
    have HB := n2_
    clear n0_ n1_ n2_
    (try clear hb)
    (try clear hb2)
    (try clear hk)
    (try clear hi)
    refine hK.out _ _ ⟨(blk_cell BK416.out 0).trans rfl, (blk_cell BK416.out 1).trans rfl, (blk_cell BK416.out 2).trans rfl⟩ (fun hHeld => ?_)
    clear hK K
    refine nm_ ?_
    refine pu_ 2 (some 8) ?_
    refine pu_ 3 (some 9) ?_
    refine pu_ 4 (some 10) ?_
    refine tk_ 5 (some 11) hHeld ?_
    refine pu_ 6 (some 12) ?_
    refine pu_ 7 (some 13) ?_
    refine pu_ 8 (some 14) ?_
    refine po_ 9 (some 15) ?_
    refine po_ 10 (some 16) ?_
    refine po_ 11 (some 17) ?_
    refine po_ 12 (some 18) ?_
    refine po_ 13 (some 19) ?_
    refine po_ 14 (some 20) ?_
    refine pu_ 15 (some 21) ?_
    refine done_ (done_of HT_.out (by kernel_rfl)) ?_
    try go_wp2
    go_meet
    case rel => exact ⟨_, (true), rs_, H', ⟨by first | omega | exact Nat.le_refl _⟩, ⟨up_ BK415.out⟩, ⟨up_ BK416.out⟩, ⟨up_ HB.out⟩⟩
   ·rw [if_neg c8] at H
    have c8b0 : decide (4 < a1_0) = false := decide_eq_false c8
    clear c8
    (first | rw [c8b0] | (simp only [i64_w, i32_w]; rw [c8b0]) | skip)
    replace H := Option.bind_eq_some_iff.mp H
    obtain ⟨t418, A110, H⟩ := H
    replace H : ((slices_Equal_int_int.f k t418 l0_0).bind fun t421 => (impl_FootRows.j0 k (!t421) a1_0 l1_1 a1_2)) = some (r1, r2) := H
    have A11 := Aside0.mk A110
    clear A110
    replace H := Option.bind_eq_some_iff.mp H
    obtain ⟨t421, A120, H⟩ := H
    replace H : (impl_FootRows.j0 k (!t421) a1_0 l1_1 a1_2) = some (r1, r2) := H
    have A12 := Aside0.mk A120
    clear A120
    have H' := Aside0.mk H
    clear H
    try go_wp2
    have n0_ := Aside0.mk (blk_drew BK415.out)
    have n1_ := Aside0.mk (blk_drew BK416.out)
    have n2_ := Aside0.mk (below_drew1 HB.out)
    clear BK415
    clear BK416
    clear HB
    have BK415 := n0_
    have BK416 := n1_
    have HB := n2_
    clear n0_ n1_ n2_
    refine start_ (n := 16) (S := fun w' => w'.cell? ⟨gb416, 0, none⟩ = some (.int .i64 a1_0) ∧ w'.cell? ⟨gb416, 1, none⟩ = some (.slice A1_1 l1_1.length c1_1) ∧ w'.cell? ⟨gb416, 2, none⟩ = some (.int .i64 a1_2) ∧ w'.cell? ⟨gb415, 0, none⟩ = some (.slice A0_0 l0_0.length c0_0)) (ds := []) #[false, false, false, false, false, false, false, false, false, false, false, false, false, false, false, false] (by kernel_rfl) rfl rfl ⟨(blk_cell BK416.out 0).trans rfl, (blk_cell BK416.out 1).trans rfl, (blk_cell BK416.out 2).trans rfl, (blk_cell BK415.out 0).trans rfl⟩ (fun hHeld => ?_); refine with_tabW impl_FootRows.tab1 impl_FootRows.bits1 (fun HT_ HW_ => ?_)
    generalize w5.drew = w13 at BK415 BK416 HB hHeld ⊢
    refine tk_ 0 (some 6) hHeld ?_
    refine one_ (i := 1) (N := some 7) #[true, true, false, false, false, false, false, false, false, false, false, false, false, false, false, false] rfl rfl (one_of HT_.out (by kernel_rfl)) (by decide) (fun K hK => ?_)
    refine goes_ Try.func128 (by kernel_rfl) rfl #[.agg #[.int .i64 a1_0, .slice A1_1 l1_1.length c1_1, .int .i64 a1_2]] (by rfl) rfl rfl am_ ?_
    with_reducible refine (impl_IsFooting.calls k a1_0 _ _ l1_1 a1_2 true _ ?side1 ?side2 A6.out).mono ?_
    (case side1 => exact Kd.C_below HR1_1.out (up_ HB.out))
    (case side2 => exact HC1_1.out)
    rintro e w14 ⟨rfl, hb⟩
    refine ⟨_, rfl, ?_⟩
    have n0_ := bb_ BK415 hb
    have n1_ := bb_ BK416 hb
    have n2_ := bs_ HB hb
    clear BK415
    clear BK416
    clear HB
    have BK415 := n0_
    have BK416 := n1_
    have HB := n2_
    clear n0_ n1_ n2_
    (try clear hb)
    (try clear hb2)
    (try clear hk)
    (try clear hi)
    refine hK.out _ _ ⟨(blk_cell BK416.out 0).trans rfl, (blk_cell BK416.out 1).trans rfl, (blk_cell BK416.out 2).trans rfl, (blk_cell BK415.out 0).trans rfl⟩ (fun hHeld => ?_)
    clear hK K
    refine nm_ ?_
    refine pu_ 2 (some 8) ?_
    refine pu_ 3 (some 9) ?_
    refine pu_ 4 (some 10) ?_
    refine tk_ 5 (some 11) hHeld ?_
    refine pu_ 6 (some 12) ?_
    refine pu_ 7 (some 13) ?_
    refine pu_ 8 (some 14) ?_
    refine pu_ 11 (some 17) ?_
    refine tk_ 9 (some 15) hHeld ?_
    refine tk_ 12 (some 18) hHeld ?_
    refine one_ (i := 10) (N := some 16) #[true, true, true, true, true, true, true, true, true, true, true, true, true, false, false, false] rfl rfl (one_of HT_.out (by kernel_rfl)) (by decide) (fun K hK => ?_)
    refine goes_ Try.func130 (by kernel_rfl) rfl #[.agg #[.int .i64 a1_0, .slice A1_1 l1_1.length c1_1, .int .i64 a1_2]] (by rfl) rfl rfl am_ ?_
    with_reducible refine (impl_StressesOf.calls k a1_0 _ _ l1_1 a1_2 t418 _ ?side1 ?side2 A11.out).mono ?_
    (case side1 => exact Kd.C_below HR1_1.out (up_ HB.out))
    (case side2 => exact HC1_1.out)
    rintro e w15 ⟨v419, rfl, ho0, hb⟩
    refine ⟨_, rfl, ?_⟩
    have n0_ := Aside0.mk (Kd.R_lower ho0 (below_size (up_ HB.out)))
    have n1_ := bb_ BK415 hb
    have n2_ := bb_ BK416 hb
    have n3_ := bs_ HB hb
    clear BK415
    clear BK416
    clear HB
    have HO420 := n0_
    have BK415 := n1_
    have BK416 := n2_
    have HB := n3_
    clear n0_ n1_ n2_ n3_
    (try clear hb)
    (try clear hb2)
    (try clear hk)
    (try clear hi)
    (try clear ho0)
    obtain ⟨Ao16, co16, eo16⟩ := Kd.R_slice HO420.out
    (first | subst eo16 | (injection eo16 with f1_ f2_ f3_; have f4_ := f1_.symm; have f5_ := f3_.symm; clear f1_ f2_ f3_; subst f4_; subst f5_))
    refine hK.out _ _ ⟨(blk_cell BK416.out 0).trans rfl, (blk_cell BK416.out 1).trans rfl, (blk_cell BK416.out 2).trans rfl, (blk_cell BK415.out 0).trans rfl⟩ (fun hHeld => ?_)
    clear hK K
    refine nm_ ?_
    refine one_ (i := 13) (N := some 19) #[true, true, true, true, true, true, true, true, true, true, true, true, true, true, false, false] rfl rfl (one_of HT_.out (by kernel_rfl)) (by decide) (fun K hK => ?_)
    refine goes_ Try.func129 (by kernel_rfl) rfl #[.slice Ao16 t418.length co16, .slice A0_0 l0_0.length c0_0] (by rfl) rfl rfl am_ ?_
    with_reducible refine (slices_Equal_int_int.calls k _ _ t418 _ _ l0_0 t421 _ ?side1 ?side2 ?side3 ?side4 A12.out).mono ?_
    (case side1 => repeat (first | exact (Kd.R_reads' HO420.out).2.2 | (with_reducible refine Kd.C_alloc ?_ _) | (with_reducible refine Kd.C_drewN ?_ _) | (with_reducible refine Kd.C_drew ?_)))
    (case side2 => exact (Kd.R_reads' HO420.out).2.1)
    (case side3 => exact Kd.C_below HR0_0.out (up_ HB.out))
    (case side4 => exact HC0_0.out)
    rintro e w' ⟨rfl, ⟨nd, rfl⟩⟩
    refine ⟨_, rfl, ?_⟩
    refine hK.out _ _ ⟨(blk_cell BK416.out 0).trans rfl, (blk_cell BK416.out 1).trans rfl, (blk_cell BK416.out 2).trans rfl, (blk_cell BK415.out 0).trans rfl⟩ (fun hHeld => ?_)
    clear hK K
    refine nm_ ?_
    refine pu_ 14 (some 20) ?_
    refine pu_ 15 (some 21) ?_
    refine done_ (done_of HT_.out (by kernel_rfl)) ?_
    try go_wp2
    go_meet
    case rel => exact ⟨_, (!t421), rs_, H', ⟨by first | omega | exact Nat.le_refl _⟩, ⟨up_ BK415.out⟩, ⟨up_ BK416.out⟩, ⟨up_ HB.out⟩⟩
  ·have H' := Aside0.mk H
   clear H
   try go_wp2
   have n0_ := Aside0.mk (blk_drew BK415.out)
   have n1_ := Aside0.mk (blk_drew BK416.out)
   have n2_ := Aside0.mk (below_drew1 HB.out)
   clear BK415
   clear BK416
   clear HB
   have BK415 := n0_
   have BK416 := n1_
   have HB := n2_
   clear n0_ n1_ n2_
   refine start_ (n := 16) (S := fun w' => w'.cell? ⟨gb416, 0, none⟩ = some (.int .i64 a1_0) ∧ w'.cell? ⟨gb416, 1, none⟩ = some (.slice A1_1 l1_1.length c1_1) ∧ w'.cell? ⟨gb416, 2, none⟩ = some (.int .i64 a1_2)) (ds := []) #[false, false, false, false, false, false, false, false, false, false, false, false, false, false, false, false] (by kernel_rfl) rfl rfl ⟨(blk_cell BK416.out 0).trans rfl, (blk_cell BK416.out 1).trans rfl, (blk_cell BK416.out 2).trans rfl⟩ (fun hHeld => ?_); refine with_tabW impl_FootRows.tab1 impl_FootRows.bits1 (fun HT_ HW_ => ?_)
   generalize w5.drew = w17 at BK415 BK416 HB hHeld ⊢
   refine tk_ 0 (some 6) hHeld ?_
   refine one_ (i := 1) (N := some 7) #[true, true, false, false, false, false, false, false, false, false, false, false, false, false, false, false] rfl rfl (one_of HT_.out (by kernel_rfl)) (by decide) (fun K hK => ?_)
   refine goes_ Try.func128 (by kernel_rfl) rfl #[.agg #[.int .i64 a1_0, .slice A1_1 l1_1.length c1_1, .int .i64 a1_2]] (by rfl) rfl rfl am_ ?_
   with_reducible refine (impl_IsFooting.calls k a1_0 _ _ l1_1 a1_2 false _ ?side1 ?side2 A6.out).mono ?_
   (case side1 => exact Kd.C_below HR1_1.out (up_ HB.out))
   (case side2 => exact HC1_1.out)
   rintro e w18 ⟨rfl, hb⟩
   refine ⟨_, rfl, ?_⟩
   have n0_ := bb_ BK415 hb
   have n1_ := bb_ BK416 hb
   have n2_ := bs_ HB hb
   clear BK415
   clear BK416
   clear HB
   have BK415 := n0_
   have BK416 := n1_
   have HB := n2_
   clear n0_ n1_ n2_
   (try clear hb)
   (try clear hb2)
   (try clear hk)
   (try clear hi)
   refine hK.out _ _ ⟨(blk_cell BK416.out 0).trans rfl, (blk_cell BK416.out 1).trans rfl, (blk_cell BK416.out 2).trans rfl⟩ (fun hHeld => ?_)
   clear hK K
   refine nm_ ?_
   refine pu_ 2 (some 8) ?_
   refine pu_ 3 (some 9) ?_
   refine po_ 4 (some 10) ?_
   refine po_ 5 (some 11) ?_
   refine po_ 6 (some 12) ?_
   refine pu_ 7 (some 13) ?_
   refine pu_ 8 (some 14) ?_
   refine po_ 9 (some 15) ?_
   refine po_ 10 (some 16) ?_
   refine po_ 11 (some 17) ?_
   refine po_ 12 (some 18) ?_
   refine po_ 13 (some 19) ?_
   refine po_ 14 (some 20) ?_
   refine pu_ 15 (some 21) ?_
   refine done_ (done_of HT_.out (by kernel_rfl)) ?_
   try go_wp2
   go_meet
   case rel => exact ⟨_, (true), rs_, H', ⟨by first | omega | exact Nat.le_refl _⟩, ⟨up_ BK415.out⟩, ⟨up_ BK416.out⟩, ⟨up_ HB.out⟩⟩
 case rest =>
  clear HC3
  try clear c1
  try clear p2
  try clear c5
  try clear c7
  try clear c8
  try clear c8b0
  try clear c12
  try clear c13
  obtain ⟨kq, x21_2, rfl, HA, HJ2, BK415, BK416, HB⟩ := hcut
  cases kq with
  | zero => exact absurd HA.out (by simp [impl_FootRows.j0])
  | succ kj2 =>
   have H := HA.out
   clear HA
   simp only [impl_FootRows.j0] at H
   replace H := itb_ H; rcases H with ⟨rfl, H⟩ | ⟨rfl, H⟩
   ·simp only [Option.some.injEq, Prod.mk.injEq] at H
    obtain ⟨rfl, rfl⟩ := H
    go_wp2
    go_ret2
    exact ⟨_, re_, by first | exact Kd.S_nil _ _ _ _ _ | exact Kd.N_nil _ _ _ _ _ | exact Kd.V_nil _ _ _ _ _ | exact Kd.Q_nil _ _ _ _ _ | exact Kd.R_nil _ _ _ _ _, up_ HB.out⟩
   ·replace H := Option.bind_eq_some_iff.mp H
    obtain ⟨t422, A200, H⟩ := H
    replace H : ((impl_footProfiles.f kj2 a1_0).bind fun t425 => ((impl_rowsAgainst.f kj2 t422 t425).bind fun t428 => (some (t428, true)))) = some (r1, r2) := H
    have A20 := Aside0.mk A200
    clear A200
    replace H := Option.bind_eq_some_iff.mp H
    obtain ⟨t425, A210, H⟩ := H
    replace H : ((impl_rowsAgainst.f kj2 t422 t425).bind fun t428 => (some (t428, true))) = some (r1, r2) := H
    have A21 := Aside0.mk A210
    clear A210
    replace H := Option.bind_eq_some_iff.mp H
    obtain ⟨t428, A220, H⟩ := H
    replace H : (some (t428, true)) = some (r1, r2) := H
    have A22 := Aside0.mk A220
    clear A220
    simp only [Option.some.injEq, Prod.mk.injEq] at H
    obtain ⟨rfl, rfl⟩ := H
    try go_wp2
    have n0_ := Aside0.mk (blk_drew BK415.out)
    have n1_ := Aside0.mk (blk_drew BK416.out)
    have n2_ := Aside0.mk (below_drew1 HB.out)
    clear BK415
    clear BK416
    clear HB
    have BK415 := n0_
    have BK416 := n1_
    have HB := n2_
    clear n0_ n1_ n2_
    refine start_ (n := 8) (S := fun w' => w'.cell? ⟨gb416, 0, none⟩ = some (.int .i64 a1_0) ∧ w'.cell? ⟨gb416, 1, none⟩ = some (.slice A1_1 l1_1.length c1_1) ∧ w'.cell? ⟨gb416, 2, none⟩ = some (.int .i64 a1_2)) (ds := []) #[false, false, false, false, false, false, false, false] (by kernel_rfl) rfl rfl ⟨(blk_cell BK416.out 0).trans rfl, (blk_cell BK416.out 1).trans rfl, (blk_cell BK416.out 2).trans rfl⟩ (fun hHeld => ?_); refine with_tabW impl_FootRows.tab3 impl_FootRows.bits3 (fun HT_ HW_ => ?_)
    generalize wc.drew = w23 at BK415 BK416 HB hHeld ⊢
    refine pu_ 2 (some 24) ?_
    refine tk_ 0 (some 22) hHeld ?_
    refine tk_ 3 (some 25) hHeld ?_
    refine one_ (i := 1) (N := some 23) #[true, true, true, true, false, false, false, false] rfl rfl (one_of HT_.out (by kernel_rfl)) (by decide) (fun K hK => ?_)
    refine goes_ Try.func132 (by kernel_rfl) rfl #[.agg #[.int .i64 a1_0, .slice A1_1 l1_1.length c1_1, .int .i64 a1_2]] (by rfl) rfl rfl am_ ?_
    with_reducible refine (impl_footProfile.calls kj2 a1_0 _ _ l1_1 a1_2 t422 _ ?side1 ?side2 A20.out).mono ?_
    (case side1 => exact Kd.C_below HR1_1.out (up_ HB.out))
    (case side2 => exact HC1_1.out)
    rintro e w24 ⟨v423, rfl, ho0, hb⟩
    refine ⟨_, rfl, ?_⟩
    have n0_ := Aside0.mk (Kd.R_lower ho0 (below_size (up_ HB.out)))
    have n1_ := bb_ BK415 hb
    have n2_ := bb_ BK416 hb
    have n3_ := bs_ HB hb
    clear BK415
    clear BK416
    clear HB
    have HO424 := n0_
    have BK415 := n1_
    have BK416 := n2_
    have HB := n3_
    clear n0_ n1_ n2_ n3_
    (try clear hb)
    (try clear hb2)
    (try clear hk)
    (try clear hi)
    (try clear ho0)
    refine hK.out _ _ ⟨(blk_cell BK416.out 0).trans rfl, (blk_cell BK416.out 1).trans rfl, (blk_cell BK416.out 2).trans rfl⟩ (fun hHeld => ?_)
    clear hK K
    refine nm_ ?_
    refine one_ (i := 4) (N := some 26) #[true, true, true, true, true, false, false, false] rfl rfl (one_of HT_.out (by kernel_rfl)) (by decide) (fun K hK => ?_)
    refine goes_ Try.func133 (by kernel_rfl) rfl #[.int .i64 a1_0] (by rfl) rfl rfl am_ ?_
    with_reducible refine (impl_footProfiles.calls kj2 a1_0 t425 _ A21.out).mono ?_
    rintro e w25 ⟨v426, rfl, ho0, hb⟩
    refine ⟨_, rfl, ?_⟩
    have n0_ := Aside0.mk (Kd.R_below (up_ HO424.out) hb)
    have n1_ := Aside0.mk (Kd.S_lower (Kd.S_new' ho0 (Kd.R_lt (up_ HO424.out))) (below_size (up_ HB.out)))
    have n2_ := bb_ BK415 hb
    have n3_ := bb_ BK416 hb
    have n4_ := bs_ HB hb
    clear HO424
    clear BK415
    clear BK416
    clear HB
    have HO424 := n0_
    have HO427 := n1_
    have BK415 := n2_
    have BK416 := n3_
    have HB := n4_
    clear n0_ n1_ n2_ n3_ n4_
    (try clear hb)
    (try clear hb2)
    (try clear hk)
    (try clear hi)
    (try clear ho0)
    obtain ⟨Ao26, co26, eo26⟩ := Kd.R_slice HO424.out
    (first | subst eo26 | (injection eo26 with f1_ f2_ f3_; have f4_ := f1_.symm; have f5_ := f3_.symm; clear f1_ f2_ f3_; subst f4_; subst f5_))
    obtain ⟨Ao27, co27, eo27⟩ := Kd.S_slice HO427.out
    (first | subst eo27 | (injection eo27 with f1_ f2_ f3_; have f4_ := f1_.symm; have f5_ := f3_.symm; clear f1_ f2_ f3_; subst f4_; subst f5_))
    refine hK.out _ _ ⟨(blk_cell BK416.out 0).trans rfl, (blk_cell BK416.out 1).trans rfl, (blk_cell BK416.out 2).trans rfl⟩ (fun hHeld => ?_)
    clear hK K
    refine nm_ ?_
    refine one_ (i := 5) (N := some 27) #[true, true, true, true, true, true, false, false] rfl rfl (one_of HT_.out (by kernel_rfl)) (by decide) (fun K hK => ?_)
    refine goes_ Try.func131 (by kernel_rfl) rfl #[.slice Ao26 t422.length co26, .slice Ao27 t425.length co27] (by rfl) rfl rfl am_ ?_
    with_reducible refine (impl_rowsAgainst.calls kj2 _ _ t422 _ _ t425 t428 _ ?side1 ?side2 ?side3 ?side4 A22.out).mono ?_
    (case side1 => repeat (first | exact (Kd.R_reads' HO424.out).2.2 | (with_reducible refine Kd.C_alloc ?_ _) | (with_reducible refine Kd.C_drewN ?_ _) | (with_reducible refine Kd.C_drew ?_)))
    (case side2 => exact (Kd.R_reads' HO424.out).2.1)
    (case side3 => repeat (first | exact (Kd.S_reads' HO427.out).2.2 | (with_reducible refine Kd.C_alloc ?_ _) | (with_reducible refine Kd.C_drewN ?_ _) | (with_reducible refine Kd.C_drew ?_)))
    (case side4 => exact (Kd.S_reads' HO427.out).2.1)
    rintro e w28 ⟨v429, rfl, ho0, hb⟩
    refine ⟨_, rfl, ?_⟩
    have n0_ := Aside0.mk (Kd.R_below (up_ HO424.out) hb)
    have n1_ := Aside0.mk (Kd.S_below (up_ HO427.out) hb)
    have n2_ := Aside0.mk (Kd.S_lower (Kd.S_new' ho0 (Kd.R_lt (up_ HO424.out))) (below_size (up_ HB.out)))
    have n3_ := bb_ BK415 hb
    have n4_ := bb_ BK416 hb
    have n5_ := bs_ HB hb
    clear HO424
    clear HO427
    clear BK415
    clear BK416
    clear HB
    have HO424 := n0_
    have HO427 := n1_
    have HO430 := n2_
    have BK415 := n3_
    have BK416 := n4_
    have HB := n5_
    clear n0_ n1_ n2_ n3_ n4_ n5_
    (try clear hb)
    (try clear hb2)
    (try clear hk)
    (try clear hi)
    (try clear ho0)
    refine hK.out _ _ ⟨(blk_cell BK416.out 0).trans rfl, (blk_cell BK416.out 1).trans rfl, (blk_cell BK416.out 2).trans rfl⟩ (fun hHeld => ?_)
    clear hK K
    refine nm_ ?_
    refine pu_ 6 (some 4) ?_
    refine pu_ 7 (some 5) ?_
    refine done_ (done_of HT_.out (by kernel_rfl)) ?_
    try go_wp2
    go_ret2
    exact ⟨_, re_, by (with_reducible repeat (first | apply Kd.S_alloc | apply Kd.S_drewN | apply Kd.S_drew)); exact Kd.S_mono HO430.out (fun _ hk => trivial), up_ HB.out⟩

/-! ### laws_eqWord: function 60 -/
def laws_eqWord.f (k : Nat) (l0_0 : List Int) (l1_0 : List Int) : Option (Bool) := (laws_eqIntS.f k l0_0 l1_0).bind fun t433 => (if t433 = true then (some true) else (some false))
set_option maxHeartbeats 8000000 in
set_option maxRecDepth 100000 in
theorem laws_eqWord.calls (k : Nat) (A0_0 : Option Addr) (c0_0 : Nat) (l0_0 : List Int) (A1_0 : Option Addr) (c1_0 : Nat) (l1_0 : List Int) (r : Bool) (w : World) (hr0_0 : Kd.C (Kd.int .i64) w A0_0 l0_0.length l0_0) (hc0_0 : l0_0.length ≤ c0_0) (hr1_0 : Kd.C (Kd.int .i64) w A1_0 l1_0.length l1_0) (hc1_0 : l1_0.length ≤ c1_0) (h : laws_eqWord.f k l0_0 l1_0 = some r) :
  Calls Try.prog 60 #[.agg #[.slice A0_0 l0_0.length c0_0], .agg #[.slice A1_0 l1_0.length c1_0]] w fun e w' => e = .returned (.bool r) ∧ Below w.heap.size w w' := by
 have hu86 := Try.underlying86
 have HR0_0 := Aside0.mk hr0_0
 have HC0_0 := Aside0.mk hc0_0
 clear hr0_0 hc0_0
 have HR1_0 := Aside0.mk hr1_0
 have HC1_0 := Aside0.mk hc1_0
 clear hr1_0 hc1_0
 have HB := Aside0.mk (Below.refl w.heap.size w)
 have H : ((laws_eqIntS.f k l0_0 l1_0).bind fun t433 => (if t433 = true then (some true) else (some false))) = some r := h
 clear h
 replace H := bnd_ H; obtain ⟨t433, A3, H⟩ := H
 replace H := itb_ H; rcases H with ⟨rfl, H⟩ | ⟨rfl, H⟩
 ·obtain rfl := Option.some.inj H
  go_enter Try.func60, Try.ntmps60
  go_wp2_with (first | ((with_reducible refine gd_ 2 ?_); refine bx_ 2 #[.slice A0_0 l0_0.length c0_0] 86 ?_; intro gb431 hg w5 hbox hb; have BK431 := Aside0.mk (hbox); have GW431 := gw_ HB hg; have GE431 := gw_ HB hg; replace HB := bs_ HB hb; clear hb hbox hg) | ((with_reducible refine gd_ 3 ?_); refine bx_ 3 #[.slice A1_0 l1_0.length c1_0] 86 ?_; intro gb432 hg w6 hbox hb; have BK432 := Aside0.mk (hbox); have GW432 := gw_ HB hg; have GE432 := gw_ HB hg; replace HB := bs_ HB hb; have NB431_432 := Aside0.mk ((by rw [hg]; exact Nat.ne_of_lt (blk_lt (g := gb431) (o := .cells #[.slice A0_0 l0_0.length c0_0] 86 (0, 0)) (up_ BK431.out)) : gb431 ≠ gb432)); have NB432_431 := Aside0.mk ((by rw [hg]; exact Nat.ne_of_gt (blk_lt (g := gb431) (o := .cells #[.slice A0_0 l0_0.length c0_0] 86 (0, 0)) (up_ BK431.out)) : gb432 ≠ gb431)); replace BK431 := bb_ BK431 hb; clear hb hbox hg; have hnb7 := NB431_432.out; have hnc7 := NB432_431.out; have hcz8_0 := c1_ BK431; have hfz8_0 := blk_frozen BK431.out 0; have hcz9_0 := c1_ BK432; have hfz9_0 := blk_frozen BK432.out 0) | ((with_reducible refine gc_ 33 ?_); refine gq_ (some 9) Try.func33 (laws_eqIntS.calls k _ _ l0_0 _ _ l1_0 true _ (Kd.C_below HR0_0.out (up_ HB.out)) HC0_0.out (Kd.C_below HR1_0.out (up_ HB.out)) HC1_0.out A3.out) (fun nd => ?_)))
  go_ret
  exact ⟨re_, up_ HB.out⟩
 ·obtain rfl := Option.some.inj H
  go_enter Try.func60, Try.ntmps60
  go_wp2_with (first | ((with_reducible refine gd_ 2 ?_); refine bx_ 2 #[.slice A0_0 l0_0.length c0_0] 86 ?_; intro gb431 hg w10 hbox hb; have BK431 := Aside0.mk (hbox); have GW431 := gw_ HB hg; have GE431 := gw_ HB hg; replace HB := bs_ HB hb; clear hb hbox hg) | ((with_reducible refine gd_ 3 ?_); refine bx_ 3 #[.slice A1_0 l1_0.length c1_0] 86 ?_; intro gb432 hg w11 hbox hb; have BK432 := Aside0.mk (hbox); have GW432 := gw_ HB hg; have GE432 := gw_ HB hg; replace HB := bs_ HB hb; have NB431_432 := Aside0.mk ((by rw [hg]; exact Nat.ne_of_lt (blk_lt (g := gb431) (o := .cells #[.slice A0_0 l0_0.length c0_0] 86 (0, 0)) (up_ BK431.out)) : gb431 ≠ gb432)); have NB432_431 := Aside0.mk ((by rw [hg]; exact Nat.ne_of_gt (blk_lt (g := gb431) (o := .cells #[.slice A0_0 l0_0.length c0_0] 86 (0, 0)) (up_ BK431.out)) : gb432 ≠ gb431)); replace BK431 := bb_ BK431 hb; clear hb hbox hg; have hnb12 := NB431_432.out; have hnc12 := NB432_431.out; have hcz13_0 := c1_ BK431; have hfz13_0 := blk_frozen BK431.out 0; have hcz14_0 := c1_ BK432; have hfz14_0 := blk_frozen BK432.out 0) | ((with_reducible refine gc_ 33 ?_); refine gq_ (some 9) Try.func33 (laws_eqIntS.calls k _ _ l0_0 _ _ l1_0 false _ (Kd.C_below HR0_0.out (up_ HB.out)) HC0_0.out (Kd.C_below HR1_0.out (up_ HB.out)) HC1_0.out A3.out) (fun nd => ?_)))
  go_ret
  exact ⟨re_, up_ HB.out⟩

end Go.Proofs.Ytkddpilambnicaa.PFnExactFootRows
