/- Walks of Go functions that the law FnExactHearAll uses: written by this session's program out of the kit's printer; each shows that a call comes to the answers of the Lean function beside it. Conditions: each contract's own. -/
import Derived.Test.YtkddpilambnicaaPFnExactHearAllx0
import Derived.Test.YtkddpilambnicaaPFnExactHearAllx9
import Derived.Test.YtkddpilambnicaaPFnExactHearAllx10
import Derived.Test.YtkddpilambnicaaPFnExactHearAllx11
namespace Go.Proofs.Ytkddpilambnicaa.PFnExactHearAll
open Go.RowKit Go.Proofs.YtkddpilambnicaaW.PrintWords Go.Proofs.YtkddpilambnicaaW.PrintLast Go.Proofs.YtkddpilambnicaaW.PrintMore Go.Proofs.Ytkddpilambnicaa.Mac Go.Proofs.Ytkddpilambnicaa.Law
attribute [local go_sem] max2_int min2_int max_two min_two max_three min_three max_four min_four   -- for this text's walks alone
set_option linter.unusedVariables false
set_option linter.unusedSimpArgs false

/-! ### impl_HearRow: function 17 -/
mutual
def impl_HearRow.j0 : Nat → Bool → Int → List (List Int) → Int → List Int → Option (Int × (List (List Int)) × Int × Bool)
 | 0, _, _, _, _, _ => none
 | k + 1, x40, x358000, x358001, x358002, x359000 => if x40 = true then ((impl_Learner_copied.f k x358000 x358001 x358002).bind fun bt364 => (some (bt364.1, bt364.2.1, bt364.2.2, false))) else ((v_slices_IndexFunc__HearRow_1.f k x358001 [(⟨x359000⟩ : S34)]).bind fun t369 => ((impl_copyRows.f k x358001).bind fun t376 => (if t376.length < 5864062014805 then ((some (t376 ++ [[]] : List (List Int))).bind fun y379 => (impl_HearRow.l0 k t369 (([] : List (List Int))) (([] : List Int)) y379 (y379.length : Int) 0 x358000 x358001 x358002 x359000)) else (none))))
def impl_HearRow.l0 : Nat → Int → List (List Int) → List Int → List (List Int) → Int → Int → Int → List (List Int) → Int → List Int → Option (Int × (List (List Int)) × Int × Bool)
 | 0, _, _, _, _, _, _, _, _, _, _ => none
 | k + 1, x6, x7, x8, x53, x54, x55, x358000, x358001, x358002, x359000 => if x55 < x54 then (if 0 ≤ x55 then (if x55 < (x53.length : Int) then (impl_HearRow.l1 k x6 x7 x8 x55 (([] : List Int)) x53 x54 x55 (rd_L1 x53 x55) ((rd_L1 x53 x55).length : Int) 0 x358000 x358001 x358002 x359000) else (none)) else (none)) else (some (x358000, x7, wrap64 (x358002 + 1), true))
def impl_HearRow.l1 : Nat → Int → List (List Int) → List Int → Int → List Int → List (List Int) → Int → Int → List Int → Int → Int → Int → List (List Int) → Int → List Int → Option (Int × (List (List Int)) × Int × Bool)
 | 0, _, _, _, _, _, _, _, _, _, _, _, _, _, _, _ => none
 | k + 1, x6, x7, x8, x9, x11, x53, x54, x55, x61, x62, x63, x358000, x358001, x358002, x359000 => if x63 < x62 then (if 0 ≤ x63 then (if x63 < (x61.length : Int) then (if x9 ≤ x6 then (if 0 ≤ (rd x61 x63) then (if (rd x61 x63) < (x359000.length : Int) then (if (rd x359000 (rd x61 x63)) = (-1) then (if x8.length < 17592186044416 then (impl_HearRow.l1 k x6 x7 (x8 ++ [rd x61 x63]) x9 x11 x53 x54 x55 x61 x62 (wrap64 (x63 + 1)) x358000 x358001 x358002 x359000) else (none)) else (if x11.length < 17592186044416 then (impl_HearRow.l1 k x6 x7 x8 x9 (x11 ++ [rd x61 x63]) x53 x54 x55 x61 x62 (wrap64 (x63 + 1)) x358000 x358001 x358002 x359000) else (none))) else (none)) else (none)) else (if x11.length < 17592186044416 then (impl_HearRow.l1 k x6 x7 x8 x9 (x11 ++ [rd x61 x63]) x53 x54 x55 x61 x62 (wrap64 (x63 + 1)) x358000 x358001 x358002 x359000) else (none))) else (none)) else (none)) else (if x9 = (wrap64 (x6 + 1)) then (if x11.length + x8.length < 17592186044416 then ((some (x11 ++ x8 : List Int)).bind fun y397 => ((slices_Sort_int_int.f y397).bind fun t400 => (if (y397.length : Int) > 0 then (if x7.length < 5864062014805 then (impl_HearRow.l0 k x6 (x7 ++ [t400]) x8 x53 x54 (wrap64 (x55 + 1)) x358000 x358001 x358002 x359000) else (none)) else (impl_HearRow.l0 k x6 x7 x8 x53 x54 (wrap64 (x55 + 1)) x358000 x358001 x358002 x359000)))) else (none)) else ((slices_Sort_int_int.f x11).bind fun t404 => (if (x11.length : Int) > 0 then (if x7.length < 5864062014805 then (impl_HearRow.l0 k x6 (x7 ++ [t404]) x8 x53 x54 (wrap64 (x55 + 1)) x358000 x358001 x358002 x359000) else (none)) else (impl_HearRow.l0 k x6 x7 x8 x53 x54 (wrap64 (x55 + 1)) x358000 x358001 x358002 x359000))))
end
def impl_HearRow.f (k : Nat) (a0_0 : Int) (l0_1 : List (List Int)) (a0_2 : Int) (l1_0 : List Int) : Option (Int × (List (List Int)) × Int × Bool) := (impl_IsLearner.f k a0_0 l0_1 a0_2).bind fun t360 => (if t360 = true then ((impl_IsRow.f k l1_0 a0_0).bind fun t361 => (if t361 = true then (if a0_2 = 1000 then (impl_HearRow.j0 k true a0_0 l0_1 a0_2 l1_0) else ((impl_StrataSatisfy.f k l0_1 l1_0).bind fun t362 => (if t362 = true then (impl_HearRow.j0 k true a0_0 l0_1 a0_2 l1_0) else ((slices_Contains_int_int.f k l1_0 1).bind fun t363 => (impl_HearRow.j0 k (!t363) a0_0 l0_1 a0_2 l1_0))))) else (impl_HearRow.j0 k true a0_0 l0_1 a0_2 l1_0))) else (impl_HearRow.j0 k true a0_0 l0_1 a0_2 l1_0))
set_option maxHeartbeats 8000000 in
set_option maxRecDepth 100000 in
theorem impl_HearRow.calls (k : Nat) (a0_0 : Int) (A0_1 : Option Addr) (c0_1 : Nat) (l0_1 : List (List Int)) (a0_2 : Int) (A1_0 : Option Addr) (c1_0 : Nat) (l1_0 : List Int) (r1 : Int) (r2 : List (List Int)) (r3 : Int) (r4 : Bool) (w : World) (hr0_1 : Kd.C (Kd.slice 3 (Kd.int .i64)) w A0_1 l0_1.length l0_1) (hc0_1 : l0_1.length ≤ c0_1) (hr1_0 : Kd.C (Kd.int .i64) w A1_0 l1_0.length l1_0) (hc1_0 : l1_0.length ≤ c1_0) (h : impl_HearRow.f k a0_0 l0_1 a0_2 l1_0 = some (r1, r2, r3, r4)) :
  Calls Try.prog 17 #[.agg #[.int .i64 a0_0, .slice A0_1 l0_1.length c0_1, .int .i64 a0_2], .agg #[.slice A1_0 l1_0.length c1_0]] w fun e w' => ∃ v1_ : Value, e = .returned (.tuple #[.agg #[.int .i64 r1, v1_, .int .i64 r3], .bool r4]) ∧ Kd.S (Kd.slice 3 (Kd.int .i64)) 25 w' w.heap.size (fun _ => True) v1_ r2 ∧ Below w.heap.size w w' := by
 have hu30 := Try.underlying30
 have hu34 := Try.underlying34
 have HR0_1 := Aside0.mk hr0_1
 have HC0_1 := Aside0.mk hc0_1
 clear hr0_1 hc0_1
 have HR1_0 := Aside0.mk hr1_0
 have HC1_0 := Aside0.mk hc1_0
 clear hr1_0 hc1_0
 have HB := Aside0.mk (Below.refl w.heap.size w)
 have H : ((impl_IsLearner.f k a0_0 l0_1 a0_2).bind fun t360 => (if t360 = true then ((impl_IsRow.f k l1_0 a0_0).bind fun t361 => (if t361 = true then (if a0_2 = 1000 then (impl_HearRow.j0 k true a0_0 l0_1 a0_2 l1_0) else ((impl_StrataSatisfy.f k l0_1 l1_0).bind fun t362 => (if t362 = true then (impl_HearRow.j0 k true a0_0 l0_1 a0_2 l1_0) else ((slices_Contains_int_int.f k l1_0 1).bind fun t363 => (impl_HearRow.j0 k (!t363) a0_0 l0_1 a0_2 l1_0))))) else (impl_HearRow.j0 k true a0_0 l0_1 a0_2 l1_0))) else (impl_HearRow.j0 k true a0_0 l0_1 a0_2 l1_0))) = some (r1, r2, r3, r4) := h
 clear h
 have HC3 := Aside0.mk H
 clear H
 go_enter Try.func17, Try.ntmps17
 go_upto_region 1 with (first | ((refine gd_ 2 ?_); refine bx_ 2 #[.int .i64 a0_0, .slice A0_1 l0_1.length c0_1, .int .i64 a0_2] 30 ?_; intro gb357 hg w4 hbox hb; have BK357 := Aside0.mk (hbox); have GW357 := gw_ HB hg; have GE357 := gw_ HB hg; replace HB := bs_ HB hb; clear hb hbox hg) | ((refine gd_ 3 ?_); refine bx_ 3 #[.slice A1_0 l1_0.length c1_0] 34 ?_; intro gb358 hg w5 hbox hb; have BK358 := Aside0.mk (hbox); have GW358 := gw_ HB hg; have GE358 := gw_ HB hg; replace HB := bs_ HB hb; have NB357_358 := Aside0.mk ((by rw [hg]; exact Nat.ne_of_lt (blk_lt (g := gb357) (o := .cells #[.int .i64 a0_0, .slice A0_1 l0_1.length c0_1, .int .i64 a0_2] 30 (0, 0)) (up_ BK357.out)) : gb357 ≠ gb358)); have NB358_357 := Aside0.mk ((by rw [hg]; exact Nat.ne_of_gt (blk_lt (g := gb357) (o := .cells #[.int .i64 a0_0, .slice A0_1 l0_1.length c0_1, .int .i64 a0_2] 30 (0, 0)) (up_ BK357.out)) : gb358 ≠ gb357)); replace BK357 := bb_ BK357 hb; clear hb hbox hg) | ((refine gd_ 4 ?_); refine bx_ 4 #[.int .i64 0, .slice none 0 0, .int .i64 0] 30 ?_; intro gb359 hg w6 hbox hb; have BK359 := Aside0.mk (hbox); have GW359 := gw_ HB hg; have GE359 := gw_ HB hg; replace HB := bs_ HB hb; have NB357_359 := Aside0.mk ((by rw [hg]; exact Nat.ne_of_lt (blk_lt (g := gb357) (o := .cells #[.int .i64 a0_0, .slice A0_1 l0_1.length c0_1, .int .i64 a0_2] 30 (0, 0)) (up_ BK357.out)) : gb357 ≠ gb359)); have NB359_357 := Aside0.mk ((by rw [hg]; exact Nat.ne_of_gt (blk_lt (g := gb357) (o := .cells #[.int .i64 a0_0, .slice A0_1 l0_1.length c0_1, .int .i64 a0_2] 30 (0, 0)) (up_ BK357.out)) : gb359 ≠ gb357)); replace BK357 := bb_ BK357 hb; have NB358_359 := Aside0.mk ((by rw [hg]; exact Nat.ne_of_lt (blk_lt (g := gb358) (o := .cells #[.slice A1_0 l1_0.length c1_0] 34 (0, 0)) (up_ BK358.out)) : gb358 ≠ gb359)); have NB359_358 := Aside0.mk ((by rw [hg]; exact Nat.ne_of_gt (blk_lt (g := gb358) (o := .cells #[.slice A1_0 l1_0.length c1_0] 34 (0, 0)) (up_ BK358.out)) : gb359 ≠ gb358)); replace BK358 := bb_ BK358 hb; clear hb hbox hg))
 (try simp only [Act.put, List.setIfInBounds_toArray, List.set_cons_zero, List.set_cons_succ])
 go_cut [40] (fun v40 wc => ∃ (kq : Nat) (x40_2 : Bool), v40 = .bool x40_2 ∧ Aside0 (impl_HearRow.j0 kq x40_2 a0_0 l0_1 a0_2 l1_0 = some (r1, r2, r3, r4)) ∧ Aside0 (kq ≤ k) ∧ Aside0 (wc.heap[gb357]? = some (.cells #[.int .i64 a0_0, (.slice A0_1 l0_1.length c0_1), .int .i64 a0_2] 30 (0, 0))) ∧ Aside0 (wc.heap[gb358]? = some (.cells #[(.slice A1_0 l1_0.length c1_0)] 34 (0, 0))) ∧ Aside0 (wc.heap[gb359]? = some (.cells #[.int .i64 0, (.slice none 0 0), .int .i64 0] 30 (0, 0))) ∧ Aside0 (Below w.heap.size w wc))
 case first =>
  have H := HC3.out
  clear HC3
  replace H := Option.bind_eq_some_iff.mp H
  obtain ⟨t360, A70, H⟩ := H
  replace H : (if t360 = true then ((impl_IsRow.f k l1_0 a0_0).bind fun t361 => (if t361 = true then (if a0_2 = 1000 then (impl_HearRow.j0 k true a0_0 l0_1 a0_2 l1_0) else ((impl_StrataSatisfy.f k l0_1 l1_0).bind fun t362 => (if t362 = true then (impl_HearRow.j0 k true a0_0 l0_1 a0_2 l1_0) else ((slices_Contains_int_int.f k l1_0 1).bind fun t363 => (impl_HearRow.j0 k (!t363) a0_0 l0_1 a0_2 l1_0))))) else (impl_HearRow.j0 k true a0_0 l0_1 a0_2 l1_0))) else (impl_HearRow.j0 k true a0_0 l0_1 a0_2 l1_0)) = some (r1, r2, r3, r4) := H
  have A7 := Aside0.mk A70
  clear A70
  replace H := itb_ H; rcases H with ⟨rfl, H⟩ | ⟨rfl, H⟩
  ·replace H := Option.bind_eq_some_iff.mp H
   obtain ⟨t361, A90, H⟩ := H
   replace H : (if t361 = true then (if a0_2 = 1000 then (impl_HearRow.j0 k true a0_0 l0_1 a0_2 l1_0) else ((impl_StrataSatisfy.f k l0_1 l1_0).bind fun t362 => (if t362 = true then (impl_HearRow.j0 k true a0_0 l0_1 a0_2 l1_0) else ((slices_Contains_int_int.f k l1_0 1).bind fun t363 => (impl_HearRow.j0 k (!t363) a0_0 l0_1 a0_2 l1_0))))) else (impl_HearRow.j0 k true a0_0 l0_1 a0_2 l1_0)) = some (r1, r2, r3, r4) := H
   have A9 := Aside0.mk A90
   clear A90
   replace H := itb_ H; rcases H with ⟨rfl, H⟩ | ⟨rfl, H⟩
   ·replace H := ieq_ H; rcases H with ⟨-, c11b0, c11b1, H⟩ | ⟨c11, c11b0, c11b1, H⟩
    ·(first | rw [c11b0] | (simp only [i64_w, i32_w]; rw [c11b0]) | skip)
     have H' := Aside0.mk H
     clear H
     have hnb12 := NB357_358.out
     have hnc12 := NB358_357.out
     have hnb13 := NB357_359.out
     have hnc13 := NB359_357.out
     obtain ⟨hcz14_0, hcz14_1, hcz14_2⟩ := c3_ BK357
     have hfz14_0 := blk_frozen BK357.out 0
     have hfz14_1 := blk_frozen BK357.out 1
     have hfz14_2 := blk_frozen BK357.out 2
     go_wp2_with (first | ((refine gc_ 82 ?_); refine gl_ (some 15) Try.func82 (impl_IsLearner.calls k a0_0 _ _ l0_1 a0_2 true _ (Kd.C_below HR0_1.out (up_ HB.out)) HC0_1.out A7.out) ?_; rintro e w15 ⟨rfl, hb⟩; refine ⟨_, rfl, ?_⟩; replace BK357 := bb_ BK357 hb; replace BK358 := bb_ BK358 hb; replace BK359 := bb_ BK359 hb; replace HB := bs_ HB hb; (try clear hb); (try clear hb2); (try clear hk); (try clear hi); have hnb16 := NB358_359.out; have hnc16 := NB359_358.out; have hcz17_0 := c1_ BK358; have hfz17_0 := blk_frozen BK358.out 0; obtain ⟨hcz18_0, hcz18_1, hcz18_2⟩ := c3_ BK357; have hfz18_0 := blk_frozen BK357.out 0; have hfz18_1 := blk_frozen BK357.out 1; have hfz18_2 := blk_frozen BK357.out 2) | (go_at_call 83; (with_reducible refine (impl_IsRow.calls k _ _ l1_0 a0_0 true _ (Kd.C_below HR1_0.out (up_ HB.out)) HC1_0.out A9.out).mono ?_); rintro e w19 ⟨rfl, hb⟩; replace BK357 := bb_ BK357 hb; replace BK358 := bb_ BK358 hb; replace BK359 := bb_ BK359 hb; replace HB := bs_ HB hb; (try clear hb); (try clear hb2); (try clear hk); (try clear hi); obtain ⟨hcz20_0, hcz20_1, hcz20_2⟩ := c3_ BK357; have hfz20_0 := blk_frozen BK357.out 0; have hfz20_1 := blk_frozen BK357.out 1; have hfz20_2 := blk_frozen BK357.out 2))
     go_meet
     case rel => exact ⟨_, (true), rs_, H', ⟨by first | omega | exact Nat.le_refl _⟩, ⟨up_ BK357.out⟩, ⟨up_ BK358.out⟩, ⟨up_ BK359.out⟩, ⟨up_ HB.out⟩⟩
    ·(first | rw [c11b0] | (simp only [i64_w, i32_w]; rw [c11b0]) | skip)
     replace H := Option.bind_eq_some_iff.mp H
     obtain ⟨t362, A210, H⟩ := H
     replace H : (if t362 = true then (impl_HearRow.j0 k true a0_0 l0_1 a0_2 l1_0) else ((slices_Contains_int_int.f k l1_0 1).bind fun t363 => (impl_HearRow.j0 k (!t363) a0_0 l0_1 a0_2 l1_0))) = some (r1, r2, r3, r4) := H
     have A21 := Aside0.mk A210
     clear A210
     replace H := itb_ H; rcases H with ⟨rfl, H⟩ | ⟨rfl, H⟩
     ·have H' := Aside0.mk H
      clear H
      have hnb23 := NB357_358.out
      have hnc23 := NB358_357.out
      have hnb24 := NB357_359.out
      have hnc24 := NB359_357.out
      obtain ⟨hcz25_0, hcz25_1, hcz25_2⟩ := c3_ BK357
      have hfz25_0 := blk_frozen BK357.out 0
      have hfz25_1 := blk_frozen BK357.out 1
      have hfz25_2 := blk_frozen BK357.out 2
      go_wp2_with (first | ((refine gc_ 82 ?_); refine gl_ (some 15) Try.func82 (impl_IsLearner.calls k a0_0 _ _ l0_1 a0_2 true _ (Kd.C_below HR0_1.out (up_ HB.out)) HC0_1.out A7.out) ?_; rintro e w26 ⟨rfl, hb⟩; refine ⟨_, rfl, ?_⟩; replace BK357 := bb_ BK357 hb; replace BK358 := bb_ BK358 hb; replace BK359 := bb_ BK359 hb; replace HB := bs_ HB hb; (try clear hb); (try clear hb2); (try clear hk); (try clear hi); have hnb27 := NB358_359.out; have hnc27 := NB359_358.out; have hcz28_0 := c1_ BK358; have hfz28_0 := blk_frozen BK358.out 0; obtain ⟨hcz29_0, hcz29_1, hcz29_2⟩ := c3_ BK357; have hfz29_0 := blk_frozen BK357.out 0; have hfz29_1 := blk_frozen BK357.out 1; have hfz29_2 := blk_frozen BK357.out 2) | (go_at_call 83; (with_reducible refine (impl_IsRow.calls k _ _ l1_0 a0_0 true _ (Kd.C_below HR1_0.out (up_ HB.out)) HC1_0.out A9.out).mono ?_); rintro e w30 ⟨rfl, hb⟩; replace BK357 := bb_ BK357 hb; replace BK358 := bb_ BK358 hb; replace BK359 := bb_ BK359 hb; replace HB := bs_ HB hb; (try clear hb); (try clear hb2); (try clear hk); (try clear hi); obtain ⟨hcz31_0, hcz31_1, hcz31_2⟩ := c3_ BK357; have hfz31_0 := blk_frozen BK357.out 0; have hfz31_1 := blk_frozen BK357.out 1; have hfz31_2 := blk_frozen BK357.out 2; have hcz32_0 := c1_ BK358; have hfz32_0 := blk_frozen BK358.out 0) | (go_at_call 84; (with_reducible refine (impl_StrataSatisfy.calls k _ _ l0_1 _ _ l1_0 true _ (Kd.C_below HR0_1.out (up_ HB.out)) HC0_1.out (Kd.C_below HR1_0.out (up_ HB.out)) HC1_0.out A21.out).mono ?_); rintro e w33 ⟨rfl, hb⟩; replace BK357 := bb_ BK357 hb; replace BK358 := bb_ BK358 hb; replace BK359 := bb_ BK359 hb; replace HB := bs_ HB hb; (try clear hb); (try clear hb2); (try clear hk); (try clear hi)))
      go_meet
      case rel => exact ⟨_, (true), rs_, H', ⟨by first | omega | exact Nat.le_refl _⟩, ⟨up_ BK357.out⟩, ⟨up_ BK358.out⟩, ⟨up_ BK359.out⟩, ⟨up_ HB.out⟩⟩
     ·replace H := Option.bind_eq_some_iff.mp H
      obtain ⟨t363, A340, H⟩ := H
      replace H : (impl_HearRow.j0 k (!t363) a0_0 l0_1 a0_2 l1_0) = some (r1, r2, r3, r4) := H
      have A34 := Aside0.mk A340
      clear A340
      have H' := Aside0.mk H
      clear H
      have hnb35 := NB357_358.out
      have hnc35 := NB358_357.out
      have hnb36 := NB357_359.out
      have hnc36 := NB359_357.out
      obtain ⟨hcz37_0, hcz37_1, hcz37_2⟩ := c3_ BK357
      have hfz37_0 := blk_frozen BK357.out 0
      have hfz37_1 := blk_frozen BK357.out 1
      have hfz37_2 := blk_frozen BK357.out 2
      go_wp2_with (first | ((refine gc_ 82 ?_); refine gl_ (some 15) Try.func82 (impl_IsLearner.calls k a0_0 _ _ l0_1 a0_2 true _ (Kd.C_below HR0_1.out (up_ HB.out)) HC0_1.out A7.out) ?_; rintro e w38 ⟨rfl, hb⟩; refine ⟨_, rfl, ?_⟩; replace BK357 := bb_ BK357 hb; replace BK358 := bb_ BK358 hb; replace BK359 := bb_ BK359 hb; replace HB := bs_ HB hb; (try clear hb); (try clear hb2); (try clear hk); (try clear hi); have hnb39 := NB358_359.out; have hnc39 := NB359_358.out; have hcz40_0 := c1_ BK358; have hfz40_0 := blk_frozen BK358.out 0; obtain ⟨hcz41_0, hcz41_1, hcz41_2⟩ := c3_ BK357; have hfz41_0 := blk_frozen BK357.out 0; have hfz41_1 := blk_frozen BK357.out 1; have hfz41_2 := blk_frozen BK357.out 2) | (go_at_call 83; (with_reducible refine (impl_IsRow.calls k _ _ l1_0 a0_0 true _ (Kd.C_below HR1_0.out (up_ HB.out)) HC1_0.out A9.out).mono ?_); rintro e w42 ⟨rfl, hb⟩; replace BK357 := bb_ BK357 hb; replace BK358 := bb_ BK358 hb; replace BK359 := bb_ BK359 hb; replace HB := bs_ HB hb; (try clear hb); (try clear hb2); (try clear hk); (try clear hi); obtain ⟨hcz43_0, hcz43_1, hcz43_2⟩ := c3_ BK357; have hfz43_0 := blk_frozen BK357.out 0; have hfz43_1 := blk_frozen BK357.out 1; have hfz43_2 := blk_frozen BK357.out 2; have hcz44_0 := c1_ BK358; have hfz44_0 := blk_frozen BK358.out 0) | (go_at_call 84; (with_reducible refine (impl_StrataSatisfy.calls k _ _ l0_1 _ _ l1_0 false _ (Kd.C_below HR0_1.out (up_ HB.out)) HC0_1.out (Kd.C_below HR1_0.out (up_ HB.out)) HC1_0.out A21.out).mono ?_); rintro e w45 ⟨rfl, hb⟩; replace BK357 := bb_ BK357 hb; replace BK358 := bb_ BK358 hb; replace BK359 := bb_ BK359 hb; replace HB := bs_ HB hb; (try clear hb); (try clear hb2); (try clear hk); (try clear hi); have hcz46_0 := c1_ BK358; have hfz46_0 := blk_frozen BK358.out 0) | (go_at_call 85; (with_reducible refine (slices_Contains_int_int.calls k _ _ l1_0 1 t363 _ (Kd.C_below HR1_0.out (up_ HB.out)) HC1_0.out A34.out).mono ?_); rintro e w' ⟨rfl, ⟨nd, rfl⟩⟩))
      go_meet
      case rel => exact ⟨_, (!t363), rs_, H', ⟨by first | omega | exact Nat.le_refl _⟩, ⟨up_ BK357.out⟩, ⟨up_ BK358.out⟩, ⟨up_ BK359.out⟩, ⟨up_ HB.out⟩⟩
   ·have H' := Aside0.mk H
    clear H
    have hnb47 := NB357_358.out
    have hnc47 := NB358_357.out
    have hnb48 := NB357_359.out
    have hnc48 := NB359_357.out
    obtain ⟨hcz49_0, hcz49_1, hcz49_2⟩ := c3_ BK357
    have hfz49_0 := blk_frozen BK357.out 0
    have hfz49_1 := blk_frozen BK357.out 1
    have hfz49_2 := blk_frozen BK357.out 2
    go_wp2_with (first | ((refine gc_ 82 ?_); refine gl_ (some 15) Try.func82 (impl_IsLearner.calls k a0_0 _ _ l0_1 a0_2 true _ (Kd.C_below HR0_1.out (up_ HB.out)) HC0_1.out A7.out) ?_; rintro e w50 ⟨rfl, hb⟩; refine ⟨_, rfl, ?_⟩; replace BK357 := bb_ BK357 hb; replace BK358 := bb_ BK358 hb; replace BK359 := bb_ BK359 hb; replace HB := bs_ HB hb; (try clear hb); (try clear hb2); (try clear hk); (try clear hi); have hnb51 := NB358_359.out; have hnc51 := NB359_358.out; have hcz52_0 := c1_ BK358; have hfz52_0 := blk_frozen BK358.out 0; obtain ⟨hcz53_0, hcz53_1, hcz53_2⟩ := c3_ BK357; have hfz53_0 := blk_frozen BK357.out 0; have hfz53_1 := blk_frozen BK357.out 1; have hfz53_2 := blk_frozen BK357.out 2) | (go_at_call 83; (with_reducible refine (impl_IsRow.calls k _ _ l1_0 a0_0 false _ (Kd.C_below HR1_0.out (up_ HB.out)) HC1_0.out A9.out).mono ?_); rintro e w54 ⟨rfl, hb⟩; replace BK357 := bb_ BK357 hb; replace BK358 := bb_ BK358 hb; replace BK359 := bb_ BK359 hb; replace HB := bs_ HB hb; (try clear hb); (try clear hb2); (try clear hk); (try clear hi)))
    go_meet
    case rel => exact ⟨_, (true), rs_, H', ⟨by first | omega | exact Nat.le_refl _⟩, ⟨up_ BK357.out⟩, ⟨up_ BK358.out⟩, ⟨up_ BK359.out⟩, ⟨up_ HB.out⟩⟩
  ·have H' := Aside0.mk H
   clear H
   have hnb55 := NB357_358.out
   have hnc55 := NB358_357.out
   have hnb56 := NB357_359.out
   have hnc56 := NB359_357.out
   obtain ⟨hcz57_0, hcz57_1, hcz57_2⟩ := c3_ BK357
   have hfz57_0 := blk_frozen BK357.out 0
   have hfz57_1 := blk_frozen BK357.out 1
   have hfz57_2 := blk_frozen BK357.out 2
   go_wp2_with (first | ((refine gc_ 82 ?_); refine gl_ (some 15) Try.func82 (impl_IsLearner.calls k a0_0 _ _ l0_1 a0_2 false _ (Kd.C_below HR0_1.out (up_ HB.out)) HC0_1.out A7.out) ?_; rintro e w58 ⟨rfl, hb⟩; refine ⟨_, rfl, ?_⟩; replace BK357 := bb_ BK357 hb; replace BK358 := bb_ BK358 hb; replace BK359 := bb_ BK359 hb; replace HB := bs_ HB hb; (try clear hb); (try clear hb2); (try clear hk); (try clear hi)))
   go_meet
   case rel => exact ⟨_, (true), rs_, H', ⟨by first | omega | exact Nat.le_refl _⟩, ⟨up_ BK357.out⟩, ⟨up_ BK358.out⟩, ⟨up_ BK359.out⟩, ⟨up_ HB.out⟩⟩
 case rest =>
  clear HC3
  try clear c1
  try clear c2
  try clear p2
  try clear c3
  try clear c4
  try clear c5
  try clear c8
  try clear c10
  try clear c11
  try clear c11b0
  try clear c11b1
  try clear c12
  try clear c13
  try clear c16
  try clear c17
  try clear c22
  try clear c23
  try clear c24
  try clear c27
  try clear c35
  try clear c36
  try clear c39
  try clear c47
  try clear c48
  try clear c51
  try clear c55
  try clear c56
  try clear hcz14_0
  try clear hcz14_1
  try clear hcz14_2
  try clear hcz17_0
  try clear hcz18_0
  try clear hcz18_1
  try clear hcz18_2
  try clear hcz20_0
  try clear hcz20_1
  try clear hcz20_2
  try clear hcz25_0
  try clear hcz25_1
  try clear hcz25_2
  try clear hcz28_0
  try clear hcz29_0
  try clear hcz29_1
  try clear hcz29_2
  try clear hcz31_0
  try clear hcz31_1
  try clear hcz31_2
  try clear hcz32_0
  try clear hcz37_0
  try clear hcz37_1
  try clear hcz37_2
  try clear hcz40_0
  try clear hcz41_0
  try clear hcz41_1
  try clear hcz41_2
  try clear hcz43_0
  try clear hcz43_1
  try clear hcz43_2
  try clear hcz44_0
  try clear hcz46_0
  try clear hcz49_0
  try clear hcz49_1
  try clear hcz49_2
  try clear hcz52_0
  try clear hcz53_0
  try clear hcz53_1
  try clear hcz53_2
  try clear hcz57_0
  try clear hcz57_1
  try clear hcz57_2
  try clear hfz14_0
  try clear hfz14_1
  try clear hfz14_2
  try clear hfz17_0
  try clear hfz18_0
  try clear hfz18_1
  try clear hfz18_2
  try clear hfz20_0
  try clear hfz20_1
  try clear hfz20_2
  try clear hfz25_0
  try clear hfz25_1
  try clear hfz25_2
  try clear hfz28_0
  try clear hfz29_0
  try clear hfz29_1
  try clear hfz29_2
  try clear hfz31_0
  try clear hfz31_1
  try clear hfz31_2
  try clear hfz32_0
  try clear hfz37_0
  try clear hfz37_1
  try clear hfz37_2
  try clear hfz40_0
  try clear hfz41_0
  try clear hfz41_1
  try clear hfz41_2
  try clear hfz43_0
  try clear hfz43_1
  try clear hfz43_2
  try clear hfz44_0
  try clear hfz46_0
  try clear hfz49_0
  try clear hfz49_1
  try clear hfz49_2
  try clear hfz52_0
  try clear hfz53_0
  try clear hfz53_1
  try clear hfz53_2
  try clear hfz57_0
  try clear hfz57_1
  try clear hfz57_2
  obtain ⟨kq, x40_2, rfl, HA, HJ2, BK357, BK358, BK359, HB⟩ := hcut
  cases kq with
  | zero => exact absurd HA.out (by simp [impl_HearRow.j0])
  | succ kj2 =>
   have H := HA.out
   clear HA
   simp only [impl_HearRow.j0] at H
   replace H := itb_ H; rcases H with ⟨rfl, H⟩ | ⟨rfl, H⟩
   ·replace H := Option.bind_eq_some_iff.mp H
    obtain ⟨⟨t364, t365, t368⟩, A600, H⟩ := H
    replace H : (some (t364, t365, t368, false)) = some (r1, r2, r3, r4) := H
    have A60 := Aside0.mk A600
    clear A600
    simp only [Option.some.injEq, Prod.mk.injEq] at H
    obtain ⟨rfl, rfl, rfl, rfl⟩ := H
    have hnb61 := NB357_358.out
    have hnc61 := NB358_357.out
    have hnb62 := NB357_359.out
    have hnc62 := NB359_357.out
    obtain ⟨hcz63_0, hcz63_1, hcz63_2⟩ := c3_ BK357
    have hfz63_0 := blk_frozen BK357.out 0
    have hfz63_1 := blk_frozen BK357.out 1
    have hfz63_2 := blk_frozen BK357.out 2
    go_wp2_with (first | ((refine gc_ 86 ?_); refine gl_ (some 42) Try.func86 (impl_Learner_copied.calls kj2 a0_0 _ _ l0_1 a0_2 t364 t365 t368 _ (Kd.C_below HR0_1.out (up_ HB.out)) HC0_1.out A60.out) ?_; rintro e w64 ⟨v366, rfl, ho0, hb⟩; refine ⟨_, rfl, ?_⟩; have HO367 := Aside0.mk (Kd.S_lower ho0 (below_size (up_ HB.out))); replace BK357 := bb_ BK357 hb; replace BK358 := bb_ BK358 hb; replace BK359 := bb_ BK359 hb; replace HB := bs_ HB hb; (try clear hb); (try clear hb2); (try clear hk); (try clear hi); (try clear ho0); have hnb65 := NB359_358.out; have hnc65 := NB358_359.out; obtain ⟨hcz66_0, hcz66_1, hcz66_2⟩ := c3_ BK359; have hfz66_0 := blk_frozen BK359.out 0; have hfz66_1 := blk_frozen BK359.out 1; have hfz66_2 := blk_frozen BK359.out 2; obtain ⟨Ao67, co67, eo67⟩ := Kd.S_slice HO367.out; subst eo67))
    refine bodyPost_ret (results_ct rfl _ _ gb359 30 #[.int .i64 t364, .slice Ao67 t365.length co67, .int .i64 t368] (0, 0) _ rfl (by (with_reducible repeat (first | refine blk_drewN ?_ _ | refine blk_drew ?_ | refine blk_alloc ?_ _)); refine blk_put (cs := #[.int .i64 t364, .slice Ao67 t365.length co67, .int .i64 0]) ?_ 2 _ rfl; (with_reducible repeat (first | refine blk_drewN ?_ _ | refine blk_drew ?_ | refine blk_alloc ?_ _)); refine blk_put (cs := #[.int .i64 t364, .slice none 0 0, .int .i64 0]) ?_ 1 _ rfl; (with_reducible repeat (first | refine blk_drewN ?_ _ | refine blk_drew ?_ | refine blk_alloc ?_ _)); refine blk_put (cs := #[.int .i64 0, .slice none 0 0, .int .i64 0]) ?_ 0 _ rfl; (with_reducible repeat (first | refine blk_drewN ?_ _ | refine blk_drew ?_ | refine blk_alloc ?_ _)); exact BK359.out) Try.underlying30 rfl (by kernel_rfl)) rfl ?_
    exact ⟨_, re_, by (with_reducible repeat (first | apply Kd.S_alloc | apply Kd.S_drewN | apply Kd.S_drew)); exact Kd.S_mono (Kd.S_far (p := ⟨gb359, 2, none⟩) (Kd.S_far (p := ⟨gb359, 1, none⟩) (Kd.S_far (p := ⟨gb359, 0, none⟩) (Kd.S_types HO367.out BK359.out (by decide)) (fun _ hk => hk.2) (.int .i64 t364)) (fun _ hk => hk.2) (.slice Ao67 t365.length co67)) (fun _ hk => hk.2) (.int .i64 t368)) (fun _ hk => trivial), up_ HB.out⟩
   ·replace H := Option.bind_eq_some_iff.mp H
    obtain ⟨t369, A680, H⟩ := H
    replace H : ((impl_copyRows.f kj2 l0_1).bind fun t376 => (if t376.length < 5864062014805 then ((some (t376 ++ [[]] : List (List Int))).bind fun y379 => (impl_HearRow.l0 kj2 t369 (([] : List (List Int))) (([] : List Int)) y379 (y379.length : Int) 0 a0_0 l0_1 a0_2 l1_0)) else (none))) = some (r1, r2, r3, r4) := H
    have A68 := Aside0.mk A680
    clear A680
    obtain ⟨y370, hy370⟩ : ∃ y_ : List (List Int), y_ = (([] : List (List Int))) := ⟨_, rfl⟩
    replace H : ((impl_copyRows.f kj2 l0_1).bind fun t376 => (if t376.length < 5864062014805 then ((some (t376 ++ [[]] : List (List Int))).bind fun y379 => (impl_HearRow.l0 kj2 t369 y370 (([] : List Int)) y379 (y379.length : Int) 0 a0_0 l0_1 a0_2 l1_0)) else (none))) = some (r1, r2, r3, r4) := rh_ hy370 H
    have Ny370 := Aside0.mk hy370
    clear hy370
    obtain ⟨y373, hy373⟩ : ∃ y_ : List Int, y_ = (([] : List Int)) := ⟨_, rfl⟩
    replace H : ((impl_copyRows.f kj2 l0_1).bind fun t376 => (if t376.length < 5864062014805 then ((some (t376 ++ [[]] : List (List Int))).bind fun y379 => (impl_HearRow.l0 kj2 t369 y370 y373 y379 (y379.length : Int) 0 a0_0 l0_1 a0_2 l1_0)) else (none))) = some (r1, r2, r3, r4) := rh_ hy373 H
    have Ny373 := Aside0.mk hy373
    clear hy373
    replace H := Option.bind_eq_some_iff.mp H
    obtain ⟨t376, A690, H⟩ := H
    replace H : (if t376.length < 5864062014805 then ((some (t376 ++ [[]] : List (List Int))).bind fun y379 => (impl_HearRow.l0 kj2 t369 y370 y373 y379 (y379.length : Int) 0 a0_0 l0_1 a0_2 l1_0)) else (none)) = some (r1, r2, r3, r4) := H
    have A69 := Aside0.mk A690
    clear A690
    by_cases c70 : t376.length < 5864062014805
    ·rw [if_pos c70] at H
     have LMc70 := Aside0.mk c70
     clear c70
     obtain ⟨y379, hy379⟩ : ∃ y_ : List (List Int), y_ = (t376 ++ [[]]) := ⟨_, rfl⟩
     replace H : (impl_HearRow.l0 kj2 t369 y370 y373 y379 (y379.length : Int) 0 a0_0 l0_1 a0_2 l1_0) = some (r1, r2, r3, r4) := rh_ hy379 H
     have Ny379 := Aside0.mk hy379
     clear hy379
     have H' := Aside0.mk H
     clear H
     have hnb71 := NB357_358.out
     have hnc71 := NB358_357.out
     have hnb72 := NB357_359.out
     have hnc72 := NB359_357.out
     obtain ⟨hcz73_0, hcz73_1, hcz73_2⟩ := c3_ BK357
     have hfz73_0 := blk_frozen BK357.out 0
     have hfz73_1 := blk_frozen BK357.out 1
     have hfz73_2 := blk_frozen BK357.out 2
     go_wp2_with (first | ((refine gc_ 87 ?_); refine goesL_ (some 46) rfl rfl Try.func87 (by kernel_rfl) rfl #[.slice A0_1 l0_1.length c0_1, .func (.func 88) #[] #[.pointer (some ⟨gb358, 0, none⟩)]] rfl am_ ?_; (with_reducible refine (v_slices_IndexFunc__HearRow_1.calls kj2 _ _ l0_1 _ 1 [(⟨l1_0⟩ : S34)] t369 _ ?side1 ?side2 ?side3 ?side4 A68.out).mono ?_); (case side1 => exact Kd.C_below HR0_1.out (up_ HB.out)); (case side2 => exact HC0_1.out); (case side3 => exact Go.Proofs.Ytkddpilambnicaa.Step.C_cap (T := 34) (d := k34) (cs := #[.slice A1_0 l1_0.length c1_0]) (up_ BK358.out) (Exists.intro _ (Exists.intro _ (And.intro rfl (And.intro (by exact HC1_0.out) (by repeat (first | exact (Kd.C_below HR1_0.out HB.out) | (with_reducible refine Kd.C_alloc ?_ _) | (with_reducible refine Kd.C_drewN ?_ _) | (with_reducible refine Kd.C_drew ?_)))))))); (case side4 => exact Nat.le_refl _); rintro e w' ⟨rfl, ⟨nd, rfl⟩⟩; refine ⟨_, rfl, ?_⟩) | ((refine gd_ 47 ?_); refine Kd.S_lit (Kd.slice 3 (Kd.int .i64)) _ 25 ?hg (N := 47) ?hd (xs := ([] : List (List Int))) (inner := []) (ok := fun _ => True) (okp := fun _ => True) ?hr ?hp (fun _ hk => hk) trivial (Below.refl _ _) (Nat.le_refl _) (by simp) ?_; (case hd => rfl); (case hg => rfl); (case hr => first | (go_simp; done) | (go_simp; rfl)); (case hp => exact (Reps.none _ _)); intro v371 w74 ho75 hb hg_ hnew_; clear hg_ hnew_; (first | rw [← Ny370.out] at ho75 | (simp only [Int.reduceToNat] at ho75; rw [← Ny370.out] at ho75)); have HO372 := Aside0.mk (Kd.S_lower ho75 (below_size (up_ HB.out))); replace BK357 := bb_ BK357 hb; replace BK358 := bb_ BK358 hb; replace BK359 := bb_ BK359 hb; replace HB := bs_ HB hb; clear hb ho75) | ((refine gd_ 48 ?_); refine Kd.R_lit (Kd.int .i64) _ 3 ?hg (N := 48) ?hd (xs := ([] : List Int)) (inner := []) (ok := fun _ => True) (okp := fun _ => True) ?hr ?hp (fun _ hk => hk) trivial (Below.refl _ _) (Nat.le_refl _) (by simp) ?_; (case hd => rfl); (case hg => rfl); (case hr => first | (go_simp; done) | (go_simp; rfl)); (case hp => exact (Reps.none _ _)); intro v374 w76 ho77 hb hg_ hnew_; clear hg_ hnew_; (first | rw [← Ny373.out] at ho77 | (simp only [Int.reduceToNat] at ho77; rw [← Ny373.out] at ho77)); replace HO372 := Aside0.mk (Kd.S_elder' (up_ HO372.out) (Kd.R_base ho77) hb); have HO375 := Aside0.mk (Kd.R_lower ho77 (below_size (up_ HB.out))); replace BK357 := bb_ BK357 hb; replace BK358 := bb_ BK358 hb; replace BK359 := bb_ BK359 hb; replace HB := bs_ HB hb; clear hb ho77; obtain ⟨hcz78_0, hcz78_1, hcz78_2⟩ := c3_ BK357; have hfz78_0 := blk_frozen BK357.out 0; have hfz78_1 := blk_frozen BK357.out 1; have hfz78_2 := blk_frozen BK357.out 2) | ((refine gc_ 91 ?_); refine gl_ (some 51) Try.func91 (impl_copyRows.calls kj2 _ _ l0_1 t376 _ (Kd.C_below HR0_1.out (up_ HB.out)) HC0_1.out A69.out) ?_; rintro e w79 ⟨v377, rfl, ho0, hb⟩; refine ⟨_, rfl, ?_⟩; have HO378 := Aside0.mk (Kd.S_lower (Kd.S_new' (Kd.S_new' ho0 (Kd.S_lt (up_ HO372.out))) (Kd.R_lt (up_ HO375.out))) (below_size (up_ HB.out))); replace HO372 := Aside0.mk (Kd.S_elder' (up_ HO372.out) (Kd.S_base ho0) hb); replace HO375 := Aside0.mk (Kd.R_below (up_ HO375.out) hb); replace BK357 := bb_ BK357 hb; replace BK358 := bb_ BK358 hb; replace BK359 := bb_ BK359 hb; replace HB := bs_ HB hb; (try clear hb); (try clear hb2); (try clear hk); (try clear hi); (try clear ho0)) | ((with_reducible refine gate_builtin (b := .append) (xs := #[.tmp 51, .tmp 52]) rfl ?_); at_builtin; refine Kd.S_append (Kd.slice 3 (Kd.int .i64)) (w0 := w) w.heap.size rfl (.tmp 51) (.tmp 52) 22 25 (.slice none 0 0) 24 rfl Try.underlying22 info25 rfl (by decide) (by omega) v377 t376 [] [.slice none 0 0] (fun k_ => some k_ ≠ (v371 : Value).ownBlock ∧ some k_ ≠ (v374 : Value).ownBlock) (fun _ => False) rfl rfl ?aP (fun _ hk => hk.elim) ?aF ?aO ?aB ?aS ?aL ?_; (case aP => exact ⟨_, rfl, Kd.R_nil _ _ _ _ _⟩); (case aB => exact (up_ HB.out)); (case aF => exact (fun k_ hk => ⟨Kd.fresh' (Kd.S_lt (up_ HO372.out)) k_ hk, Kd.fresh' (Kd.R_lt (up_ HO375.out)) k_ hk⟩)); (case aO => exact (by (with_reducible repeat (first | apply Kd.S_alloc | apply Kd.S_drewN | apply Kd.S_drew)); exact Kd.S_mono HO378.out (fun k_ hk => ⟨⟨hk.1.2, hk.2⟩, fun e_ => e_⟩))); (case aS => exact (below_size (up_ HB.out))); (case aL => have := LMc70.out; omega); intro v380 w80 ho hb hg hat; rw [← Ny379.out] at ho; have n0_ := Aside0.mk (blk_grown (g := gb357) (o := .cells #[.int .i64 a0_0, .slice A0_1 l0_1.length c0_1, .int .i64 a0_2] 30 (0, 0)) (up_ BK357.out) hg (Kd.S_ne HO378.out BK357.out (by decide))); have n1_ := Aside0.mk (blk_grown (g := gb358) (o := .cells #[.slice A1_0 l1_0.length c1_0] 34 (0, 0)) (up_ BK358.out) hg (Kd.S_ne HO378.out BK358.out (by decide))); have n2_ := Aside0.mk (blk_grown (g := gb359) (o := .cells #[.int .i64 0, .slice none 0 0, .int .i64 0] 30 (0, 0)) (up_ BK359.out) hg (Kd.S_ne HO378.out BK359.out (by decide))); have n3_ := Aside0.mk (Kd.S_after (ok := (fun k_ => some k_ ≠ (v374 : Value).ownBlock)) (by (with_reducible repeat (first | apply Kd.S_alloc | apply Kd.S_drewN | apply Kd.S_drew)); exact Kd.S_mono HO372.out (fun _ hk => ⟨hk.1.2, hk.2⟩)) hg hat); have n4_ := Aside0.mk (Kd.R_over' (up_ HO375.out) (Kd.S_typed (up_ HO378.out)) (by decide) hg); have n5_ := Aside0.mk (hb); have n6_ := Aside0.mk (ho); clear BK357; clear BK358; clear BK359; clear HO372; clear HO375; clear HB; clear HO378; have BK357 := n0_; have BK358 := n1_; have BK359 := n2_; have HO372 := n3_; have HO375 := n4_; have HB := n5_; have HO381 := n6_; clear n0_ n1_ n2_ n3_ n4_ n5_ n6_; clear ho hb hg hat; obtain ⟨Ao81, co81, eo81⟩ := Kd.S_slice HO381.out; subst eo81))
     go_loopg [7, 8, 55] kj2 (fun kq v7 v8 v55 w' => ∃ (x7_2 : List (List Int)) (x8_2 : List Int) (x55_2 : Int), v55 = .int .i64 x55_2 ∧ Aside0 (impl_HearRow.l0 kq t369 x7_2 x8_2 y379 (y379.length : Int) x55_2 a0_0 l0_1 a0_2 l1_0 = some (r1, r2, r3, r4)) ∧ Aside0 (kq ≤ kj2) ∧ Aside0 (Kd.S (Kd.slice 3 (Kd.int .i64)) 25 w' w.heap.size (fun k_ => some k_ ≠ (v8 : Value).ownBlock ∧ some k_ ≠ ((.slice Ao81 y379.length co81) : Value).ownBlock) v7 x7_2) ∧ Aside0 (Kd.R (Kd.int .i64) 3 w' w.heap.size (fun _ => True) v8 x8_2) ∧ Aside0 (Kd.S (Kd.slice 3 (Kd.int .i64)) 25 w' w.heap.size (fun k_ => some k_ ≠ (v7 : Value).ownBlock ∧ some k_ ≠ (v8 : Value).ownBlock) (.slice Ao81 y379.length co81) y379) ∧ Aside0 (w'.heap[gb357]? = some (.cells #[.int .i64 a0_0, (.slice A0_1 l0_1.length c0_1), .int .i64 a0_2] 30 (0, 0))) ∧ Aside0 (w'.heap[gb358]? = some (.cells #[(.slice A1_0 l1_0.length c1_0)] 34 (0, 0))) ∧ Aside0 (w'.heap[gb359]? = some (.cells #[.int .i64 0, (.slice none 0 0), .int .i64 0] 30 (0, 0))) ∧ Aside0 (Below w.heap.size w w'))
     case atStart => exact ⟨(y370), (y373), (0), rs_, H', ⟨Nat.le_refl _⟩, ⟨up_ HO372.out⟩, ⟨up_ HO375.out⟩, ⟨up_ HO381.out⟩, ⟨up_ BK357.out⟩, ⟨up_ BK358.out⟩, ⟨up_ BK359.out⟩, ⟨up_ HB.out⟩⟩
     case round =>
      clear H'
      try clear c1
      try clear c2
      try clear p2
      try clear c3
      try clear c4
      try clear c5
      try clear c6
      try clear c7
      try clear c8
      try clear c9
      try clear c10
      try clear c11
      try clear c11b0
      try clear c11b1
      try clear c12
      try clear c13
      try clear c16
      try clear c17
      try clear c22
      try clear c23
      try clear c24
      try clear c27
      try clear c35
      try clear c36
      try clear c39
      try clear c47
      try clear c48
      try clear c51
      try clear c55
      try clear c56
      try clear c59
      try clear c61
      try clear c62
      try clear c65
      try clear c70
      try clear c71
      try clear c72
      try clear hcz14_0
      try clear hcz14_1
      try clear hcz14_2
      try clear hcz17_0
      try clear hcz18_0
      try clear hcz18_1
      try clear hcz18_2
      try clear hcz20_0
      try clear hcz20_1
      try clear hcz20_2
      try clear hcz25_0
      try clear hcz25_1
      try clear hcz25_2
      try clear hcz28_0
      try clear hcz29_0
      try clear hcz29_1
      try clear hcz29_2
      try clear hcz31_0
      try clear hcz31_1
      try clear hcz31_2
      try clear hcz32_0
      try clear hcz37_0
      try clear hcz37_1
      try clear hcz37_2
      try clear hcz40_0
      try clear hcz41_0
      try clear hcz41_1
      try clear hcz41_2
      try clear hcz43_0
      try clear hcz43_1
      try clear hcz43_2
      try clear hcz44_0
      try clear hcz46_0
      try clear hcz49_0
      try clear hcz49_1
      try clear hcz49_2
      try clear hcz52_0
      try clear hcz53_0
      try clear hcz53_1
      try clear hcz53_2
      try clear hcz57_0
      try clear hcz57_1
      try clear hcz57_2
      try clear hcz63_0
      try clear hcz63_1
      try clear hcz63_2
      try clear hcz66_0
      try clear hcz66_1
      try clear hcz66_2
      try clear hcz73_0
      try clear hcz73_1
      try clear hcz73_2
      try clear hcz78_0
      try clear hcz78_1
      try clear hcz78_2
      try clear hfz14_0
      try clear hfz14_1
      try clear hfz14_2
      try clear hfz17_0
      try clear hfz18_0
      try clear hfz18_1
      try clear hfz18_2
      try clear hfz20_0
      try clear hfz20_1
      try clear hfz20_2
      try clear hfz25_0
      try clear hfz25_1
      try clear hfz25_2
      try clear hfz28_0
      try clear hfz29_0
      try clear hfz29_1
      try clear hfz29_2
      try clear hfz31_0
      try clear hfz31_1
      try clear hfz31_2
      try clear hfz32_0
      try clear hfz37_0
      try clear hfz37_1
      try clear hfz37_2
      try clear hfz40_0
      try clear hfz41_0
      try clear hfz41_1
      try clear hfz41_2
      try clear hfz43_0
      try clear hfz43_1
      try clear hfz43_2
      try clear hfz44_0
      try clear hfz46_0
      try clear hfz49_0
      try clear hfz49_1
      try clear hfz49_2
      try clear hfz52_0
      try clear hfz53_0
      try clear hfz53_1
      try clear hfz53_2
      try clear hfz57_0
      try clear hfz57_1
      try clear hfz57_2
      try clear hfz63_0
      try clear hfz63_1
      try clear hfz63_2
      try clear hfz66_0
      try clear hfz66_1
      try clear hfz66_2
      try clear hfz73_0
      try clear hfz73_1
      try clear hfz73_2
      try clear hfz78_0
      try clear hfz78_1
      try clear hfz78_2
      try clear p2
      obtain ⟨x7_2, x8_2, x55_2, rfl, HA, HK2, HO_7, HO_8, HO_53, BK357, BK358, BK359, HB⟩ := hrel
      cases gk with
      | zero => exact absurd HA.out (by simp [impl_HearRow.l0])
      | succ k2 =>
       have H := HA.out
       clear HA
       simp only [impl_HearRow.l0] at H
       replace H := its_ H; rcases H with ⟨c82b0, H⟩ | ⟨c82b0, H⟩
       ·replace H := its_ H; rcases H with ⟨c83b0, H⟩ | ⟨_, ⟨⟩⟩
        replace H := its_ H; rcases H with ⟨c84b0, H⟩ | ⟨_, ⟨⟩⟩
        obtain ⟨y383, hy383⟩ : ∃ y_ : List Int, y_ = (([] : List Int)) := ⟨_, rfl⟩
        replace H : (impl_HearRow.l1 k2 t369 x7_2 x8_2 x55_2 y383 y379 (y379.length : Int) x55_2 (rd_L1 y379 x55_2) ((rd_L1 y379 x55_2).length : Int) 0 a0_0 l0_1 a0_2 l1_0) = some (r1, r2, r3, r4) := rh_ hy383 H
        have Ny383 := Aside0.mk hy383
        clear hy383
        have H' := Aside0.mk H
        clear H
        have p382 : 0 ≤ (x55_2 : Int) := od_
        have q382 : x55_2 < (y379.length : Int) := od_
        obtain ⟨ad382, A382_0, c382_0, e382, hx382_0, hl382_0, hi382_0⟩ := at_L1 (Kd.S_reads' HO_53.out).2.2 x55_2 p382 q382
        cases e382
        obtain ⟨ce382, hce382, hMe382, hcc382⟩ := Kd.S_get HO_53.out [] x55_2 p382 (by first | exact q382 | exact od_ | (have e_ := (Kd.S_reads' HO_53.out).1; omega))
        obtain ⟨ve382_0, rfl, ge382_0⟩ := hMe382
        have hv382_0 := hcc382 0 _ rfl
        rw [Nat.add_zero, show ((Kd.slice 3 (Kd.int .i64))).sz = 1 from rfl, Nat.mul_one] at hv382_0
        replace hv382_0 := Option.some.inj (hv382_0.symm.trans hx382_0)
        rw [hv382_0] at ge382_0
        have HL382_0 := Aside0.mk (show Kd.R (Kd.int .i64) 3 _ _ _ _ (rd_L1 y379 x55_2) from ge382_0)
        clear hv382_0 ge382_0
        clear hcc382 hce382
        have HR382_0 := Aside0.mk hi382_0
        have HC382_0 := Aside0.mk hl382_0
        clear hi382_0 hl382_0
        replace p382 := eq_true p382
        replace q382 := eq_true q382
        go_wp2_with (first | ((refine gd_ 60 ?_); refine Kd.R_lit (Kd.int .i64) _ 3 ?hg (N := 60) ?hd (xs := ([] : List Int)) (inner := []) (ok := fun _ => True) (okp := fun _ => True) ?hr ?hp (fun _ hk => hk) trivial (Below.refl _ _) (Nat.le_refl _) (by simp) ?_; (case hd => rfl); (case hg => rfl); (case hr => first | (go_simp; done) | (go_simp; rfl)); (case hp => exact (Reps.none _ _)); intro v384 w85 ho86 hb hg_ hnew_; clear hg_ hnew_; (first | rw [← Ny383.out] at ho86 | (simp only [Int.reduceToNat] at ho86; rw [← Ny383.out] at ho86)); replace HO_7 := Aside0.mk (Kd.S_elder' (up_ HO_7.out) (Kd.R_base ho86) hb); replace HO_53 := Aside0.mk (Kd.S_elder' (up_ HO_53.out) (Kd.R_base ho86) hb); have HO385 := Aside0.mk (Kd.R_lower (Kd.R_new' (Kd.R_new' ho86 (Kd.R_lt (up_ HO_8.out))) (Kd.R_lt (up_ HL382_0.out))) (below_size (up_ HB.out))); replace HO_8 := Aside0.mk (Kd.R_elder' (up_ HO_8.out) (Kd.R_base ho86) hb); replace HL382_0 := Aside0.mk (Kd.R_elder' (up_ HL382_0.out) (Kd.R_base ho86) hb); replace BK357 := bb_ BK357 hb; replace BK358 := bb_ BK358 hb; replace BK359 := bb_ BK359 hb; replace HR382_0 := Aside0.mk (Kd.C_below (up_ HR382_0.out) hb); replace HB := bs_ HB hb; clear hb ho86))
        go_loopg [8, 11, 63] k2 (fun kq v8 v11 v63 w' => ∃ (x8_3 : List Int) (x11_3 : List Int) (x63_3 : Int), v63 = .int .i64 x63_3 ∧ Aside0 (impl_HearRow.l1 kq t369 x7_2 x8_3 x55_2 x11_3 y379 (y379.length : Int) x55_2 (rd_L1 y379 x55_2) ((rd_L1 y379 x55_2).length : Int) x63_3 a0_0 l0_1 a0_2 l1_0 = some (r1, r2, r3, r4)) ∧ Aside0 (kq ≤ k2) ∧ Aside0 (Kd.S (Kd.slice 3 (Kd.int .i64)) 25 w' w.heap.size (fun k_ => some k_ ≠ (v8 : Value).ownBlock ∧ some k_ ≠ (v11 : Value).ownBlock ∧ some k_ ≠ ((.slice (some ad382) y379.length co81) : Value).ownBlock) u7 x7_2) ∧ Aside0 (Kd.R (Kd.int .i64) 3 w' w.heap.size (fun k_ => some k_ ≠ (v11 : Value).ownBlock) v8 x8_3) ∧ Aside0 (Kd.R (Kd.int .i64) 3 w' w.heap.size (fun k_ => some k_ ≠ (v8 : Value).ownBlock) v11 x11_3) ∧ Aside0 (Kd.S (Kd.slice 3 (Kd.int .i64)) 25 w' w.heap.size (fun k_ => some k_ ≠ (u7 : Value).ownBlock ∧ some k_ ≠ (v8 : Value).ownBlock ∧ some k_ ≠ (v11 : Value).ownBlock) (.slice (some ad382) y379.length co81) y379) ∧ Aside0 (w'.heap[gb357]? = some (.cells #[.int .i64 a0_0, (.slice A0_1 l0_1.length c0_1), .int .i64 a0_2] 30 (0, 0))) ∧ Aside0 (w'.heap[gb358]? = some (.cells #[(.slice A1_0 l1_0.length c1_0)] 34 (0, 0))) ∧ Aside0 (w'.heap[gb359]? = some (.cells #[.int .i64 0, (.slice none 0 0), .int .i64 0] 30 (0, 0))) ∧ Aside0 (Kd.R (Kd.int .i64) 3 w' w.heap.size (fun k_ => some k_ ≠ (v8 : Value).ownBlock ∧ some k_ ≠ (v11 : Value).ownBlock) (.slice A382_0 (rd_L1 y379 x55_2).length c382_0) (rd_L1 y379 x55_2)) ∧ Aside0 (Below w.heap.size w w'))
        case atStart => exact ⟨(x8_2), (y383), (0), rs_, H', ⟨Nat.le_refl _⟩, ⟨by (with_reducible repeat (first | apply Kd.S_alloc | apply Kd.S_drewN | apply Kd.S_drew)); exact Kd.S_mono HO_7.out (fun _ hk => ⟨hk.1.1, ⟨hk.2, hk.1.2⟩⟩)⟩, ⟨by (with_reducible repeat (first | apply Kd.R_alloc | apply Kd.R_drewN | apply Kd.R_drew)); exact Kd.R_mono HO_8.out (fun _ hk => hk.2)⟩, ⟨by (with_reducible repeat (first | apply Kd.R_alloc | apply Kd.R_drewN | apply Kd.R_drew)); exact Kd.R_mono HO385.out (fun _ hk => hk.1.2)⟩, ⟨by (with_reducible repeat (first | apply Kd.S_alloc | apply Kd.S_drewN | apply Kd.S_drew)); exact Kd.S_mono HO_53.out (fun _ hk => ⟨hk.1.1, ⟨hk.1.2, hk.2⟩⟩)⟩, ⟨up_ BK357.out⟩, ⟨up_ BK358.out⟩, ⟨up_ BK359.out⟩, ⟨by (with_reducible repeat (first | apply Kd.R_alloc | apply Kd.R_drewN | apply Kd.R_drew)); exact Kd.R_mono HL382_0.out (fun _ hk => by first | exact ⟨hk.1.1.2, hk.2⟩ | exact ⟨hk.1.2, hk.2⟩ | exact ⟨hk.1.1.1.2, hk.2⟩ | exact ⟨hk.1.1.1, hk.2⟩ | exact ⟨hk.1.1, hk.2⟩ | exact ⟨hk.1, hk.2⟩ | exact ⟨hk.2, hk.1⟩)⟩, ⟨up_ HB.out⟩⟩
        case round =>
         clear H'
         try clear c1
         try clear c2
         try clear p2
         try clear c3
         try clear p3
         try clear q3
         try clear hx3
         try clear c4
         try clear c5
         try clear c6
         try clear c7
         try clear c8
         try clear c9
         try clear c10
         try clear c11
         try clear c11b0
         try clear c11b1
         try clear c12
         try clear c13
         try clear c16
         try clear c17
         try clear c22
         try clear c23
         try clear c24
         try clear c27
         try clear c35
         try clear c36
         try clear c38
         try clear p38
         try clear q38
         try clear hx38
         try clear c39
         try clear c47
         try clear c48
         try clear c51
         try clear c55
         try clear c56
         try clear c59
         try clear c61
         try clear c62
         try clear c65
         try clear c70
         try clear c71
         try clear c72
         try clear c82
         try clear c82b0
         try clear c83
         try clear c83b0
         try clear c84
         try clear c84b0
         try clear c86
         try clear hcz14_0
         try clear hcz14_1
         try clear hcz14_2
         try clear hcz17_0
         try clear hcz18_0
         try clear hcz18_1
         try clear hcz18_2
         try clear hcz20_0
         try clear hcz20_1
         try clear hcz20_2
         try clear hcz25_0
         try clear hcz25_1
         try clear hcz25_2
         try clear hcz28_0
         try clear hcz29_0
         try clear hcz29_1
         try clear hcz29_2
         try clear hcz31_0
         try clear hcz31_1
         try clear hcz31_2
         try clear hcz32_0
         try clear hcz37_0
         try clear hcz37_1
         try clear hcz37_2
         try clear hcz40_0
         try clear hcz41_0
         try clear hcz41_1
         try clear hcz41_2
         try clear hcz43_0
         try clear hcz43_1
         try clear hcz43_2
         try clear hcz44_0
         try clear hcz46_0
         try clear hcz49_0
         try clear hcz49_1
         try clear hcz49_2
         try clear hcz52_0
         try clear hcz53_0
         try clear hcz53_1
         try clear hcz53_2
         try clear hcz57_0
         try clear hcz57_1
         try clear hcz57_2
         try clear hcz63_0
         try clear hcz63_1
         try clear hcz63_2
         try clear hcz66_0
         try clear hcz66_1
         try clear hcz66_2
         try clear hcz73_0
         try clear hcz73_1
         try clear hcz73_2
         try clear hcz78_0
         try clear hcz78_1
         try clear hcz78_2
         try clear hfz14_0
         try clear hfz14_1
         try clear hfz14_2
         try clear hfz17_0
         try clear hfz18_0
         try clear hfz18_1
         try clear hfz18_2
         try clear hfz20_0
         try clear hfz20_1
         try clear hfz20_2
         try clear hfz25_0
         try clear hfz25_1
         try clear hfz25_2
         try clear hfz28_0
         try clear hfz29_0
         try clear hfz29_1
         try clear hfz29_2
         try clear hfz31_0
         try clear hfz31_1
         try clear hfz31_2
         try clear hfz32_0
         try clear hfz37_0
         try clear hfz37_1
         try clear hfz37_2
         try clear hfz40_0
         try clear hfz41_0
         try clear hfz41_1
         try clear hfz41_2
         try clear hfz43_0
         try clear hfz43_1
         try clear hfz43_2
         try clear hfz44_0
         try clear hfz46_0
         try clear hfz49_0
         try clear hfz49_1
         try clear hfz49_2
         try clear hfz52_0
         try clear hfz53_0
         try clear hfz53_1
         try clear hfz53_2
         try clear hfz57_0
         try clear hfz57_1
         try clear hfz57_2
         try clear hfz63_0
         try clear hfz63_1
         try clear hfz63_2
         try clear hfz66_0
         try clear hfz66_1
         try clear hfz66_2
         try clear hfz73_0
         try clear hfz73_1
         try clear hfz73_2
         try clear hfz78_0
         try clear hfz78_1
         try clear hfz78_2
         try clear hx382_0
         try clear p2
         try clear p382
         try clear q382
         obtain ⟨x8_3, x11_3, x63_3, rfl, HA, HK3, HO_7, HO_8, HO_11, HO_53, BK357, BK358, BK359, HL382_0, HB⟩ := hrel
         have HR382_0 := Aside0.mk (Kd.R_reads' HL382_0.out).2.2
         cases gk with
         | zero => exact absurd HA.out (by simp [impl_HearRow.l1])
         | succ k3 =>
          have H := HA.out
          clear HA
          simp only [impl_HearRow.l1] at H
          replace H := its_ H; rcases H with ⟨c87b0, H⟩ | ⟨c87b0, H⟩
          ·replace H := its_ H; rcases H with ⟨c88b0, H⟩ | ⟨_, ⟨⟩⟩
           replace H := its_ H; rcases H with ⟨c89b0, H⟩ | ⟨_, ⟨⟩⟩
           replace H := its_ H; rcases H with ⟨c90b0, H⟩ | ⟨c90b0, H⟩
           ·replace H := its_ H; rcases H with ⟨c91b0, H⟩ | ⟨_, ⟨⟩⟩
            replace H := its_ H; rcases H with ⟨c92b0, H⟩ | ⟨_, ⟨⟩⟩
            replace H := ieq_ H; rcases H with ⟨-, c93b0, c93b1, H⟩ | ⟨c93, c93b0, c93b1, H⟩
            ·by_cases c94 : x8_3.length < 17592186044416
             ·rw [if_pos c94] at H
              have LMc94 := Aside0.mk c94
              clear c94
              obtain ⟨y388, hy388⟩ : ∃ y_ : List Int, y_ = (x8_3 ++ [rd (rd_L1 y379 x55_2) x63_3]) := ⟨_, rfl⟩
              replace H : (impl_HearRow.l1 k3 t369 x7_2 y388 x55_2 x11_3 y379 (y379.length : Int) x55_2 (rd_L1 y379 x55_2) ((rd_L1 y379 x55_2).length : Int) (wrap64 (x63_3 + 1)) a0_0 l0_1 a0_2 l1_0) = some (r1, r2, r3, r4) := rh_ hy388 H
              have Ny388 := Aside0.mk hy388
              clear hy388
              have H' := Aside0.mk H
              clear H
              have p386 : 0 ≤ (x63_3 : Int) := od_
              have q386 : x63_3 < ((rd_L1 y379 x55_2).length : Int) := od_
              obtain ⟨ad386, e386, hx386_0⟩ := Kd.at_int HR382_0.out x63_3 p386 q386
              cases e386
              clear HR382_0
              replace p386 := eq_true p386
              replace q386 := eq_true q386
              have hnb95 := NB358_357.out
              have hnc95 := NB357_358.out
              have hnb96 := NB358_359.out
              have hnc96 := NB359_358.out
              have hcz97_0 := c1_ BK358
              have hfz97_0 := blk_frozen BK358.out 0
              have p387 : 0 ≤ ((rd (rd_L1 y379 x55_2) x63_3) : Int) := od_
              have q387 : (rd (rd_L1 y379 x55_2) x63_3) < (l1_0.length : Int) := od_
              obtain ⟨ad387, e387, hx387_0⟩ := Kd.at_int HR1_0.out (rd (rd_L1 y379 x55_2) x63_3) p387 q387
              cases e387
              replace hx387_0 := bh_ HB hx387_0
              replace p387 := eq_true p387
              replace q387 := eq_true q387
              go_wp2_with (first | ((with_reducible refine gate_builtin (b := .append) (xs := #[.tmp 78, .tmp 80]) rfl ?_); at_builtin; refine Kd.R_append (Kd.int .i64) (w0 := w) w.heap.size rfl (.tmp 78) (.tmp 80) 25 3 (.int .i64 0) 8 rfl Try.underlying25 info3 rfl (by decide) (by omega) u8 x8_3 (rd (rd_L1 y379 x55_2) x63_3) [.int .i64 (rd (rd_L1 y379 x55_2) x63_3)] (fun k_ => some k_ ≠ (u11 : Value).ownBlock) (fun _ => False) rfl rfl ?aP (fun _ hk => hk.elim) ?aF ?aO ?aB ?aS ?aL ?_; (case aP => exact rfl); (case aB => exact (up_ HB.out)); (case aF => exact (fun k_ hk => Kd.fresh' (Kd.R_lt (up_ HO_11.out)) k_ hk)); (case aO => exact (up_ HO_8.out)); (case aS => exact (below_size (up_ HB.out))); (case aL => have := LMc94.out; omega); intro v389 w98 ho hb hg hat; rw [← Ny388.out] at ho; have nV_ := Aside0.mk (Kd.R_after (ok := fun k_ => some k_ ≠ (u11 : Value).ownBlock) (by (with_reducible repeat (first | apply Kd.R_alloc | apply Kd.R_drewN | apply Kd.R_drew)); exact Kd.R_mono HL382_0.out (fun _ hk => ⟨hk.2, hk.1⟩)) hg hat); clear HL382_0; have HL382_0 := nV_; clear nV_; have n0_ := Aside0.mk (Kd.S_after (ok := (fun k_ => some k_ ≠ (u11 : Value).ownBlock ∧ some k_ ≠ (.slice (some ad382) y379.length co81 : Value).ownBlock)) (by (with_reducible repeat (first | apply Kd.S_alloc | apply Kd.S_drewN | apply Kd.S_drew)); exact Kd.S_mono HO_7.out (fun _ hk => ⟨⟨hk.2.1, hk.2.2⟩, hk.1⟩)) hg hat); have n1_ := Aside0.mk (Kd.R_after (ok := (fun _ => True)) (by (with_reducible repeat (first | apply Kd.R_alloc | apply Kd.R_drewN | apply Kd.R_drew)); exact Kd.R_mono HO_11.out (fun _ hk => ⟨trivial, hk⟩)) hg hat); have n2_ := Aside0.mk (Kd.S_after (ok := (fun k_ => some k_ ≠ (u7 : Value).ownBlock ∧ some k_ ≠ (u11 : Value).ownBlock)) (by (with_reducible repeat (first | apply Kd.S_alloc | apply Kd.S_drewN | apply Kd.S_drew)); exact Kd.S_mono HO_53.out (fun _ hk => ⟨⟨hk.1, hk.2.2⟩, hk.2.1⟩)) hg hat); have n3_ := Aside0.mk (blk_grown (g := gb357) (o := .cells #[.int .i64 a0_0, .slice A0_1 l0_1.length c0_1, .int .i64 a0_2] 30 (0, 0)) (up_ BK357.out) hg (Kd.R_ne HO_8.out BK357.out (by decide))); have n4_ := Aside0.mk (blk_grown (g := gb358) (o := .cells #[.slice (some ad387) l1_0.length c1_0] 34 (0, 0)) (up_ BK358.out) hg (Kd.R_ne HO_8.out BK358.out (by decide))); have n5_ := Aside0.mk (blk_grown (g := gb359) (o := .cells #[.int .i64 0, .slice none 0 0, .int .i64 0] 30 (0, 0)) (up_ BK359.out) hg (Kd.R_ne HO_8.out BK359.out (by decide))); have n6_ := Aside0.mk (hb); have n7_ := Aside0.mk (ho); clear HO_7; clear HO_11; clear HO_53; clear BK357; clear BK358; clear BK359; clear HB; clear HO_8; have HO_7 := n0_; have HO_11 := n1_; have HO_53 := n2_; have BK357 := n3_; have BK358 := n4_; have BK359 := n5_; have HB := n6_; have HO390 := n7_; clear n0_ n1_ n2_ n3_ n4_ n5_ n6_ n7_; clear ho hb hg hat))
              go_roundg k3
              case measure => have := HJ2.out; have := HK2.out; have := HK3.out; omega
              case rel => exact ⟨(y388), (x11_3), (wrap64 (x63_3 + 1)), rs_, H', ⟨by have := HJ2.out; have := HK2.out; have := HK3.out; omega⟩, ⟨by (with_reducible repeat (first | apply Kd.S_alloc | apply Kd.S_drewN | apply Kd.S_drew)); exact Kd.S_mono HO_7.out (fun _ hk => ⟨hk.2, ⟨hk.1.1, hk.1.2⟩⟩)⟩, ⟨up_ HO390.out⟩, ⟨by (with_reducible repeat (first | apply Kd.R_alloc | apply Kd.R_drewN | apply Kd.R_drew)); exact Kd.R_mono HO_11.out (fun _ hk => hk.2)⟩, ⟨by (with_reducible repeat (first | apply Kd.S_alloc | apply Kd.S_drewN | apply Kd.S_drew)); exact Kd.S_mono HO_53.out (fun _ hk => ⟨hk.1.1, ⟨hk.2, hk.1.2⟩⟩)⟩, ⟨up_ BK357.out⟩, ⟨up_ BK358.out⟩, ⟨up_ BK359.out⟩, ⟨by (with_reducible repeat (first | apply Kd.R_alloc | apply Kd.R_drewN | apply Kd.R_drew)); exact Kd.R_mono HL382_0.out (fun _ hk => by first | exact ⟨hk.1, hk.2⟩ | exact ⟨hk.2, hk.1⟩)⟩, ⟨up_ HB.out⟩⟩
             ·rw [if_neg c94] at H
              exact absurd H (by simp)
            ·by_cases c99 : x11_3.length < 17592186044416
             ·rw [if_pos c99] at H
              have LMc99 := Aside0.mk c99
              clear c99
              obtain ⟨y391, hy391⟩ : ∃ y_ : List Int, y_ = (x11_3 ++ [rd (rd_L1 y379 x55_2) x63_3]) := ⟨_, rfl⟩
              replace H : (impl_HearRow.l1 k3 t369 x7_2 x8_3 x55_2 y391 y379 (y379.length : Int) x55_2 (rd_L1 y379 x55_2) ((rd_L1 y379 x55_2).length : Int) (wrap64 (x63_3 + 1)) a0_0 l0_1 a0_2 l1_0) = some (r1, r2, r3, r4) := rh_ hy391 H
              have Ny391 := Aside0.mk hy391
              clear hy391
              have H' := Aside0.mk H
              clear H
              have p386 : 0 ≤ (x63_3 : Int) := od_
              have q386 : x63_3 < ((rd_L1 y379 x55_2).length : Int) := od_
              obtain ⟨ad386, e386, hx386_0⟩ := Kd.at_int HR382_0.out x63_3 p386 q386
              cases e386
              clear HR382_0
              replace p386 := eq_true p386
              replace q386 := eq_true q386
              have hnb100 := NB358_357.out
              have hnc100 := NB357_358.out
              have hnb101 := NB358_359.out
              have hnc101 := NB359_358.out
              have hcz102_0 := c1_ BK358
              have hfz102_0 := blk_frozen BK358.out 0
              have p387 : 0 ≤ ((rd (rd_L1 y379 x55_2) x63_3) : Int) := od_
              have q387 : (rd (rd_L1 y379 x55_2) x63_3) < (l1_0.length : Int) := od_
              obtain ⟨ad387, e387, hx387_0⟩ := Kd.at_int HR1_0.out (rd (rd_L1 y379 x55_2) x63_3) p387 q387
              cases e387
              replace hx387_0 := bh_ HB hx387_0
              replace p387 := eq_true p387
              replace q387 := eq_true q387
              go_wp2_with (first | ((with_reducible refine gate_builtin (b := .append) (xs := #[.tmp 82, .tmp 84]) rfl ?_); at_builtin; refine Kd.R_append (Kd.int .i64) (w0 := w) w.heap.size rfl (.tmp 82) (.tmp 84) 25 3 (.int .i64 0) 8 rfl Try.underlying25 info3 rfl (by decide) (by omega) u11 x11_3 (rd (rd_L1 y379 x55_2) x63_3) [.int .i64 (rd (rd_L1 y379 x55_2) x63_3)] (fun k_ => some k_ ≠ (u8 : Value).ownBlock) (fun _ => False) rfl rfl ?aP (fun _ hk => hk.elim) ?aF ?aO ?aB ?aS ?aL ?_; (case aP => exact rfl); (case aB => exact (up_ HB.out)); (case aF => exact (fun k_ hk => Kd.fresh' (Kd.R_lt (up_ HO_8.out)) k_ hk)); (case aO => exact (up_ HO_11.out)); (case aS => exact (below_size (up_ HB.out))); (case aL => have := LMc99.out; omega); intro v392 w103 ho hb hg hat; rw [← Ny391.out] at ho; have nV_ := Aside0.mk (Kd.R_after (ok := fun k_ => some k_ ≠ (u8 : Value).ownBlock) (by (with_reducible repeat (first | apply Kd.R_alloc | apply Kd.R_drewN | apply Kd.R_drew)); exact Kd.R_mono HL382_0.out (fun _ hk => ⟨hk.1, hk.2⟩)) hg hat); clear HL382_0; have HL382_0 := nV_; clear nV_; have n0_ := Aside0.mk (Kd.S_after (ok := (fun k_ => some k_ ≠ (u8 : Value).ownBlock ∧ some k_ ≠ (.slice (some ad382) y379.length co81 : Value).ownBlock)) (by (with_reducible repeat (first | apply Kd.S_alloc | apply Kd.S_drewN | apply Kd.S_drew)); exact Kd.S_mono HO_7.out (fun _ hk => ⟨⟨hk.1, hk.2.2⟩, hk.2.1⟩)) hg hat); have n1_ := Aside0.mk (Kd.R_after (ok := (fun _ => True)) (by (with_reducible repeat (first | apply Kd.R_alloc | apply Kd.R_drewN | apply Kd.R_drew)); exact Kd.R_mono HO_8.out (fun _ hk => ⟨trivial, hk⟩)) hg hat); have n2_ := Aside0.mk (Kd.S_after (ok := (fun k_ => some k_ ≠ (u7 : Value).ownBlock ∧ some k_ ≠ (u8 : Value).ownBlock)) (by (with_reducible repeat (first | apply Kd.S_alloc | apply Kd.S_drewN | apply Kd.S_drew)); exact Kd.S_mono HO_53.out (fun _ hk => ⟨⟨hk.1, hk.2.1⟩, hk.2.2⟩)) hg hat); have n3_ := Aside0.mk (blk_grown (g := gb357) (o := .cells #[.int .i64 a0_0, .slice A0_1 l0_1.length c0_1, .int .i64 a0_2] 30 (0, 0)) (up_ BK357.out) hg (Kd.R_ne HO_11.out BK357.out (by decide))); have n4_ := Aside0.mk (blk_grown (g := gb358) (o := .cells #[.slice (some ad387) l1_0.length c1_0] 34 (0, 0)) (up_ BK358.out) hg (Kd.R_ne HO_11.out BK358.out (by decide))); have n5_ := Aside0.mk (blk_grown (g := gb359) (o := .cells #[.int .i64 0, .slice none 0 0, .int .i64 0] 30 (0, 0)) (up_ BK359.out) hg (Kd.R_ne HO_11.out BK359.out (by decide))); have n6_ := Aside0.mk (hb); have n7_ := Aside0.mk (ho); clear HO_7; clear HO_8; clear HO_53; clear BK357; clear BK358; clear BK359; clear HB; clear HO_11; have HO_7 := n0_; have HO_8 := n1_; have HO_53 := n2_; have BK357 := n3_; have BK358 := n4_; have BK359 := n5_; have HB := n6_; have HO393 := n7_; clear n0_ n1_ n2_ n3_ n4_ n5_ n6_ n7_; clear ho hb hg hat))
              go_roundg k3
              case measure => have := HJ2.out; have := HK2.out; have := HK3.out; omega
              case rel => exact ⟨(x8_3), (y391), (wrap64 (x63_3 + 1)), rs_, H', ⟨by have := HJ2.out; have := HK2.out; have := HK3.out; omega⟩, ⟨by (with_reducible repeat (first | apply Kd.S_alloc | apply Kd.S_drewN | apply Kd.S_drew)); exact Kd.S_mono HO_7.out (fun _ hk => ⟨hk.1.1, ⟨hk.2, hk.1.2⟩⟩)⟩, ⟨by (with_reducible repeat (first | apply Kd.R_alloc | apply Kd.R_drewN | apply Kd.R_drew)); exact Kd.R_mono HO_8.out (fun _ hk => hk.2)⟩, ⟨up_ HO393.out⟩, ⟨by (with_reducible repeat (first | apply Kd.S_alloc | apply Kd.S_drewN | apply Kd.S_drew)); exact Kd.S_mono HO_53.out (fun _ hk => ⟨hk.1.1, ⟨hk.1.2, hk.2⟩⟩)⟩, ⟨up_ BK357.out⟩, ⟨up_ BK358.out⟩, ⟨up_ BK359.out⟩, ⟨by (with_reducible repeat (first | apply Kd.R_alloc | apply Kd.R_drewN | apply Kd.R_drew)); exact Kd.R_mono HL382_0.out (fun _ hk => by first | exact ⟨hk.1, hk.2⟩ | exact ⟨hk.2, hk.1⟩)⟩, ⟨up_ HB.out⟩⟩
             ·rw [if_neg c99] at H
              exact absurd H (by simp)
           ·by_cases c104 : x11_3.length < 17592186044416
            ·rw [if_pos c104] at H
             have LMc104 := Aside0.mk c104
             clear c104
             obtain ⟨y394, hy394⟩ : ∃ y_ : List Int, y_ = (x11_3 ++ [rd (rd_L1 y379 x55_2) x63_3]) := ⟨_, rfl⟩
             replace H : (impl_HearRow.l1 k3 t369 x7_2 x8_3 x55_2 y394 y379 (y379.length : Int) x55_2 (rd_L1 y379 x55_2) ((rd_L1 y379 x55_2).length : Int) (wrap64 (x63_3 + 1)) a0_0 l0_1 a0_2 l1_0) = some (r1, r2, r3, r4) := rh_ hy394 H
             have Ny394 := Aside0.mk hy394
             clear hy394
             have H' := Aside0.mk H
             clear H
             have p386 : 0 ≤ (x63_3 : Int) := od_
             have q386 : x63_3 < ((rd_L1 y379 x55_2).length : Int) := od_
             obtain ⟨ad386, e386, hx386_0⟩ := Kd.at_int HR382_0.out x63_3 p386 q386
             cases e386
             clear HR382_0
             replace p386 := eq_true p386
             replace q386 := eq_true q386
             go_wp2_with (first | ((with_reducible refine gate_builtin (b := .append) (xs := #[.tmp 82, .tmp 84]) rfl ?_); at_builtin; refine Kd.R_append (Kd.int .i64) (w0 := w) w.heap.size rfl (.tmp 82) (.tmp 84) 25 3 (.int .i64 0) 8 rfl Try.underlying25 info3 rfl (by decide) (by omega) u11 x11_3 (rd (rd_L1 y379 x55_2) x63_3) [.int .i64 (rd (rd_L1 y379 x55_2) x63_3)] (fun k_ => some k_ ≠ (u8 : Value).ownBlock) (fun _ => False) rfl rfl ?aP (fun _ hk => hk.elim) ?aF ?aO ?aB ?aS ?aL ?_; (case aP => exact rfl); (case aB => exact (up_ HB.out)); (case aF => exact (fun k_ hk => Kd.fresh' (Kd.R_lt (up_ HO_8.out)) k_ hk)); (case aO => exact (up_ HO_11.out)); (case aS => exact (below_size (up_ HB.out))); (case aL => have := LMc104.out; omega); intro v395 w105 ho hb hg hat; rw [← Ny394.out] at ho; have nV_ := Aside0.mk (Kd.R_after (ok := fun k_ => some k_ ≠ (u8 : Value).ownBlock) (by (with_reducible repeat (first | apply Kd.R_alloc | apply Kd.R_drewN | apply Kd.R_drew)); exact Kd.R_mono HL382_0.out (fun _ hk => ⟨hk.1, hk.2⟩)) hg hat); clear HL382_0; have HL382_0 := nV_; clear nV_; have n0_ := Aside0.mk (Kd.S_after (ok := (fun k_ => some k_ ≠ (u8 : Value).ownBlock ∧ some k_ ≠ (.slice (some ad382) y379.length co81 : Value).ownBlock)) (by (with_reducible repeat (first | apply Kd.S_alloc | apply Kd.S_drewN | apply Kd.S_drew)); exact Kd.S_mono HO_7.out (fun _ hk => ⟨⟨hk.1, hk.2.2⟩, hk.2.1⟩)) hg hat); have n1_ := Aside0.mk (Kd.R_after (ok := (fun _ => True)) (by (with_reducible repeat (first | apply Kd.R_alloc | apply Kd.R_drewN | apply Kd.R_drew)); exact Kd.R_mono HO_8.out (fun _ hk => ⟨trivial, hk⟩)) hg hat); have n2_ := Aside0.mk (Kd.S_after (ok := (fun k_ => some k_ ≠ (u7 : Value).ownBlock ∧ some k_ ≠ (u8 : Value).ownBlock)) (by (with_reducible repeat (first | apply Kd.S_alloc | apply Kd.S_drewN | apply Kd.S_drew)); exact Kd.S_mono HO_53.out (fun _ hk => ⟨⟨hk.1, hk.2.1⟩, hk.2.2⟩)) hg hat); have n3_ := Aside0.mk (blk_grown (g := gb357) (o := .cells #[.int .i64 a0_0, .slice A0_1 l0_1.length c0_1, .int .i64 a0_2] 30 (0, 0)) (up_ BK357.out) hg (Kd.R_ne HO_11.out BK357.out (by decide))); have n4_ := Aside0.mk (blk_grown (g := gb358) (o := .cells #[.slice A1_0 l1_0.length c1_0] 34 (0, 0)) (up_ BK358.out) hg (Kd.R_ne HO_11.out BK358.out (by decide))); have n5_ := Aside0.mk (blk_grown (g := gb359) (o := .cells #[.int .i64 0, .slice none 0 0, .int .i64 0] 30 (0, 0)) (up_ BK359.out) hg (Kd.R_ne HO_11.out BK359.out (by decide))); have n6_ := Aside0.mk (hb); have n7_ := Aside0.mk (ho); clear HO_7; clear HO_8; clear HO_53; clear BK357; clear BK358; clear BK359; clear HB; clear HO_11; have HO_7 := n0_; have HO_8 := n1_; have HO_53 := n2_; have BK357 := n3_; have BK358 := n4_; have BK359 := n5_; have HB := n6_; have HO396 := n7_; clear n0_ n1_ n2_ n3_ n4_ n5_ n6_ n7_; clear ho hb hg hat))
             go_roundg k3
             case measure => have := HJ2.out; have := HK2.out; have := HK3.out; omega
             case rel => exact ⟨(x8_3), (y394), (wrap64 (x63_3 + 1)), rs_, H', ⟨by have := HJ2.out; have := HK2.out; have := HK3.out; omega⟩, ⟨by (with_reducible repeat (first | apply Kd.S_alloc | apply Kd.S_drewN | apply Kd.S_drew)); exact Kd.S_mono HO_7.out (fun _ hk => ⟨hk.1.1, ⟨hk.2, hk.1.2⟩⟩)⟩, ⟨by (with_reducible repeat (first | apply Kd.R_alloc | apply Kd.R_drewN | apply Kd.R_drew)); exact Kd.R_mono HO_8.out (fun _ hk => hk.2)⟩, ⟨up_ HO396.out⟩, ⟨by (with_reducible repeat (first | apply Kd.S_alloc | apply Kd.S_drewN | apply Kd.S_drew)); exact Kd.S_mono HO_53.out (fun _ hk => ⟨hk.1.1, ⟨hk.1.2, hk.2⟩⟩)⟩, ⟨up_ BK357.out⟩, ⟨up_ BK358.out⟩, ⟨up_ BK359.out⟩, ⟨by (with_reducible repeat (first | apply Kd.R_alloc | apply Kd.R_drewN | apply Kd.R_drew)); exact Kd.R_mono HL382_0.out (fun _ hk => by first | exact ⟨hk.1, hk.2⟩ | exact ⟨hk.2, hk.1⟩)⟩, ⟨up_ HB.out⟩⟩
            ·rw [if_neg c104] at H
             exact absurd H (by simp)
          ·replace H := ieq_ H; rcases H with ⟨-, c106b0, c106b1, H⟩ | ⟨c106, c106b0, c106b1, H⟩
           ·by_cases c107 : x11_3.length + x8_3.length < 17592186044416
            ·rw [if_pos c107] at H
             have LMc107 := Aside0.mk c107
             clear c107
             obtain ⟨y397, hy397⟩ : ∃ y_ : List Int, y_ = (x11_3 ++ x8_3) := ⟨_, rfl⟩
             replace H : ((slices_Sort_int_int.f y397).bind fun t400 => (if (y397.length : Int) > 0 then (if x7_2.length < 5864062014805 then (impl_HearRow.l0 k3 t369 (x7_2 ++ [t400]) x8_3 y379 (y379.length : Int) (wrap64 (x55_2 + 1)) a0_0 l0_1 a0_2 l1_0) else (none)) else (impl_HearRow.l0 k3 t369 x7_2 x8_3 y379 (y379.length : Int) (wrap64 (x55_2 + 1)) a0_0 l0_1 a0_2 l1_0))) = some (r1, r2, r3, r4) := rh_ hy397 H
             have Ny397 := Aside0.mk hy397
             clear hy397
             replace H := Option.bind_eq_some_iff.mp H
             obtain ⟨t400, A1080, H⟩ := H
             replace H : (if (y397.length : Int) > 0 then (if x7_2.length < 5864062014805 then (impl_HearRow.l0 k3 t369 (x7_2 ++ [t400]) x8_3 y379 (y379.length : Int) (wrap64 (x55_2 + 1)) a0_0 l0_1 a0_2 l1_0) else (none)) else (impl_HearRow.l0 k3 t369 x7_2 x8_3 y379 (y379.length : Int) (wrap64 (x55_2 + 1)) a0_0 l0_1 a0_2 l1_0)) = some (r1, r2, r3, r4) := H
             have A108 := Aside0.mk A1080
             clear A1080
             by_cases c109 : (y397.length : Int) > 0
             ·rw [if_pos c109] at H
              have c109b0 : decide (0 < (y397.length : Int)) = true := decide_eq_true c109
              have c109b1 : decide (0 < y397.length) = true := decide_eq_true (by omega)
              clear c109
              by_cases c110 : x7_2.length < 5864062014805
              ·rw [if_pos c110] at H
               have LMc110 := Aside0.mk c110
               clear c110
               obtain ⟨y401, hy401⟩ : ∃ y_ : List (List Int), y_ = (x7_2 ++ [t400]) := ⟨_, rfl⟩
               replace H : (impl_HearRow.l0 k3 t369 y401 x8_3 y379 (y379.length : Int) (wrap64 (x55_2 + 1)) a0_0 l0_1 a0_2 l1_0) = some (r1, r2, r3, r4) := rh_ hy401 H
               have Ny401 := Aside0.mk hy401
               clear hy401
               have H' := Aside0.mk H
               clear H
               obtain ⟨Ao112, co112, eo112⟩ := Kd.R_slice HO_8.out
               subst eo112
               go_wp2_with (first | ((with_reducible refine gate_builtin (b := .append) (xs := #[.tmp 91, .tmp 92]) rfl ?_); at_builtin; refine Kd.R_append_rows (Kd.int .i64) (w0 := w) w.heap.size rfl (.tmp 91) (.tmp 92) 25 3 (.int .i64 0) 8 rfl Try.underlying25 info3 rfl (by decide) (by omega) u11 x11_3 x8_3 _ _ _ (fun k_ => some k_ ≠ (.slice Ao112 x8_3.length co112 : Value).ownBlock) (fun _ => False) rfl rfl ?aO ?aR (fun _ _ h => h) (fun _ h => h.elim) ?aF ?aB ?aS ?aL ?_; (case aR => repeat (first | exact (Kd.R_reads' HO_8.out).2.2 | (with_reducible refine Kd.C_alloc ?_ _) | (with_reducible refine Kd.C_drewN ?_ _) | (with_reducible refine Kd.C_drew ?_))); (case aB => exact (up_ HB.out)); (case aF => exact (fun k_ hk => Kd.fresh' (Kd.R_lt (up_ HO_8.out)) k_ hk)); (case aO => exact (up_ HO_11.out)); (case aS => exact (below_size (up_ HB.out))); (case aL => have := LMc107.out; omega); intro v398 w111 ho hb hg hat; rw [← Ny397.out] at ho; have n0_ := Aside0.mk (Kd.S_after (ok := (fun k_ => some k_ ≠ (.slice Ao112 x8_3.length co112 : Value).ownBlock ∧ some k_ ≠ (.slice (some ad382) y379.length co81 : Value).ownBlock)) (by (with_reducible repeat (first | apply Kd.S_alloc | apply Kd.S_drewN | apply Kd.S_drew)); exact Kd.S_mono HO_7.out (fun _ hk => ⟨⟨hk.1, hk.2.2⟩, hk.2.1⟩)) hg hat); have n1_ := Aside0.mk (Kd.R_after (ok := (fun _ => True)) (by (with_reducible repeat (first | apply Kd.R_alloc | apply Kd.R_drewN | apply Kd.R_drew)); exact Kd.R_mono HO_8.out (fun _ hk => ⟨trivial, hk⟩)) hg hat); have n2_ := Aside0.mk (Kd.S_after (ok := (fun k_ => some k_ ≠ (u7 : Value).ownBlock ∧ some k_ ≠ (.slice Ao112 x8_3.length co112 : Value).ownBlock)) (by (with_reducible repeat (first | apply Kd.S_alloc | apply Kd.S_drewN | apply Kd.S_drew)); exact Kd.S_mono HO_53.out (fun _ hk => ⟨⟨hk.1, hk.2.1⟩, hk.2.2⟩)) hg hat); have n3_ := Aside0.mk (blk_grown (g := gb357) (o := .cells #[.int .i64 a0_0, .slice A0_1 l0_1.length c0_1, .int .i64 a0_2] 30 (0, 0)) (up_ BK357.out) hg (Kd.R_ne HO_11.out BK357.out (by decide))); have n4_ := Aside0.mk (blk_grown (g := gb358) (o := .cells #[.slice A1_0 l1_0.length c1_0] 34 (0, 0)) (up_ BK358.out) hg (Kd.R_ne HO_11.out BK358.out (by decide))); have n5_ := Aside0.mk (blk_grown (g := gb359) (o := .cells #[.int .i64 0, .slice none 0 0, .int .i64 0] 30 (0, 0)) (up_ BK359.out) hg (Kd.R_ne HO_11.out BK359.out (by decide))); have n6_ := Aside0.mk (hb); have n7_ := Aside0.mk (ho); clear HO_7; clear HO_8; clear HO_53; clear BK357; clear BK358; clear BK359; clear HB; clear HO_11; have HO_7 := n0_; have HO_8 := n1_; have HO_53 := n2_; have BK357 := n3_; have BK358 := n4_; have BK359 := n5_; have HB := n6_; have HO399 := n7_; clear n0_ n1_ n2_ n3_ n4_ n5_ n6_ n7_; clear ho hb hg hat; obtain ⟨Ao113, co113, eo113⟩ := Kd.R_slice HO399.out; subst eo113) | ((refine gc_ 92 ?_); refine goesL_ (some 95) rfl rfl Try.func92 (by kernel_rfl) rfl #[.slice Ao113 y397.length co113] rfl am_ ?_; (with_reducible refine (slices_Sort_int_int.calls (fun k_ => some k_ = (.slice Ao113 y397.length co113 : Value).ownBlock) (.slice Ao113 y397.length co113) y397 t400 w _ ?side1 ?side2 A108.out).mono ?_); (case side1 => repeat (first | (with_reducible first | exact HB.out | apply below_alloc | apply pw_below_drewN | apply below_drew1 | refine below_set ?_ GE357.out | refine below_set ?_ GE358.out | refine below_set ?_ GE359.out) | exact HB.out)); (case side2 => exact Kd.R_tight rfl HO399.out); rintro e w114 ⟨rfl, hy0, hb, hkp⟩; refine ⟨_, rfl, ?_⟩; replace HO_7 := Aside0.mk (Kd.S_mono (ok' := fun k_ => some k_ ≠ (.slice Ao112 x8_3.length co112 : Value).ownBlock ∧ some k_ ≠ (.slice (some ad382) y379.length co81 : Value).ownBlock ∧ some k_ ≠ (.slice Ao113 y397.length co113 : Value).ownBlock) (Kd.S_keptB (HO_7.out) hkp (fun k_ hk_ hs_ => (hk_.2) hs_)) (fun k_ hk_ => ⟨hk_.1.1.1, hk_.1.1.2, hk_.1.2⟩)); replace HO_8 := Aside0.mk (Kd.R_mono (ok' := fun k_ => some k_ ≠ (.slice Ao113 y397.length co113 : Value).ownBlock) (Kd.R_keptB (HO_8.out) hkp (fun k_ hk_ hs_ => (hk_.2) hs_)) (fun k_ hk_ => hk_.1.2)); replace HO_53 := Aside0.mk (Kd.S_mono (ok' := fun k_ => some k_ ≠ (u7 : Value).ownBlock ∧ some k_ ≠ (.slice Ao112 x8_3.length co112 : Value).ownBlock ∧ some k_ ≠ (.slice Ao113 y397.length co113 : Value).ownBlock) (Kd.S_keptB (HO_53.out) hkp (fun k_ hk_ hs_ => (hk_.2) hs_)) (fun k_ hk_ => ⟨hk_.1.1.1, hk_.1.1.2, hk_.1.2⟩)); replace BK357 := Aside0.mk (blk_kept (up_ BK357.out) hkp (fun hs_ => (fun e_ => (Kd.R_ne HO399.out BK357.out (by decide)) e_) hs_)); replace BK358 := Aside0.mk (blk_kept (up_ BK358.out) hkp (fun hs_ => (fun e_ => (Kd.R_ne HO399.out BK358.out (by decide)) e_) hs_)); replace BK359 := Aside0.mk (blk_kept (up_ BK359.out) hkp (fun hs_ => (fun e_ => (Kd.R_ne HO399.out BK359.out (by decide)) e_) hs_)); replace HO399 := Aside0.mk (Kd.R_reok rfl hy0 (fun k_ e_ => HO399.out.1 k_ e_)); replace HB := Aside0.mk (hb); (try clear hb); (try clear hkp); (try clear hy0)) | ((with_reducible refine gate_builtin (b := .append) (xs := #[.tmp 99, .tmp 101]) rfl ?_); at_builtin; refine Kd.S_append (Kd.slice 3 (Kd.int .i64)) (w0 := w) w.heap.size rfl (.tmp 99) (.tmp 101) 22 25 (.slice none 0 0) 24 rfl Try.underlying22 info25 rfl (by decide) (by omega) u7 x7_2 t400 [.slice Ao113 y397.length co113] (fun k_ => some k_ ≠ (.slice Ao112 x8_3.length co112 : Value).ownBlock ∧ some k_ ≠ (.slice (some ad382) y379.length co81 : Value).ownBlock) (fun k_ => some k_ = (.slice Ao113 y397.length co113 : Value).ownBlock) rfl rfl ?aP (fun k_ hk_ => ((Kd.R_mono (ok' := fun k_ => ((fun k_ => some k_ ≠ (.slice Ao112 x8_3.length co112 : Value).ownBlock ∧ some k_ ≠ (.slice (some ad382) y379.length co81 : Value).ownBlock)) k_ ∧ some k_ ≠ (u7 : Value).ownBlock) (Kd.R_apart' (Kd.R_apart' (HO399.out) (Kd.S_typed HO_53.out) (by decide)) (Kd.S_typed HO_7.out) (by decide)) (fun k_ hk => ⟨⟨hk.1.1, hk.1.2⟩, hk.2⟩))).1 k_ hk_.symm) ?aF ?aO ?aB ?aS ?aL ?_; (case aP => exact Kd.M_row (Kd.R_mono (Kd.R_tight rfl (Kd.R_mono (ok' := fun k_ => ((fun k_ => some k_ ≠ (.slice Ao112 x8_3.length co112 : Value).ownBlock ∧ some k_ ≠ (.slice (some ad382) y379.length co81 : Value).ownBlock)) k_ ∧ some k_ ≠ (u7 : Value).ownBlock) (Kd.R_apart' (Kd.R_apart' (HO399.out) (Kd.S_typed HO_53.out) (by decide)) (Kd.S_typed HO_7.out) (by decide)) (fun k_ hk => ⟨⟨hk.1.1, hk.1.2⟩, hk.2⟩))) (fun _ h_ => h_))); (case aB => exact (up_ HB.out)); (case aF => exact (fun k_ hk => ⟨Kd.fresh' (Kd.R_lt (up_ HO_8.out)) k_ hk, Kd.fresh' (Kd.S_lt (up_ HO_53.out)) k_ hk⟩)); (case aO => exact (by (with_reducible repeat (first | apply Kd.S_alloc | apply Kd.S_drewN | apply Kd.S_drew)); exact Kd.S_mono HO_7.out (fun k_ hk => ⟨⟨hk.1, hk.2.1⟩, fun e_ => hk.2.2 e_⟩))); (case aS => exact (below_size (up_ HB.out))); (case aL => have := LMc110.out; omega); intro v402 w115 ho hb hg hat; rw [← Ny401.out] at ho; have n0_ := Aside0.mk (Kd.R_over' (up_ HO_8.out) (Kd.S_typed (up_ HO_7.out)) (by decide) hg); have n1_ := Aside0.mk (Kd.S_after (ok := (fun k_ => some k_ ≠ (.slice Ao112 x8_3.length co112 : Value).ownBlock ∧ some k_ ≠ (.slice Ao113 y397.length co113 : Value).ownBlock)) (by (with_reducible repeat (first | apply Kd.S_alloc | apply Kd.S_drewN | apply Kd.S_drew)); exact Kd.S_mono HO_53.out (fun _ hk => ⟨⟨hk.2.1, hk.2.2⟩, hk.1⟩)) hg hat); have n2_ := Aside0.mk (blk_grown (g := gb357) (o := .cells #[.int .i64 a0_0, .slice A0_1 l0_1.length c0_1, .int .i64 a0_2] 30 (0, 0)) (up_ BK357.out) hg (Kd.S_ne HO_7.out BK357.out (by decide))); have n3_ := Aside0.mk (blk_grown (g := gb358) (o := .cells #[.slice A1_0 l1_0.length c1_0] 34 (0, 0)) (up_ BK358.out) hg (Kd.S_ne HO_7.out BK358.out (by decide))); have n4_ := Aside0.mk (blk_grown (g := gb359) (o := .cells #[.int .i64 0, .slice none 0 0, .int .i64 0] 30 (0, 0)) (up_ BK359.out) hg (Kd.S_ne HO_7.out BK359.out (by decide))); have n5_ := Aside0.mk (hb); have n6_ := Aside0.mk (ho); clear HO_8; clear HO_53; clear BK357; clear BK358; clear BK359; clear HB; clear HO_7; clear HO399; have HO_8 := n0_; have HO_53 := n1_; have BK357 := n2_; have BK358 := n3_; have BK359 := n4_; have HB := n5_; have HO403 := n6_; clear n0_ n1_ n2_ n3_ n4_ n5_ n6_; clear ho hb hg hat))
               go_roundg k3
               case measure => have := HJ2.out; have := HK2.out; have := HK3.out; omega
               case rel => exact ⟨(y401), (x8_3), (wrap64 (x55_2 + 1)), rs_, H', ⟨by have := HJ2.out; have := HK2.out; have := HK3.out; omega⟩, ⟨up_ HO403.out⟩, ⟨by (with_reducible repeat (first | apply Kd.R_alloc | apply Kd.R_drewN | apply Kd.R_drew)); exact Kd.R_mono HO_8.out (fun _ hk => trivial)⟩, ⟨by (with_reducible repeat (first | apply Kd.S_alloc | apply Kd.S_drewN | apply Kd.S_drew)); exact Kd.S_mono HO_53.out (fun _ hk => ⟨hk.2, hk.1.1⟩)⟩, ⟨up_ BK357.out⟩, ⟨up_ BK358.out⟩, ⟨up_ BK359.out⟩, ⟨up_ HB.out⟩⟩
              ·rw [if_neg c110] at H
               exact absurd H (by simp)
             ·rw [if_neg c109] at H
              have c109b0 : decide (0 < (y397.length : Int)) = false := decide_eq_false c109
              have c109b1 : decide (0 < y397.length) = false := decide_eq_false (by omega)
              clear c109
              have H' := Aside0.mk H
              clear H
              obtain ⟨Ao117, co117, eo117⟩ := Kd.R_slice HO_8.out
              subst eo117
              go_wp2_with (first | ((with_reducible refine gate_builtin (b := .append) (xs := #[.tmp 91, .tmp 92]) rfl ?_); at_builtin; refine Kd.R_append_rows (Kd.int .i64) (w0 := w) w.heap.size rfl (.tmp 91) (.tmp 92) 25 3 (.int .i64 0) 8 rfl Try.underlying25 info3 rfl (by decide) (by omega) u11 x11_3 x8_3 _ _ _ (fun k_ => some k_ ≠ (.slice Ao117 x8_3.length co117 : Value).ownBlock) (fun _ => False) rfl rfl ?aO ?aR (fun _ _ h => h) (fun _ h => h.elim) ?aF ?aB ?aS ?aL ?_; (case aR => repeat (first | exact (Kd.R_reads' HO_8.out).2.2 | (with_reducible refine Kd.C_alloc ?_ _) | (with_reducible refine Kd.C_drewN ?_ _) | (with_reducible refine Kd.C_drew ?_))); (case aB => exact (up_ HB.out)); (case aF => exact (fun k_ hk => Kd.fresh' (Kd.R_lt (up_ HO_8.out)) k_ hk)); (case aO => exact (up_ HO_11.out)); (case aS => exact (below_size (up_ HB.out))); (case aL => have := LMc107.out; omega); intro v398 w116 ho hb hg hat; rw [← Ny397.out] at ho; have n0_ := Aside0.mk (Kd.S_after (ok := (fun k_ => some k_ ≠ (.slice Ao117 x8_3.length co117 : Value).ownBlock ∧ some k_ ≠ (.slice (some ad382) y379.length co81 : Value).ownBlock)) (by (with_reducible repeat (first | apply Kd.S_alloc | apply Kd.S_drewN | apply Kd.S_drew)); exact Kd.S_mono HO_7.out (fun _ hk => ⟨⟨hk.1, hk.2.2⟩, hk.2.1⟩)) hg hat); have n1_ := Aside0.mk (Kd.R_after (ok := (fun _ => True)) (by (with_reducible repeat (first | apply Kd.R_alloc | apply Kd.R_drewN | apply Kd.R_drew)); exact Kd.R_mono HO_8.out (fun _ hk => ⟨trivial, hk⟩)) hg hat); have n2_ := Aside0.mk (Kd.S_after (ok := (fun k_ => some k_ ≠ (u7 : Value).ownBlock ∧ some k_ ≠ (.slice Ao117 x8_3.length co117 : Value).ownBlock)) (by (with_reducible repeat (first | apply Kd.S_alloc | apply Kd.S_drewN | apply Kd.S_drew)); exact Kd.S_mono HO_53.out (fun _ hk => ⟨⟨hk.1, hk.2.1⟩, hk.2.2⟩)) hg hat); have n3_ := Aside0.mk (blk_grown (g := gb357) (o := .cells #[.int .i64 a0_0, .slice A0_1 l0_1.length c0_1, .int .i64 a0_2] 30 (0, 0)) (up_ BK357.out) hg (Kd.R_ne HO_11.out BK357.out (by decide))); have n4_ := Aside0.mk (blk_grown (g := gb358) (o := .cells #[.slice A1_0 l1_0.length c1_0] 34 (0, 0)) (up_ BK358.out) hg (Kd.R_ne HO_11.out BK358.out (by decide))); have n5_ := Aside0.mk (blk_grown (g := gb359) (o := .cells #[.int .i64 0, .slice none 0 0, .int .i64 0] 30 (0, 0)) (up_ BK359.out) hg (Kd.R_ne HO_11.out BK359.out (by decide))); have n6_ := Aside0.mk (hb); have n7_ := Aside0.mk (ho); clear HO_7; clear HO_8; clear HO_53; clear BK357; clear BK358; clear BK359; clear HB; clear HO_11; have HO_7 := n0_; have HO_8 := n1_; have HO_53 := n2_; have BK357 := n3_; have BK358 := n4_; have BK359 := n5_; have HB := n6_; have HO399 := n7_; clear n0_ n1_ n2_ n3_ n4_ n5_ n6_ n7_; clear ho hb hg hat; obtain ⟨Ao118, co118, eo118⟩ := Kd.R_slice HO399.out; subst eo118) | ((refine gc_ 92 ?_); refine goesL_ (some 95) rfl rfl Try.func92 (by kernel_rfl) rfl #[.slice Ao118 y397.length co118] rfl am_ ?_; (with_reducible refine (slices_Sort_int_int.calls (fun k_ => some k_ = (.slice Ao118 y397.length co118 : Value).ownBlock) (.slice Ao118 y397.length co118) y397 t400 w _ ?side1 ?side2 A108.out).mono ?_); (case side1 => repeat (first | (with_reducible first | exact HB.out | apply below_alloc | apply pw_below_drewN | apply below_drew1 | refine below_set ?_ GE357.out | refine below_set ?_ GE358.out | refine below_set ?_ GE359.out) | exact HB.out)); (case side2 => exact Kd.R_tight rfl HO399.out); rintro e w119 ⟨rfl, hy0, hb, hkp⟩; refine ⟨_, rfl, ?_⟩; replace HO_7 := Aside0.mk (Kd.S_mono (ok' := fun k_ => some k_ ≠ (.slice Ao117 x8_3.length co117 : Value).ownBlock ∧ some k_ ≠ (.slice (some ad382) y379.length co81 : Value).ownBlock ∧ some k_ ≠ (.slice Ao118 y397.length co118 : Value).ownBlock) (Kd.S_keptB (HO_7.out) hkp (fun k_ hk_ hs_ => (hk_.2) hs_)) (fun k_ hk_ => ⟨hk_.1.1.1, hk_.1.1.2, hk_.1.2⟩)); replace HO_8 := Aside0.mk (Kd.R_mono (ok' := fun k_ => some k_ ≠ (.slice Ao118 y397.length co118 : Value).ownBlock) (Kd.R_keptB (HO_8.out) hkp (fun k_ hk_ hs_ => (hk_.2) hs_)) (fun k_ hk_ => hk_.1.2)); replace HO_53 := Aside0.mk (Kd.S_mono (ok' := fun k_ => some k_ ≠ (u7 : Value).ownBlock ∧ some k_ ≠ (.slice Ao117 x8_3.length co117 : Value).ownBlock ∧ some k_ ≠ (.slice Ao118 y397.length co118 : Value).ownBlock) (Kd.S_keptB (HO_53.out) hkp (fun k_ hk_ hs_ => (hk_.2) hs_)) (fun k_ hk_ => ⟨hk_.1.1.1, hk_.1.1.2, hk_.1.2⟩)); replace BK357 := Aside0.mk (blk_kept (up_ BK357.out) hkp (fun hs_ => (fun e_ => (Kd.R_ne HO399.out BK357.out (by decide)) e_) hs_)); replace BK358 := Aside0.mk (blk_kept (up_ BK358.out) hkp (fun hs_ => (fun e_ => (Kd.R_ne HO399.out BK358.out (by decide)) e_) hs_)); replace BK359 := Aside0.mk (blk_kept (up_ BK359.out) hkp (fun hs_ => (fun e_ => (Kd.R_ne HO399.out BK359.out (by decide)) e_) hs_)); replace HO399 := Aside0.mk (Kd.R_reok rfl hy0 (fun k_ e_ => HO399.out.1 k_ e_)); replace HB := Aside0.mk (hb); (try clear hb); (try clear hkp); (try clear hy0)))
              go_roundg k3
              case measure => have := HJ2.out; have := HK2.out; have := HK3.out; omega
              case rel => exact ⟨(x7_2), (x8_3), (wrap64 (x55_2 + 1)), rs_, H', ⟨by have := HJ2.out; have := HK2.out; have := HK3.out; omega⟩, ⟨by (with_reducible repeat (first | apply Kd.S_alloc | apply Kd.S_drewN | apply Kd.S_drew)); exact Kd.S_mono HO_7.out (fun _ hk => ⟨hk.1, hk.2.1⟩)⟩, ⟨by (with_reducible repeat (first | apply Kd.R_alloc | apply Kd.R_drewN | apply Kd.R_drew)); exact Kd.R_mono HO_8.out (fun _ hk => trivial)⟩, ⟨by (with_reducible repeat (first | apply Kd.S_alloc | apply Kd.S_drewN | apply Kd.S_drew)); exact Kd.S_mono HO_53.out (fun _ hk => ⟨hk.1, hk.2.1⟩)⟩, ⟨up_ BK357.out⟩, ⟨up_ BK358.out⟩, ⟨up_ BK359.out⟩, ⟨up_ HB.out⟩⟩
            ·rw [if_neg c107] at H
             exact absurd H (by simp)
           ·replace H := Option.bind_eq_some_iff.mp H
            obtain ⟨t404, A1200, H⟩ := H
            replace H : (if (x11_3.length : Int) > 0 then (if x7_2.length < 5864062014805 then (impl_HearRow.l0 k3 t369 (x7_2 ++ [t404]) x8_3 y379 (y379.length : Int) (wrap64 (x55_2 + 1)) a0_0 l0_1 a0_2 l1_0) else (none)) else (impl_HearRow.l0 k3 t369 x7_2 x8_3 y379 (y379.length : Int) (wrap64 (x55_2 + 1)) a0_0 l0_1 a0_2 l1_0)) = some (r1, r2, r3, r4) := H
            have A120 := Aside0.mk A1200
            clear A1200
            by_cases c121 : (x11_3.length : Int) > 0
            ·rw [if_pos c121] at H
             have c121b0 : decide (0 < (x11_3.length : Int)) = true := decide_eq_true c121
             have c121b1 : decide (0 < x11_3.length) = true := decide_eq_true (by omega)
             clear c121
             by_cases c122 : x7_2.length < 5864062014805
             ·rw [if_pos c122] at H
              have LMc122 := Aside0.mk c122
              clear c122
              obtain ⟨y405, hy405⟩ : ∃ y_ : List (List Int), y_ = (x7_2 ++ [t404]) := ⟨_, rfl⟩
              replace H : (impl_HearRow.l0 k3 t369 y405 x8_3 y379 (y379.length : Int) (wrap64 (x55_2 + 1)) a0_0 l0_1 a0_2 l1_0) = some (r1, r2, r3, r4) := rh_ hy405 H
              have Ny405 := Aside0.mk hy405
              clear hy405
              have H' := Aside0.mk H
              clear H
              obtain ⟨Ao123, co123, eo123⟩ := Kd.R_slice HO_11.out
              subst eo123
              go_wp2_with (first | ((refine gc_ 92 ?_); refine goesL_ (some 95) rfl rfl Try.func92 (by kernel_rfl) rfl #[.slice Ao123 x11_3.length co123] rfl am_ ?_; (with_reducible refine (slices_Sort_int_int.calls (fun k_ => some k_ = (.slice Ao123 x11_3.length co123 : Value).ownBlock) (.slice Ao123 x11_3.length co123) x11_3 t404 w _ ?side1 ?side2 A120.out).mono ?_); (case side1 => repeat (first | (with_reducible first | exact HB.out | apply below_alloc | apply pw_below_drewN | apply below_drew1 | refine below_set ?_ GE357.out | refine below_set ?_ GE358.out | refine below_set ?_ GE359.out) | exact HB.out)); (case side2 => exact Kd.R_tight rfl HO_11.out); rintro e w124 ⟨rfl, hy0, hb, hkp⟩; refine ⟨_, rfl, ?_⟩; replace HO_7 := Aside0.mk (Kd.S_mono (ok' := fun k_ => some k_ ≠ (u8 : Value).ownBlock ∧ some k_ ≠ (.slice Ao123 x11_3.length co123 : Value).ownBlock ∧ some k_ ≠ (.slice (some ad382) y379.length co81 : Value).ownBlock) (Kd.S_keptB (HO_7.out) hkp (fun k_ hk_ hs_ => (hk_.2.1) hs_)) (fun k_ hk_ => ⟨hk_.1.1, hk_.1.2.1, hk_.1.2.2⟩)); replace HO_8 := Aside0.mk (Kd.R_mono (ok' := fun k_ => some k_ ≠ (.slice Ao123 x11_3.length co123 : Value).ownBlock) (Kd.R_keptB (HO_8.out) hkp (fun k_ hk_ hs_ => (hk_) hs_)) (fun k_ hk_ => hk_.1)); replace HO_53 := Aside0.mk (Kd.S_mono (ok' := fun k_ => some k_ ≠ (u7 : Value).ownBlock ∧ some k_ ≠ (u8 : Value).ownBlock ∧ some k_ ≠ (.slice Ao123 x11_3.length co123 : Value).ownBlock) (Kd.S_keptB (HO_53.out) hkp (fun k_ hk_ hs_ => (hk_.2.2) hs_)) (fun k_ hk_ => ⟨hk_.1.1, hk_.1.2.1, hk_.1.2.2⟩)); replace BK357 := Aside0.mk (blk_kept (up_ BK357.out) hkp (fun hs_ => (fun e_ => (Kd.R_ne HO_11.out BK357.out (by decide)) e_) hs_)); replace BK358 := Aside0.mk (blk_kept (up_ BK358.out) hkp (fun hs_ => (fun e_ => (Kd.R_ne HO_11.out BK358.out (by decide)) e_) hs_)); replace BK359 := Aside0.mk (blk_kept (up_ BK359.out) hkp (fun hs_ => (fun e_ => (Kd.R_ne HO_11.out BK359.out (by decide)) e_) hs_)); replace HO_11 := Aside0.mk (Kd.R_reok rfl hy0 (fun k_ e_ => HO_11.out.1 k_ e_)); replace HB := Aside0.mk (hb); (try clear hb); (try clear hkp); (try clear hy0)) | ((with_reducible refine gate_builtin (b := .append) (xs := #[.tmp 99, .tmp 101]) rfl ?_); at_builtin; refine Kd.S_append (Kd.slice 3 (Kd.int .i64)) (w0 := w) w.heap.size rfl (.tmp 99) (.tmp 101) 22 25 (.slice none 0 0) 24 rfl Try.underlying22 info25 rfl (by decide) (by omega) u7 x7_2 t404 [.slice Ao123 x11_3.length co123] (fun k_ => some k_ ≠ (u8 : Value).ownBlock ∧ some k_ ≠ (.slice (some ad382) y379.length co81 : Value).ownBlock) (fun k_ => some k_ = (.slice Ao123 x11_3.length co123 : Value).ownBlock) rfl rfl ?aP (fun k_ hk_ => ((Kd.R_mono (ok' := fun k_ => ((fun k_ => some k_ ≠ (u8 : Value).ownBlock ∧ some k_ ≠ (.slice (some ad382) y379.length co81 : Value).ownBlock)) k_ ∧ some k_ ≠ (u7 : Value).ownBlock) (Kd.R_apart' (Kd.R_apart' (HO_11.out) (Kd.S_typed HO_53.out) (by decide)) (Kd.S_typed HO_7.out) (by decide)) (fun k_ hk => ⟨⟨hk.1.1, hk.1.2⟩, hk.2⟩))).1 k_ hk_.symm) ?aF ?aO ?aB ?aS ?aL ?_; (case aP => exact Kd.M_row (Kd.R_mono (Kd.R_tight rfl (Kd.R_mono (ok' := fun k_ => ((fun k_ => some k_ ≠ (u8 : Value).ownBlock ∧ some k_ ≠ (.slice (some ad382) y379.length co81 : Value).ownBlock)) k_ ∧ some k_ ≠ (u7 : Value).ownBlock) (Kd.R_apart' (Kd.R_apart' (HO_11.out) (Kd.S_typed HO_53.out) (by decide)) (Kd.S_typed HO_7.out) (by decide)) (fun k_ hk => ⟨⟨hk.1.1, hk.1.2⟩, hk.2⟩))) (fun _ h_ => h_))); (case aB => exact (up_ HB.out)); (case aF => exact (fun k_ hk => ⟨Kd.fresh' (Kd.R_lt (up_ HO_8.out)) k_ hk, Kd.fresh' (Kd.S_lt (up_ HO_53.out)) k_ hk⟩)); (case aO => exact (by (with_reducible repeat (first | apply Kd.S_alloc | apply Kd.S_drewN | apply Kd.S_drew)); exact Kd.S_mono HO_7.out (fun k_ hk => ⟨⟨hk.1, hk.2.2⟩, fun e_ => hk.2.1 e_⟩))); (case aS => exact (below_size (up_ HB.out))); (case aL => have := LMc122.out; omega); intro v406 w125 ho hb hg hat; rw [← Ny405.out] at ho; have n0_ := Aside0.mk (Kd.R_over' (up_ HO_8.out) (Kd.S_typed (up_ HO_7.out)) (by decide) hg); have n1_ := Aside0.mk (Kd.S_after (ok := (fun k_ => some k_ ≠ (u8 : Value).ownBlock ∧ some k_ ≠ (.slice Ao123 x11_3.length co123 : Value).ownBlock)) (by (with_reducible repeat (first | apply Kd.S_alloc | apply Kd.S_drewN | apply Kd.S_drew)); exact Kd.S_mono HO_53.out (fun _ hk => ⟨⟨hk.2.1, hk.2.2⟩, hk.1⟩)) hg hat); have n2_ := Aside0.mk (blk_grown (g := gb357) (o := .cells #[.int .i64 a0_0, .slice A0_1 l0_1.length c0_1, .int .i64 a0_2] 30 (0, 0)) (up_ BK357.out) hg (Kd.S_ne HO_7.out BK357.out (by decide))); have n3_ := Aside0.mk (blk_grown (g := gb358) (o := .cells #[.slice A1_0 l1_0.length c1_0] 34 (0, 0)) (up_ BK358.out) hg (Kd.S_ne HO_7.out BK358.out (by decide))); have n4_ := Aside0.mk (blk_grown (g := gb359) (o := .cells #[.int .i64 0, .slice none 0 0, .int .i64 0] 30 (0, 0)) (up_ BK359.out) hg (Kd.S_ne HO_7.out BK359.out (by decide))); have n5_ := Aside0.mk (hb); have n6_ := Aside0.mk (ho); clear HO_8; clear HO_53; clear BK357; clear BK358; clear BK359; clear HB; clear HO_7; clear HO_11; have HO_8 := n0_; have HO_53 := n1_; have BK357 := n2_; have BK358 := n3_; have BK359 := n4_; have HB := n5_; have HO407 := n6_; clear n0_ n1_ n2_ n3_ n4_ n5_ n6_; clear ho hb hg hat))
              go_roundg k3
              case measure => have := HJ2.out; have := HK2.out; have := HK3.out; omega
              case rel => exact ⟨(y405), (x8_3), (wrap64 (x55_2 + 1)), rs_, H', ⟨by have := HJ2.out; have := HK2.out; have := HK3.out; omega⟩, ⟨up_ HO407.out⟩, ⟨by (with_reducible repeat (first | apply Kd.R_alloc | apply Kd.R_drewN | apply Kd.R_drew)); exact Kd.R_mono HO_8.out (fun _ hk => trivial)⟩, ⟨by (with_reducible repeat (first | apply Kd.S_alloc | apply Kd.S_drewN | apply Kd.S_drew)); exact Kd.S_mono HO_53.out (fun _ hk => ⟨hk.2, hk.1.1⟩)⟩, ⟨up_ BK357.out⟩, ⟨up_ BK358.out⟩, ⟨up_ BK359.out⟩, ⟨up_ HB.out⟩⟩
             ·rw [if_neg c122] at H
              exact absurd H (by simp)
            ·rw [if_neg c121] at H
             have c121b0 : decide (0 < (x11_3.length : Int)) = false := decide_eq_false c121
             have c121b1 : decide (0 < x11_3.length) = false := decide_eq_false (by omega)
             clear c121
             have H' := Aside0.mk H
             clear H
             obtain ⟨Ao126, co126, eo126⟩ := Kd.R_slice HO_11.out
             subst eo126
             go_wp2_with (first | ((refine gc_ 92 ?_); refine goesL_ (some 95) rfl rfl Try.func92 (by kernel_rfl) rfl #[.slice Ao126 x11_3.length co126] rfl am_ ?_; (with_reducible refine (slices_Sort_int_int.calls (fun k_ => some k_ = (.slice Ao126 x11_3.length co126 : Value).ownBlock) (.slice Ao126 x11_3.length co126) x11_3 t404 w _ ?side1 ?side2 A120.out).mono ?_); (case side1 => repeat (first | (with_reducible first | exact HB.out | apply below_alloc | apply pw_below_drewN | apply below_drew1 | refine below_set ?_ GE357.out | refine below_set ?_ GE358.out | refine below_set ?_ GE359.out) | exact HB.out)); (case side2 => exact Kd.R_tight rfl HO_11.out); rintro e w127 ⟨rfl, hy0, hb, hkp⟩; refine ⟨_, rfl, ?_⟩; replace HO_7 := Aside0.mk (Kd.S_mono (ok' := fun k_ => some k_ ≠ (u8 : Value).ownBlock ∧ some k_ ≠ (.slice Ao126 x11_3.length co126 : Value).ownBlock ∧ some k_ ≠ (.slice (some ad382) y379.length co81 : Value).ownBlock) (Kd.S_keptB (HO_7.out) hkp (fun k_ hk_ hs_ => (hk_.2.1) hs_)) (fun k_ hk_ => ⟨hk_.1.1, hk_.1.2.1, hk_.1.2.2⟩)); replace HO_8 := Aside0.mk (Kd.R_mono (ok' := fun k_ => some k_ ≠ (.slice Ao126 x11_3.length co126 : Value).ownBlock) (Kd.R_keptB (HO_8.out) hkp (fun k_ hk_ hs_ => (hk_) hs_)) (fun k_ hk_ => hk_.1)); replace HO_53 := Aside0.mk (Kd.S_mono (ok' := fun k_ => some k_ ≠ (u7 : Value).ownBlock ∧ some k_ ≠ (u8 : Value).ownBlock ∧ some k_ ≠ (.slice Ao126 x11_3.length co126 : Value).ownBlock) (Kd.S_keptB (HO_53.out) hkp (fun k_ hk_ hs_ => (hk_.2.2) hs_)) (fun k_ hk_ => ⟨hk_.1.1, hk_.1.2.1, hk_.1.2.2⟩)); replace BK357 := Aside0.mk (blk_kept (up_ BK357.out) hkp (fun hs_ => (fun e_ => (Kd.R_ne HO_11.out BK357.out (by decide)) e_) hs_)); replace BK358 := Aside0.mk (blk_kept (up_ BK358.out) hkp (fun hs_ => (fun e_ => (Kd.R_ne HO_11.out BK358.out (by decide)) e_) hs_)); replace BK359 := Aside0.mk (blk_kept (up_ BK359.out) hkp (fun hs_ => (fun e_ => (Kd.R_ne HO_11.out BK359.out (by decide)) e_) hs_)); replace HO_11 := Aside0.mk (Kd.R_reok rfl hy0 (fun k_ e_ => HO_11.out.1 k_ e_)); replace HB := Aside0.mk (hb); (try clear hb); (try clear hkp); (try clear hy0)))
             go_roundg k3
             case measure => have := HJ2.out; have := HK2.out; have := HK3.out; omega
             case rel => exact ⟨(x7_2), (x8_3), (wrap64 (x55_2 + 1)), rs_, H', ⟨by have := HJ2.out; have := HK2.out; have := HK3.out; omega⟩, ⟨by (with_reducible repeat (first | apply Kd.S_alloc | apply Kd.S_drewN | apply Kd.S_drew)); exact Kd.S_mono HO_7.out (fun _ hk => ⟨hk.1, hk.2.2⟩)⟩, ⟨by (with_reducible repeat (first | apply Kd.R_alloc | apply Kd.R_drewN | apply Kd.R_drew)); exact Kd.R_mono HO_8.out (fun _ hk => trivial)⟩, ⟨by (with_reducible repeat (first | apply Kd.S_alloc | apply Kd.S_drewN | apply Kd.S_drew)); exact Kd.S_mono HO_53.out (fun _ hk => ⟨hk.1, hk.2.1⟩)⟩, ⟨up_ BK357.out⟩, ⟨up_ BK358.out⟩, ⟨up_ BK359.out⟩, ⟨up_ HB.out⟩⟩
       ·simp only [Option.some.injEq, Prod.mk.injEq] at H
        obtain ⟨rfl, rfl, rfl, rfl⟩ := H
        have hnb128 := NB357_358.out
        have hnc128 := NB358_357.out
        have hnb129 := NB357_359.out
        have hnc129 := NB359_357.out
        obtain ⟨hcz130_0, hcz130_1, hcz130_2⟩ := c3_ BK357
        have hfz130_0 := blk_frozen BK357.out 0
        have hfz130_1 := blk_frozen BK357.out 1
        have hfz130_2 := blk_frozen BK357.out 2
        obtain ⟨Ao131, co131, eo131⟩ := Kd.S_slice HO_7.out
        subst eo131
        have hnb132 := NB359_358.out
        have hnc132 := NB358_359.out
        obtain ⟨hcz133_0, hcz133_1, hcz133_2⟩ := c3_ BK359
        have hfz133_0 := blk_frozen BK359.out 0
        have hfz133_1 := blk_frozen BK359.out 1
        have hfz133_2 := blk_frozen BK359.out 2
        go_wp2
        refine bodyPost_ret (results_ct rfl _ _ gb359 30 #[.int .i64 a0_0, .slice Ao131 x7_2.length co131, .int .i64 (wrap64 (a0_2 + 1))] (0, 0) _ rfl (by (with_reducible repeat (first | refine blk_drewN ?_ _ | refine blk_drew ?_ | refine blk_alloc ?_ _)); refine blk_put (cs := #[.int .i64 a0_0, .slice Ao131 x7_2.length co131, .int .i64 0]) ?_ 2 _ rfl; (with_reducible repeat (first | refine blk_drewN ?_ _ | refine blk_drew ?_ | refine blk_alloc ?_ _)); refine blk_put (cs := #[.int .i64 a0_0, .slice none 0 0, .int .i64 0]) ?_ 1 _ rfl; (with_reducible repeat (first | refine blk_drewN ?_ _ | refine blk_drew ?_ | refine blk_alloc ?_ _)); refine blk_put (cs := #[.int .i64 0, .slice none 0 0, .int .i64 0]) ?_ 0 _ rfl; (with_reducible repeat (first | refine blk_drewN ?_ _ | refine blk_drew ?_ | refine blk_alloc ?_ _)); exact BK359.out) Try.underlying30 rfl (by kernel_rfl)) rfl ?_
        exact ⟨_, re_, by (with_reducible repeat (first | apply Kd.S_alloc | apply Kd.S_drewN | apply Kd.S_drew)); exact Kd.S_mono (Kd.S_far (p := ⟨gb359, 2, none⟩) (Kd.S_far (p := ⟨gb359, 1, none⟩) (Kd.S_far (p := ⟨gb359, 0, none⟩) (Kd.S_types HO_7.out BK359.out (by decide)) (fun _ hk => hk.2) (.int .i64 a0_0)) (fun _ hk => hk.2) (.slice Ao131 x7_2.length co131)) (fun _ hk => hk.2) (.int .i64 (wrap64 (a0_2 + 1)))) (fun _ hk => trivial), up_ HB.out⟩
    ·rw [if_neg c70] at H
     exact absurd H (by simp)

end Go.Proofs.Ytkddpilambnicaa.PFnExactHearAll
