/- Walks of Go functions that the law FnExactDifferencesFor uses: written by this session's program out of the kit's printer; each shows that a call comes to the answers of the Lean function beside it. Conditions: each contract's own. -/
import Derived.Test.YtkddpilambnicaaGreatPFnExactDifferencesForx0
import Derived.Test.YtkddpilambnicaaGreatPFnExactDifferencesForx22
import Derived.Test.YtkddpilambnicaaGreatPFnExactDifferencesForx23
namespace Go.Proofs.YtkddpilambnicaaGreat.PFnExactDifferencesFor
open Go.RowKit Go.Proofs.YtkddpilambnicaaGreatW.PrintWords Go.Proofs.YtkddpilambnicaaGreatW.PrintLast Go.Proofs.YtkddpilambnicaaGreatW.PrintMore Go.Proofs.YtkddpilambnicaaGreat.Mac Go.Proofs.YtkddpilambnicaaGreat.Law
attribute [local go_sem] max2_int min2_int max_two min_two max_three min_three max_four min_four   -- for this text's walks alone
set_option linter.unusedVariables false
set_option linter.unusedSimpArgs false

/-! ### laws_eqTableau: function 18 -/
def laws_eqTableau.f (k : Nat) (a0_0 : ByteArray) (l0_1 : List ByteArray) (l0_2 : List (S50)) (l0_3 : List (List Int)) (a1_0 : ByteArray) (l1_1 : List ByteArray) (l1_2 : List (S50)) (l1_3 : List (List Int)) : Option (Bool) := if a0_0.toList = a1_0.toList then ((laws_eqStringS.f k l0_1 l1_1).bind fun t525 => (if t525 = true then ((laws_eqCandidateS.f k l0_2 l1_2).bind fun t526 => (if t526 = true then ((laws_eqIntSS.f k l0_3 l1_3).bind fun t527 => (if t527 = true then (some true) else (some false))) else (some false))) else (some false))) else (some false)
set_option maxHeartbeats 8000000 in
set_option maxRecDepth 100000 in
theorem laws_eqTableau.calls (k : Nat) (a0_0 : ByteArray) (A0_1 : Option Addr) (c0_1 : Nat) (l0_1 : List ByteArray) (A0_2 : Option Addr) (c0_2 : Nat) (l0_2 : List (S50)) (A0_3 : Option Addr) (c0_3 : Nat) (l0_3 : List (List Int)) (a1_0 : ByteArray) (A1_1 : Option Addr) (c1_1 : Nat) (l1_1 : List ByteArray) (A1_2 : Option Addr) (c1_2 : Nat) (l1_2 : List (S50)) (A1_3 : Option Addr) (c1_3 : Nat) (l1_3 : List (List Int)) (r : Bool) (w : World) (hr0_1 : Kd.C Kd.string w A0_1 l0_1.length l0_1) (hc0_1 : l0_1.length ≤ c0_1) (hr0_2 : Kd.C k50 w A0_2 l0_2.length l0_2) (hc0_2 : l0_2.length ≤ c0_2) (hr0_3 : Kd.C (Kd.slice 3 (Kd.int .i64)) w A0_3 l0_3.length l0_3) (hc0_3 : l0_3.length ≤ c0_3) (hr1_1 : Kd.C Kd.string w A1_1 l1_1.length l1_1) (hc1_1 : l1_1.length ≤ c1_1) (hr1_2 : Kd.C k50 w A1_2 l1_2.length l1_2) (hc1_2 : l1_2.length ≤ c1_2) (hr1_3 : Kd.C (Kd.slice 3 (Kd.int .i64)) w A1_3 l1_3.length l1_3) (hc1_3 : l1_3.length ≤ c1_3) (h : laws_eqTableau.f k a0_0 l0_1 l0_2 l0_3 a1_0 l1_1 l1_2 l1_3 = some r) :
  Calls Tryz.prog 18 #[.agg #[.string a0_0, .slice A0_1 l0_1.length c0_1, .slice A0_2 l0_2.length c0_2, .slice A0_3 l0_3.length c0_3], .agg #[.string a1_0, .slice A1_1 l1_1.length c1_1, .slice A1_2 l1_2.length c1_2, .slice A1_3 l1_3.length c1_3]] w fun e w' => e = .returned (.bool r) ∧ Below w.heap.size w w' := by
 have hu38 := Tryz.underlying38
 have HR0_1 := Aside0.mk hr0_1
 have HC0_1 := Aside0.mk hc0_1
 clear hr0_1 hc0_1
 have HR0_2 := Aside0.mk hr0_2
 have HC0_2 := Aside0.mk hc0_2
 clear hr0_2 hc0_2
 have HR0_3 := Aside0.mk hr0_3
 have HC0_3 := Aside0.mk hc0_3
 clear hr0_3 hc0_3
 have HR1_1 := Aside0.mk hr1_1
 have HC1_1 := Aside0.mk hc1_1
 clear hr1_1 hc1_1
 have HR1_2 := Aside0.mk hr1_2
 have HC1_2 := Aside0.mk hc1_2
 clear hr1_2 hc1_2
 have HR1_3 := Aside0.mk hr1_3
 have HC1_3 := Aside0.mk hc1_3
 clear hr1_3 hc1_3
 have HB := Aside0.mk (Below.refl w.heap.size w)
 have H : (if a0_0.toList = a1_0.toList then ((laws_eqStringS.f k l0_1 l1_1).bind fun t525 => (if t525 = true then ((laws_eqCandidateS.f k l0_2 l1_2).bind fun t526 => (if t526 = true then ((laws_eqIntSS.f k l0_3 l1_3).bind fun t527 => (if t527 = true then (some true) else (some false))) else (some false))) else (some false))) else (some false)) = some r := h
 clear h
 replace H := ieq_ H; rcases H with ⟨-, c3b0, c3b1, H⟩ | ⟨c3, c3b0, c3b1, H⟩
 ·replace H := bnd_ H; obtain ⟨t525, A4, H⟩ := H
  replace H := itb_ H; rcases H with ⟨rfl, H⟩ | ⟨rfl, H⟩
  ·replace H := bnd_ H; obtain ⟨t526, A6, H⟩ := H
   replace H := itb_ H; rcases H with ⟨rfl, H⟩ | ⟨rfl, H⟩
   ·replace H := bnd_ H; obtain ⟨t527, A8, H⟩ := H
    replace H := itb_ H; rcases H with ⟨rfl, H⟩ | ⟨rfl, H⟩
    ·obtain rfl := Option.some.inj H
     go_enter Tryz.func18, Tryz.ntmps18
     go_wp2_with (first | ((refine gd_ 2 ?_); refine bx_ 2 #[.string a0_0, .slice A0_1 l0_1.length c0_1, .slice A0_2 l0_2.length c0_2, .slice A0_3 l0_3.length c0_3] 38 ?_; intro gb523 hg w10 hbox hb; have BK523 := Aside0.mk (hbox); have GW523 := gw_ HB hg; have GE523 := gw_ HB hg; replace HB := bs_ HB hb; clear hb hbox hg) | ((refine gd_ 3 ?_); refine bx_ 3 #[.string a1_0, .slice A1_1 l1_1.length c1_1, .slice A1_2 l1_2.length c1_2, .slice A1_3 l1_3.length c1_3] 38 ?_; intro gb524 hg w11 hbox hb; have BK524 := Aside0.mk (hbox); have GW524 := gw_ HB hg; have GE524 := gw_ HB hg; replace HB := bs_ HB hb; have NB523_524 := Aside0.mk ((by rw [hg]; exact Nat.ne_of_lt (blk_lt (g := gb523) (o := .cells #[.string a0_0, .slice A0_1 l0_1.length c0_1, .slice A0_2 l0_2.length c0_2, .slice A0_3 l0_3.length c0_3] 38 (0, 0)) (up_ BK523.out)) : gb523 ≠ gb524)); have NB524_523 := Aside0.mk ((by rw [hg]; exact Nat.ne_of_gt (blk_lt (g := gb523) (o := .cells #[.string a0_0, .slice A0_1 l0_1.length c0_1, .slice A0_2 l0_2.length c0_2, .slice A0_3 l0_3.length c0_3] 38 (0, 0)) (up_ BK523.out)) : gb524 ≠ gb523)); replace BK523 := bb_ BK523 hb; clear hb hbox hg; have hnb12 := NB523_524.out; have hnc12 := NB524_523.out; obtain ⟨hcz13_0, hcz13_1, hcz13_2, hcz13_3⟩ := c4_ BK523; have hfz13_0 := blk_frozen BK523.out 0; have hfz13_1 := blk_frozen BK523.out 1; have hfz13_2 := blk_frozen BK523.out 2; have hfz13_3 := blk_frozen BK523.out 3; obtain ⟨hcz14_0, hcz14_1, hcz14_2, hcz14_3⟩ := c4_ BK524; have hfz14_0 := blk_frozen BK524.out 0; have hfz14_1 := blk_frozen BK524.out 1; have hfz14_2 := blk_frozen BK524.out 2; have hfz14_3 := blk_frozen BK524.out 3) | ((refine gc_ 11 ?_); refine gq_ (some 14) Tryz.func11 (laws_eqStringS.calls k _ _ l0_1 _ _ l1_1 true _ (Kd.C_below HR0_1.out (up_ HB.out)) HC0_1.out (Kd.C_below HR1_1.out (up_ HB.out)) HC1_1.out A4.out) (fun nd => ?_)) | ((refine gc_ 40 ?_); refine gl_ (some 20) Tryz.func40 (laws_eqCandidateS.calls k _ _ l0_2 _ _ l1_2 true _ (Kd.C_below HR0_2.out (up_ HB.out)) HC0_2.out (Kd.C_below HR1_2.out (up_ HB.out)) HC1_2.out A6.out) ?_; rintro e w15 ⟨rfl, hb⟩; refine ⟨_, rfl, ?_⟩; replace BK523 := bb_ BK523 hb; replace BK524 := bb_ BK524 hb; replace HB := bs_ HB hb; (try clear hb); (try clear hb2); (try clear hk); (try clear hi); obtain ⟨hcz16_0, hcz16_1, hcz16_2, hcz16_3⟩ := c4_ BK523; have hfz16_0 := blk_frozen BK523.out 0; have hfz16_1 := blk_frozen BK523.out 1; have hfz16_2 := blk_frozen BK523.out 2; have hfz16_3 := blk_frozen BK523.out 3; obtain ⟨hcz17_0, hcz17_1, hcz17_2, hcz17_3⟩ := c4_ BK524; have hfz17_0 := blk_frozen BK524.out 0; have hfz17_1 := blk_frozen BK524.out 1; have hfz17_2 := blk_frozen BK524.out 2; have hfz17_3 := blk_frozen BK524.out 3) | ((refine gc_ 17 ?_); refine gq_ (some 26) Tryz.func17 (laws_eqIntSS.calls k _ _ l0_3 _ _ l1_3 true _ (Kd.C_below HR0_3.out (up_ HB.out)) HC0_3.out (Kd.C_below HR1_3.out (up_ HB.out)) HC1_3.out A8.out) (fun nd => ?_)))
     go_ret
     exact ⟨re_, up_ HB.out⟩
    ·obtain rfl := Option.some.inj H
     go_enter Tryz.func18, Tryz.ntmps18
     go_wp2_with (first | ((refine gd_ 2 ?_); refine bx_ 2 #[.string a0_0, .slice A0_1 l0_1.length c0_1, .slice A0_2 l0_2.length c0_2, .slice A0_3 l0_3.length c0_3] 38 ?_; intro gb523 hg w18 hbox hb; have BK523 := Aside0.mk (hbox); have GW523 := gw_ HB hg; have GE523 := gw_ HB hg; replace HB := bs_ HB hb; clear hb hbox hg) | ((refine gd_ 3 ?_); refine bx_ 3 #[.string a1_0, .slice A1_1 l1_1.length c1_1, .slice A1_2 l1_2.length c1_2, .slice A1_3 l1_3.length c1_3] 38 ?_; intro gb524 hg w19 hbox hb; have BK524 := Aside0.mk (hbox); have GW524 := gw_ HB hg; have GE524 := gw_ HB hg; replace HB := bs_ HB hb; have NB523_524 := Aside0.mk ((by rw [hg]; exact Nat.ne_of_lt (blk_lt (g := gb523) (o := .cells #[.string a0_0, .slice A0_1 l0_1.length c0_1, .slice A0_2 l0_2.length c0_2, .slice A0_3 l0_3.length c0_3] 38 (0, 0)) (up_ BK523.out)) : gb523 ≠ gb524)); have NB524_523 := Aside0.mk ((by rw [hg]; exact Nat.ne_of_gt (blk_lt (g := gb523) (o := .cells #[.string a0_0, .slice A0_1 l0_1.length c0_1, .slice A0_2 l0_2.length c0_2, .slice A0_3 l0_3.length c0_3] 38 (0, 0)) (up_ BK523.out)) : gb524 ≠ gb523)); replace BK523 := bb_ BK523 hb; clear hb hbox hg; have hnb20 := NB523_524.out; have hnc20 := NB524_523.out; obtain ⟨hcz21_0, hcz21_1, hcz21_2, hcz21_3⟩ := c4_ BK523; have hfz21_0 := blk_frozen BK523.out 0; have hfz21_1 := blk_frozen BK523.out 1; have hfz21_2 := blk_frozen BK523.out 2; have hfz21_3 := blk_frozen BK523.out 3; obtain ⟨hcz22_0, hcz22_1, hcz22_2, hcz22_3⟩ := c4_ BK524; have hfz22_0 := blk_frozen BK524.out 0; have hfz22_1 := blk_frozen BK524.out 1; have hfz22_2 := blk_frozen BK524.out 2; have hfz22_3 := blk_frozen BK524.out 3) | ((refine gc_ 11 ?_); refine gq_ (some 14) Tryz.func11 (laws_eqStringS.calls k _ _ l0_1 _ _ l1_1 true _ (Kd.C_below HR0_1.out (up_ HB.out)) HC0_1.out (Kd.C_below HR1_1.out (up_ HB.out)) HC1_1.out A4.out) (fun nd => ?_)) | ((refine gc_ 40 ?_); refine gl_ (some 20) Tryz.func40 (laws_eqCandidateS.calls k _ _ l0_2 _ _ l1_2 true _ (Kd.C_below HR0_2.out (up_ HB.out)) HC0_2.out (Kd.C_below HR1_2.out (up_ HB.out)) HC1_2.out A6.out) ?_; rintro e w23 ⟨rfl, hb⟩; refine ⟨_, rfl, ?_⟩; replace BK523 := bb_ BK523 hb; replace BK524 := bb_ BK524 hb; replace HB := bs_ HB hb; (try clear hb); (try clear hb2); (try clear hk); (try clear hi); obtain ⟨hcz24_0, hcz24_1, hcz24_2, hcz24_3⟩ := c4_ BK523; have hfz24_0 := blk_frozen BK523.out 0; have hfz24_1 := blk_frozen BK523.out 1; have hfz24_2 := blk_frozen BK523.out 2; have hfz24_3 := blk_frozen BK523.out 3; obtain ⟨hcz25_0, hcz25_1, hcz25_2, hcz25_3⟩ := c4_ BK524; have hfz25_0 := blk_frozen BK524.out 0; have hfz25_1 := blk_frozen BK524.out 1; have hfz25_2 := blk_frozen BK524.out 2; have hfz25_3 := blk_frozen BK524.out 3) | ((refine gc_ 17 ?_); refine gq_ (some 26) Tryz.func17 (laws_eqIntSS.calls k _ _ l0_3 _ _ l1_3 false _ (Kd.C_below HR0_3.out (up_ HB.out)) HC0_3.out (Kd.C_below HR1_3.out (up_ HB.out)) HC1_3.out A8.out) (fun nd => ?_)))
     go_ret
     exact ⟨re_, up_ HB.out⟩
   ·obtain rfl := Option.some.inj H
    go_enter Tryz.func18, Tryz.ntmps18
    go_wp2_with (first | ((refine gd_ 2 ?_); refine bx_ 2 #[.string a0_0, .slice A0_1 l0_1.length c0_1, .slice A0_2 l0_2.length c0_2, .slice A0_3 l0_3.length c0_3] 38 ?_; intro gb523 hg w26 hbox hb; have BK523 := Aside0.mk (hbox); have GW523 := gw_ HB hg; have GE523 := gw_ HB hg; replace HB := bs_ HB hb; clear hb hbox hg) | ((refine gd_ 3 ?_); refine bx_ 3 #[.string a1_0, .slice A1_1 l1_1.length c1_1, .slice A1_2 l1_2.length c1_2, .slice A1_3 l1_3.length c1_3] 38 ?_; intro gb524 hg w27 hbox hb; have BK524 := Aside0.mk (hbox); have GW524 := gw_ HB hg; have GE524 := gw_ HB hg; replace HB := bs_ HB hb; have NB523_524 := Aside0.mk ((by rw [hg]; exact Nat.ne_of_lt (blk_lt (g := gb523) (o := .cells #[.string a0_0, .slice A0_1 l0_1.length c0_1, .slice A0_2 l0_2.length c0_2, .slice A0_3 l0_3.length c0_3] 38 (0, 0)) (up_ BK523.out)) : gb523 ≠ gb524)); have NB524_523 := Aside0.mk ((by rw [hg]; exact Nat.ne_of_gt (blk_lt (g := gb523) (o := .cells #[.string a0_0, .slice A0_1 l0_1.length c0_1, .slice A0_2 l0_2.length c0_2, .slice A0_3 l0_3.length c0_3] 38 (0, 0)) (up_ BK523.out)) : gb524 ≠ gb523)); replace BK523 := bb_ BK523 hb; clear hb hbox hg; have hnb28 := NB523_524.out; have hnc28 := NB524_523.out; obtain ⟨hcz29_0, hcz29_1, hcz29_2, hcz29_3⟩ := c4_ BK523; have hfz29_0 := blk_frozen BK523.out 0; have hfz29_1 := blk_frozen BK523.out 1; have hfz29_2 := blk_frozen BK523.out 2; have hfz29_3 := blk_frozen BK523.out 3; obtain ⟨hcz30_0, hcz30_1, hcz30_2, hcz30_3⟩ := c4_ BK524; have hfz30_0 := blk_frozen BK524.out 0; have hfz30_1 := blk_frozen BK524.out 1; have hfz30_2 := blk_frozen BK524.out 2; have hfz30_3 := blk_frozen BK524.out 3) | ((refine gc_ 11 ?_); refine gq_ (some 14) Tryz.func11 (laws_eqStringS.calls k _ _ l0_1 _ _ l1_1 true _ (Kd.C_below HR0_1.out (up_ HB.out)) HC0_1.out (Kd.C_below HR1_1.out (up_ HB.out)) HC1_1.out A4.out) (fun nd => ?_)) | ((refine gc_ 40 ?_); refine gl_ (some 20) Tryz.func40 (laws_eqCandidateS.calls k _ _ l0_2 _ _ l1_2 false _ (Kd.C_below HR0_2.out (up_ HB.out)) HC0_2.out (Kd.C_below HR1_2.out (up_ HB.out)) HC1_2.out A6.out) ?_; rintro e w31 ⟨rfl, hb⟩; refine ⟨_, rfl, ?_⟩; replace BK523 := bb_ BK523 hb; replace BK524 := bb_ BK524 hb; replace HB := bs_ HB hb; (try clear hb); (try clear hb2); (try clear hk); (try clear hi)))
    go_ret
    exact ⟨re_, up_ HB.out⟩
  ·obtain rfl := Option.some.inj H
   go_enter Tryz.func18, Tryz.ntmps18
   go_wp2_with (first | ((refine gd_ 2 ?_); refine bx_ 2 #[.string a0_0, .slice A0_1 l0_1.length c0_1, .slice A0_2 l0_2.length c0_2, .slice A0_3 l0_3.length c0_3] 38 ?_; intro gb523 hg w32 hbox hb; have BK523 := Aside0.mk (hbox); have GW523 := gw_ HB hg; have GE523 := gw_ HB hg; replace HB := bs_ HB hb; clear hb hbox hg) | ((refine gd_ 3 ?_); refine bx_ 3 #[.string a1_0, .slice A1_1 l1_1.length c1_1, .slice A1_2 l1_2.length c1_2, .slice A1_3 l1_3.length c1_3] 38 ?_; intro gb524 hg w33 hbox hb; have BK524 := Aside0.mk (hbox); have GW524 := gw_ HB hg; have GE524 := gw_ HB hg; replace HB := bs_ HB hb; have NB523_524 := Aside0.mk ((by rw [hg]; exact Nat.ne_of_lt (blk_lt (g := gb523) (o := .cells #[.string a0_0, .slice A0_1 l0_1.length c0_1, .slice A0_2 l0_2.length c0_2, .slice A0_3 l0_3.length c0_3] 38 (0, 0)) (up_ BK523.out)) : gb523 ≠ gb524)); have NB524_523 := Aside0.mk ((by rw [hg]; exact Nat.ne_of_gt (blk_lt (g := gb523) (o := .cells #[.string a0_0, .slice A0_1 l0_1.length c0_1, .slice A0_2 l0_2.length c0_2, .slice A0_3 l0_3.length c0_3] 38 (0, 0)) (up_ BK523.out)) : gb524 ≠ gb523)); replace BK523 := bb_ BK523 hb; clear hb hbox hg; have hnb34 := NB523_524.out; have hnc34 := NB524_523.out; obtain ⟨hcz35_0, hcz35_1, hcz35_2, hcz35_3⟩ := c4_ BK523; have hfz35_0 := blk_frozen BK523.out 0; have hfz35_1 := blk_frozen BK523.out 1; have hfz35_2 := blk_frozen BK523.out 2; have hfz35_3 := blk_frozen BK523.out 3; obtain ⟨hcz36_0, hcz36_1, hcz36_2, hcz36_3⟩ := c4_ BK524; have hfz36_0 := blk_frozen BK524.out 0; have hfz36_1 := blk_frozen BK524.out 1; have hfz36_2 := blk_frozen BK524.out 2; have hfz36_3 := blk_frozen BK524.out 3) | ((refine gc_ 11 ?_); refine gq_ (some 14) Tryz.func11 (laws_eqStringS.calls k _ _ l0_1 _ _ l1_1 false _ (Kd.C_below HR0_1.out (up_ HB.out)) HC0_1.out (Kd.C_below HR1_1.out (up_ HB.out)) HC1_1.out A4.out) (fun nd => ?_)))
   go_ret
   exact ⟨re_, up_ HB.out⟩
 ·obtain rfl := Option.some.inj H
  go_enter Tryz.func18, Tryz.ntmps18
  go_wp2_with (first | ((refine gd_ 2 ?_); refine bx_ 2 #[.string a0_0, .slice A0_1 l0_1.length c0_1, .slice A0_2 l0_2.length c0_2, .slice A0_3 l0_3.length c0_3] 38 ?_; intro gb523 hg w37 hbox hb; have BK523 := Aside0.mk (hbox); have GW523 := gw_ HB hg; have GE523 := gw_ HB hg; replace HB := bs_ HB hb; clear hb hbox hg) | ((refine gd_ 3 ?_); refine bx_ 3 #[.string a1_0, .slice A1_1 l1_1.length c1_1, .slice A1_2 l1_2.length c1_2, .slice A1_3 l1_3.length c1_3] 38 ?_; intro gb524 hg w38 hbox hb; have BK524 := Aside0.mk (hbox); have GW524 := gw_ HB hg; have GE524 := gw_ HB hg; replace HB := bs_ HB hb; have NB523_524 := Aside0.mk ((by rw [hg]; exact Nat.ne_of_lt (blk_lt (g := gb523) (o := .cells #[.string a0_0, .slice A0_1 l0_1.length c0_1, .slice A0_2 l0_2.length c0_2, .slice A0_3 l0_3.length c0_3] 38 (0, 0)) (up_ BK523.out)) : gb523 ≠ gb524)); have NB524_523 := Aside0.mk ((by rw [hg]; exact Nat.ne_of_gt (blk_lt (g := gb523) (o := .cells #[.string a0_0, .slice A0_1 l0_1.length c0_1, .slice A0_2 l0_2.length c0_2, .slice A0_3 l0_3.length c0_3] 38 (0, 0)) (up_ BK523.out)) : gb524 ≠ gb523)); replace BK523 := bb_ BK523 hb; clear hb hbox hg; have hnb39 := NB523_524.out; have hnc39 := NB524_523.out; obtain ⟨hcz40_0, hcz40_1, hcz40_2, hcz40_3⟩ := c4_ BK523; have hfz40_0 := blk_frozen BK523.out 0; have hfz40_1 := blk_frozen BK523.out 1; have hfz40_2 := blk_frozen BK523.out 2; have hfz40_3 := blk_frozen BK523.out 3; obtain ⟨hcz41_0, hcz41_1, hcz41_2, hcz41_3⟩ := c4_ BK524; have hfz41_0 := blk_frozen BK524.out 0; have hfz41_1 := blk_frozen BK524.out 1; have hfz41_2 := blk_frozen BK524.out 2; have hfz41_3 := blk_frozen BK524.out 3))
  go_ret
  exact ⟨re_, up_ HB.out⟩

/-! ### laws_markText: function 66 -/
def laws_markText.l0 : Nat → Int → ByteArray → Option (ByteArray)
 | 0, _, _ => none
 | k + 1, x0, x3 => if x0 > 0 then ((some (([(wrap64 (48 + (Int.tmod x0 10))) % 256] : List Int) : List Int)).bind fun y528 => (if (strOfNums y528).size + x3.size ≤ 9223372036854775807 then (laws_markText.l0 k (wrap64 (Int.tdiv x0 10)) ((strOfNums y528) ++ x3)) else (none))) else (if 1 + x3.size ≤ 9223372036854775807 then (some ((⟨#[109]⟩ : ByteArray) ++ x3)) else (none))
def laws_markText.f (k : Nat) (a0 : Int) : Option (ByteArray) := if a0 ≤ 0 then (some (⟨#[109, 48]⟩ : ByteArray)) else (laws_markText.l0 k a0 (⟨#[]⟩ : ByteArray))
set_option maxHeartbeats 8000000 in
set_option maxRecDepth 100000 in
theorem laws_markText.calls (k : Nat) (a0 : Int) (r : ByteArray) (w : World) (h : laws_markText.f k a0 = some r) :
  Calls Tryz.prog 66 #[.int .i64 a0] w fun e w' => e = .returned (.string r) ∧ Below w.heap.size w w' := by
 have HB := Aside0.mk (Below.refl w.heap.size w)
 have H : (if a0 ≤ 0 then (some (⟨#[109, 48]⟩ : ByteArray)) else (laws_markText.l0 k a0 (⟨#[]⟩ : ByteArray))) = some r := h
 clear h
 replace H := its_ H; rcases H with ⟨c2b0, H⟩ | ⟨c2b0, H⟩
 ·obtain rfl := Option.some.inj H
  go_enter Tryz.func66, Tryz.ntmps66
  go_wp2
  go_ret
  exact ⟨re_, up_ HB.out⟩
 ·have H' := Aside0.mk H
  clear H
  go_enter Tryz.func66, Tryz.ntmps66
  go_wp2
  go_loopg [0, 3] k (fun kq v0 v3 w' => ∃ (x0_1 : Int) (x3_1 : ByteArray), v0 = .int .i64 x0_1 ∧ v3 = .string x3_1 ∧ Aside0 (laws_markText.l0 kq x0_1 x3_1 = some r) ∧ Aside0 (kq ≤ k) ∧ Aside0 (Below w.heap.size w w'))
  case atStart => exact ⟨(a0), ((⟨#[]⟩ : ByteArray)), rs_, rs_, H', ⟨Nat.le_refl _⟩, ⟨up_ HB.out⟩⟩
  case round =>
   clear H'
   try clear c2
   try clear c2b0
   try clear p2
   obtain ⟨x0_1, x3_1, rfl, rfl, HA, HK1, HB⟩ := hrel
   cases gk with
   | zero => exact absurd HA.out (by simp [laws_markText.l0])
   | succ k1 =>
    have H := HA.out
    clear HA
    simp only [laws_markText.l0] at H
    by_cases c3 : x0_1 > 0
    ·rw [if_pos c3] at H
     have c3b0 : decide (0 < x0_1) = true := decide_eq_true c3
     clear c3
     obtain ⟨y528, hy528⟩ : ∃ y_ : List Int, y_ = (([(wrap64 (48 + (Int.tmod x0_1 10))) % 256] : List Int)) := ⟨_, rfl⟩
     replace H : (if (strOfNums y528).size + x3_1.size ≤ 9223372036854775807 then (laws_markText.l0 k1 (wrap64 (Int.tdiv x0_1 10)) ((strOfNums y528) ++ x3_1)) else (none)) = some r := rh_ hy528 H
     have Ny528 := Aside0.mk hy528
     clear hy528
     by_cases c4 : (strOfNums y528).size + x3_1.size ≤ 9223372036854775807
     ·rw [if_pos c4] at H
      have c4b0 := eq_true c4
      have c4b1 : decide ((strOfNums y528).size + x3_1.size ≤ 9223372036854775807) = true := decide_eq_true c4
      try have c4b2 : (9223372036854775807 < (strOfNums y528).size + x3_1.size) = False := eq_false (Nat.not_lt.2 c4)
      have H' := Aside0.mk H
      clear H
      go_wp2_with (first | ((refine gd_ 12 ?_); refine Kd.R_lit (Kd.int .u8) _ 5 ?hg (N := 12) ?hd (xs := ([(wrap64 (48 + (Int.tmod x0_1 10))) % 256] : List Int)) (inner := [.int .u8 ((wrap64 (48 + (Int.tmod x0_1 10))) % 256)]) (ok := fun _ => True) (okp := fun _ => True) ?hr ?hp (fun _ hk => hk) trivial (Below.refl _ _) (Nat.le_refl _) (by simp) ?_; (case hd => rfl); (case hg => rfl); (case hr => first | (go_simp; done) | (go_simp; rfl)); (case hp => exact (Reps.one (show Kd.M (Kd.int .u8) _ _ _ ((wrap64 (48 + (Int.tmod x0_1 10))) % 256) [.int .u8 ((wrap64 (48 + (Int.tmod x0_1 10))) % 256)] from rfl) (Reps.none _ _))); intro v529 w5 ho6 hb hg_ hnew_; clear hg_ hnew_; (first | rw [← Ny528.out] at ho6 | (simp only [Int.reduceToNat] at ho6; rw [← Ny528.out] at ho6)); have HO530 := Aside0.mk (Kd.R_lower ho6 (below_size (up_ HB.out))); replace HB := bs_ HB hb; clear hb ho6; have hcv7 := own_string (P := Tryz.prog) Tryz.underlying98 Tryz.underlying5 Tryz.underlying9 (Kd.own_of_R HO530.out)))
      go_roundg k1
      case measure => have := HK1.out; omega
      case rel => exact ⟨(wrap64 (Int.tdiv x0_1 10)), ((strOfNums y528) ++ x3_1), rs_, rs_, H', ⟨by have := HK1.out; omega⟩, ⟨up_ HB.out⟩⟩
     ·rw [if_neg c4] at H
      exact absurd H (by simp)
    ·rw [if_neg c3] at H
     have c3b0 : decide (0 < x0_1) = false := decide_eq_false c3
     clear c3
     by_cases c8 : 1 + x3_1.size ≤ 9223372036854775807
     ·rw [if_pos c8] at H
      have c8b0 := eq_true c8
      have c8b1 : decide (1 + x3_1.size ≤ 9223372036854775807) = true := decide_eq_true c8
      try have c8b2 : (9223372036854775807 < 1 + x3_1.size) = False := eq_false (Nat.not_lt.2 c8)
      obtain rfl := Option.some.inj H
      go_wp2
      go_ret
      exact ⟨re_, up_ HB.out⟩
     ·rw [if_neg c8] at H
      exact absurd H (by simp)

/-! ### laws_markStringS: function 41 -/
def laws_markStringS.l0 : Nat → List ByteArray → Int → Int → Option (Int × List ByteArray)
 | 0, _, _, _ => none
 | k + 1, x0, x1, x5 => if x5 < (x0.length : Int) then ((laws_markText.f k x1).bind fun t531 => (if 0 ≤ x5 then (laws_markStringS.l0 k (x0.set (x5 : Int).toNat t531) (wrap64 (x1 + 1)) (wrap64 (x5 + 1))) else (none))) else (some (x1, x0))
def laws_markStringS.f (k : Nat) (l0 : List ByteArray) (a1 : Int) : Option (Int × List ByteArray) := laws_markStringS.l0 k l0 a1 0
set_option maxHeartbeats 8000000 in
set_option maxRecDepth 100000 in
theorem laws_markStringS.calls (k : Nat) (P0_ : Nat → Prop) (u9000_ : Value) (l0 : List ByteArray) (a1 : Int) (r1 : Int) (r2 : List ByteArray) (w0 w : World) (hB : Below w0.heap.size w0 w) (ho0 : Kd.R Kd.string 9 w w0.heap.size P0_ u9000_ l0) (h : laws_markStringS.f k l0 a1 = some (r1, r2)) :
  Calls Tryz.prog 41 #[u9000_, .int .i64 a1] w fun e w' => e = .returned (.int .i64 r1) ∧ Kd.R Kd.string 9 w' w0.heap.size (fun k_ => (P0_ k_ ∨ w.heap.size ≤ k_)) u9000_ r2 ∧ Below w0.heap.size w0 w' ∧ Kept w w' (fun k_ => P0_ k_) := by
 have HO0 := Aside0.mk (show Kd.R Kd.string 9 w w0.heap.size (fun k_ => (P0_ k_ ∨ w.heap.size ≤ k_)) u9000_ l0 from Kd.R_mono ho0 (fun k_ hk => (.inl hk)))
 have HK := Aside0.mk (Kept.refl w (fun k_ => P0_ k_))
 have HW0 := Aside0.mk hB.size
 have HB := Aside0.mk hB
 clear hB
 have H : (laws_markStringS.l0 k l0 a1 0) = some (r1, r2) := h
 clear h
 have H' := Aside0.mk H
 clear H
 go_enter Tryz.func41, Tryz.ntmps41
 go_wp2
 go_loopg [1, 5] k (fun kq v1 v5 w' => ∃ (x0_1 : List ByteArray) (x1_1 : Int) (x5_1 : Int), v1 = .int .i64 x1_1 ∧ v5 = .int .i64 x5_1 ∧ Aside0 (laws_markStringS.l0 kq x0_1 x1_1 x5_1 = some (r1, r2)) ∧ Aside0 (kq ≤ k) ∧ Aside0 (Kd.R Kd.string 9 w' w0.heap.size (fun k_ => (P0_ k_ ∨ w.heap.size ≤ k_)) u9000_ x0_1) ∧ Aside0 (Kept w w' (fun k_ => P0_ k_)) ∧ Aside0 (Below w0.heap.size w0 w'))
 case atStart => exact ⟨(l0), (a1), (0), rs_, rs_, H', ⟨Nat.le_refl _⟩, ⟨up_ HO0.out⟩, ⟨by repeat (first | (with_reducible first | exact HK.out | apply Kept.alloc | apply Kept.drewN | apply Kept.drew) | exact HK.out)⟩, ⟨up_ HB.out⟩⟩
 case round =>
  clear H'
  try clear p2
  obtain ⟨x0_1, x1_1, x5_1, rfl, rfl, HA, HK1, HO_0, HK, HB⟩ := hrel
  cases gk with
  | zero => exact absurd HA.out (by simp [laws_markStringS.l0])
  | succ k1 =>
   have H := HA.out
   clear HA
   simp only [laws_markStringS.l0] at H
   replace H := its_ H; rcases H with ⟨c3b0, H⟩ | ⟨c3b0, H⟩
   ·replace H := Option.bind_eq_some_iff.mp H
    obtain ⟨t531, A40, H⟩ := H
    replace H : (if 0 ≤ x5_1 then (laws_markStringS.l0 k1 (x0_1.set (x5_1 : Int).toNat t531) (wrap64 (x1_1 + 1)) (wrap64 (x5_1 + 1))) else (none)) = some (r1, r2) := H
    have A4 := Aside0.mk A40
    clear A40
    replace H := its_ H; rcases H with ⟨c5b0, H⟩ | ⟨_, ⟨⟩⟩
    obtain ⟨y532, hy532⟩ : ∃ y_ : List ByteArray, y_ = (x0_1.set (x5_1 : Int).toNat t531) := ⟨_, rfl⟩
    replace H : (laws_markStringS.l0 k1 y532 (wrap64 (x1_1 + 1)) (wrap64 (x5_1 + 1))) = some (r1, r2) := rh_ hy532 H
    have Ny532 := Aside0.mk hy532
    clear hy532
    have H' := Aside0.mk H
    clear H
    obtain ⟨Ao7, co7, eo7⟩ := Kd.R_slice HO_0.out
    subst eo7
    go_wp2_with (first | ((refine gc_ 66 ?_); refine gl_ (some 15) Tryz.func66 (laws_markText.calls k1 x1_1 t531 _ A4.out) ?_; rintro e w8 ⟨rfl, hb⟩; refine ⟨_, rfl, ?_⟩; replace HO_0 := Aside0.mk (Kd.R_below (up_ HO_0.out) hb); replace HK := Aside0.mk (Kept.below (S := (fun k_ => P0_ k_)) (by repeat (first | (with_reducible first | exact HK.out | apply Kept.alloc | apply Kept.drewN | apply Kept.drew) | exact HK.out)) hb); replace HB := bs_ HB hb; (try clear hb); (try clear hb2); (try clear hk); (try clear hi); have p6 : 0 ≤ (x5_1 : Int) := od_; have q6 : (x5_1 : Int) < ((x0_1.length : Int) : Int) := od_; obtain ⟨go6, co6, eo6, gb6, gl6, cl6, HG6⟩ := Kd.R_form HO_0.out (by omega); (first | cases eo6 | (injection eo6 with ea_ en_ ec_; (first | subst ea_ | (injection ea_ with ea_; subst ea_)); subst ec_; clear en_)); have GB6 := Aside0.mk gb6; have GG6 := Aside0.mk HG6; clear gb6 gl6 HG6; have HMgo6 := Aside0.mk (show (P0_ go6 ∨ w.heap.size ≤ go6) from (HO_0.out.1 _ rfl)); obtain ⟨hx6_0, hf6_0⟩ := Kd.R_celln (⟨#[]⟩ : ByteArray) HO_0.out (x5_1 : Int) p6 q6; replace p6 := eq_true p6; replace q6 := eq_true q6; obtain ⟨hy9_, hz9_⟩ := Kd.R_celln (⟨#[]⟩ : ByteArray) HO_0.out (x5_1 : Int) (od_) (od_); have HP9 := Kd.R_putg HO_0.out (x5_1 : Int) t531) | ((with_reducible refine gate_store (t := 9) (p := 16) rfl ?_); refine store_event (t := 9) (p := 16) (v := ?vo_w10) (w1 := (w8.setCell ⟨go6, (x5_1 : Int).toNat, none⟩ (.string t531))) ?hg ?ho ?hn ?hr ?_; (case ho => rfl); (case hg => rfl); (case hn => rfl); (case hr => first | (go_simp; done) | (go_simp; rfl)); intro w10 hw; have hg : w8.grownBy w10 (some go6) := (by rw [hw]; exact HP9.2); have hp_ : Kd.R Kd.string 9 w10 w0.heap.size (fun k_ => (P0_ k_ ∨ w.heap.size ≤ k_)) (.slice (some ⟨go6, 0, none⟩) x0_1.length co7) y532 := (by rw [hw, Ny532.out]; exact HP9.1); clear HP9; replace HB := Aside0.mk ((by rw [hw]; exact below_set (HB.out) GB6.out : Below w0.heap.size w0 w10)); replace HK := Aside0.mk (Kept.of_grown (S := (fun k_ => P0_ k_)) hg (by repeat (first | (with_reducible first | exact HK.out | apply Kept.alloc | apply Kept.drewN | apply Kept.drew) | exact HK.out)) (fun k_ e_ => (HO_0.out.1 k_ e_))); replace HO_0 := Aside0.mk (hp_); clear hg hw hp_))
    go_roundg k1
    case measure => have := HK1.out; omega
    case rel => exact ⟨(y532), (wrap64 (x1_1 + 1)), (wrap64 (x5_1 + 1)), rs_, rs_, H', ⟨by have := HK1.out; omega⟩, ⟨up_ HO_0.out⟩, ⟨by repeat (first | (with_reducible first | exact HK.out | apply Kept.alloc | apply Kept.drewN | apply Kept.drew) | exact HK.out)⟩, ⟨up_ HB.out⟩⟩
   ·simp only [Option.some.injEq, Prod.mk.injEq] at H
    obtain ⟨rfl, rfl⟩ := H
    obtain ⟨Ao11, co11, eo11⟩ := Kd.R_slice HO_0.out
    subst eo11
    go_wp2
    go_ret
    exact ⟨re_, by (with_reducible repeat (first | apply Kd.R_alloc | apply Kd.R_drewN | apply Kd.R_drew)); exact HO_0.out, up_ HB.out, by repeat (first | (with_reducible first | exact HK.out | apply Kept.alloc | apply Kept.drewN | apply Kept.drew) | exact HK.out)⟩

/-! ### laws_markLinkS: function 67 -/
def laws_markLinkS.l0 : Nat → List (S70) → Int → Int → Option (Int × (List (S70)))
 | 0, _, _, _ => none
 | k + 1, x0, x1, x5 => if x5 < (x0.length : Int) then (if 0 ≤ x5 then ((some (x0.set (x5 : Int).toNat (⟨(x1) % 256, (rd_T70 x0 x5).f1⟩ : S70) : List (S70))).bind fun y533 => (laws_markLinkS.l0 k (y533.set (x5 : Int).toNat (⟨(rd_T70 y533 x5).f0, (wrap64 (x1 + 1)) % 256⟩ : S70)) (wrap64 ((wrap64 (x1 + 1)) + 1)) (wrap64 (x5 + 1)))) else (none)) else (some (x1, x0))
def laws_markLinkS.f (k : Nat) (l0 : List (S70)) (a1 : Int) : Option (Int × (List (S70))) := laws_markLinkS.l0 k l0 a1 0
set_option maxHeartbeats 8000000 in
set_option maxRecDepth 100000 in
theorem laws_markLinkS.calls (k : Nat) (P0_ : Nat → Prop) (u9000_ : Value) (l0 : List (S70)) (a1 : Int) (r1 : Int) (r2 : List (S70)) (w0 w : World) (hB : Below w0.heap.size w0 w) (ho0 : Kd.R k70 70 w w0.heap.size P0_ u9000_ l0) (h : laws_markLinkS.f k l0 a1 = some (r1, r2)) :
  Calls Tryz.prog 67 #[u9000_, .int .i64 a1] w fun e w' => e = .returned (.int .i64 r1) ∧ Kd.R k70 70 w' w0.heap.size (fun k_ => (P0_ k_ ∨ w.heap.size ≤ k_)) u9000_ r2 ∧ Below w0.heap.size w0 w' ∧ Kept w w' (fun k_ => P0_ k_) := by
 have HO0 := Aside0.mk (show Kd.R k70 70 w w0.heap.size (fun k_ => (P0_ k_ ∨ w.heap.size ≤ k_)) u9000_ l0 from Kd.R_mono ho0 (fun k_ hk => (.inl hk)))
 have HK := Aside0.mk (Kept.refl w (fun k_ => P0_ k_))
 have HW0 := Aside0.mk hB.size
 have HB := Aside0.mk hB
 clear hB
 have H : (laws_markLinkS.l0 k l0 a1 0) = some (r1, r2) := h
 clear h
 have H' := Aside0.mk H
 clear H
 go_enter Tryz.func67, Tryz.ntmps67
 go_wp2
 go_loopg [1, 5] k (fun kq v1 v5 w' => ∃ (x0_1 : List (S70)) (x1_1 : Int) (x5_1 : Int), v1 = .int .i64 x1_1 ∧ v5 = .int .i64 x5_1 ∧ Aside0 (laws_markLinkS.l0 kq x0_1 x1_1 x5_1 = some (r1, r2)) ∧ Aside0 (kq ≤ k) ∧ Aside0 (Kd.R k70 70 w' w0.heap.size (fun k_ => (P0_ k_ ∨ w.heap.size ≤ k_)) u9000_ x0_1) ∧ Aside0 (Kept w w' (fun k_ => P0_ k_)) ∧ Aside0 (Below w0.heap.size w0 w'))
 case atStart => exact ⟨(l0), (a1), (0), rs_, rs_, H', ⟨Nat.le_refl _⟩, ⟨up_ HO0.out⟩, ⟨by repeat (first | (with_reducible first | exact HK.out | apply Kept.alloc | apply Kept.drewN | apply Kept.drew) | exact HK.out)⟩, ⟨up_ HB.out⟩⟩
 case round =>
  clear H'
  try clear p2
  obtain ⟨x0_1, x1_1, x5_1, rfl, rfl, HA, HK1, HO_0, HK, HB⟩ := hrel
  cases gk with
  | zero => exact absurd HA.out (by simp [laws_markLinkS.l0])
  | succ k1 =>
   have H := HA.out
   clear HA
   simp only [laws_markLinkS.l0] at H
   replace H := its_ H; rcases H with ⟨c3b0, H⟩ | ⟨c3b0, H⟩
   ·replace H := its_ H; rcases H with ⟨c4b0, H⟩ | ⟨_, ⟨⟩⟩
    obtain ⟨y533, hy533⟩ : ∃ y_ : List (S70), y_ = (x0_1.set (x5_1 : Int).toNat (⟨(x1_1) % 256, (rd_T70 x0_1 x5_1).f1⟩ : S70)) := ⟨_, rfl⟩
    replace H : (laws_markLinkS.l0 k1 (y533.set (x5_1 : Int).toNat (⟨(rd_T70 y533 x5_1).f0, (wrap64 (x1_1 + 1)) % 256⟩ : S70)) (wrap64 ((wrap64 (x1_1 + 1)) + 1)) (wrap64 (x5_1 + 1))) = some (r1, r2) := rh_ hy533 H
    have Ny533 := Aside0.mk hy533
    clear hy533
    obtain ⟨y534, hy534⟩ : ∃ y_ : List (S70), y_ = (y533.set (x5_1 : Int).toNat (⟨(rd_T70 y533 x5_1).f0, (wrap64 (x1_1 + 1)) % 256⟩ : S70)) := ⟨_, rfl⟩
    replace H : (laws_markLinkS.l0 k1 y534 (wrap64 ((wrap64 (x1_1 + 1)) + 1)) (wrap64 (x5_1 + 1))) = some (r1, r2) := rh_ hy534 H
    have Ny534 := Aside0.mk hy534
    clear hy534
    have H' := Aside0.mk H
    clear H
    obtain ⟨Ao7, co7, eo7⟩ := Kd.R_slice HO_0.out
    subst eo7
    have p5 : 0 ≤ (x5_1 : Int) := od_
    have q5 : (x5_1 : Int) < ((x0_1.length : Int) : Int) := od_
    obtain ⟨go5, co5, eo5, gb5, gl5, cl5, HG5⟩ := Kd.R_form HO_0.out (by omega)
    (first | cases eo5 | (injection eo5 with ea_ en_ ec_; (first | subst ea_ | (injection ea_ with ea_; subst ea_)); subst ec_; clear en_))
    have GB5 := Aside0.mk gb5
    have GG5 := Aside0.mk HG5
    clear gb5 gl5 HG5
    have HMgo5 := Aside0.mk (show (P0_ go5 ∨ w.heap.size ≤ go5) from (HO_0.out.1 _ rfl))
    obtain ⟨ce5, hcl5, hM5, hcc5, hfr5⟩ := Kd.R_elem HO_0.out z70 (x5_1 : Int) p5 q5
    obtain rfl := k70_openM hM5
    have hx5_0 : wr.cell? ⟨go5, (x5_1 : Int).toNat * 2, none⟩ = some (.int .u8 ((rd_T70 x0_1 x5_1).f0)) := hcc5 0 _ rfl
    have hx5_1 : wr.cell? ⟨go5, (x5_1 : Int).toNat * 2 + 1, none⟩ = some (.int .u8 ((rd_T70 x0_1 x5_1).f1)) := hcc5 1 _ rfl
    have hf5_0 : wr.frozen? ⟨go5, (x5_1 : Int).toNat * 2, none⟩ = false := hfr5 0
    have hf5_1 : wr.frozen? ⟨go5, (x5_1 : Int).toNat * 2 + 1, none⟩ = false := hfr5 1
    clear hcl5 hcc5 hfr5; (try clear hM5)
    replace p5 := eq_true p5
    replace q5 := eq_true q5
    have HX8 := Aside0.mk (show Kd.R k70 70 wr w0.heap.size (fun k_ => (P0_ k_ ∨ w.heap.size ≤ k_)) (.slice (some ⟨go5, 0, none⟩) x0_1.length co7) x0_1 from (up_ HO_0.out))
    obtain ⟨ce8, hcl8, hM8, hcc8, hfr8⟩ := Kd.R_elem HX8.out z70 (x5_1 : Int) (od_) (by have h_ : (x5_1 : Int) < ((x0_1.length : Int) : Int) := od_; first | exact h_ | (have e_ := (Kd.R_reads' HO_0.out).1; omega) | simpa using h_)
    obtain rfl := k70_openM hM8
    have HP8 := Kd.R_seg HX8.out (x5_1 : Int) (od_) (by have h_ : (x5_1 : Int) < ((x0_1.length : Int) : Int) := od_; first | exact h_ | (have e_ := (Kd.R_reads' HO_0.out).1; omega) | simpa using h_) (seg := [.int .u8 ((x1_1) % 256)]) (j := 0) hcl8 hcc8 (show 1 ≤ 2 from by decide) (x' := (⟨(x1_1) % 256, (rd_T70 x0_1 x5_1).f1⟩ : S70)) (k70_mkM _ _ _ (⟨(x1_1) % 256, (rd_T70 x0_1 x5_1).f1⟩ : S70) ) (fun _ hk => hk)
    have hx8_0 := hcc8 0 _ rfl
    (try simp only [show (k70).sz = 2 from rfl, Nat.mul_one, Nat.add_zero] at hx8_0)
    have hf8_0 := hfr8 0
    (try simp only [show (k70).sz = 2 from rfl, Nat.mul_one, Nat.add_zero] at hf8_0)
    clear hcl8 hcc8 hfr8; (try clear hM8)
    go_wp2_with (first | ((with_reducible refine gate_store (t := 5) (p := 17) rfl ?_); refine store_event (t := 5) (p := 17) (v := ?vo_w9) (w1 := (wr.setCell ⟨go5, (x5_1 : Int).toNat * 2, none⟩ (.int .u8 ((x1_1) % 256)))) ?hg ?ho ?hn ?hr ?_; (case ho => rfl); (case hg => rfl); (case hn => rfl); (case hr => first | (go_simp; done) | (go_simp; rfl)); intro w9 hw; have hg : wr.grownBy w9 (some go5) := (by rw [hw]; exact HP8.2); have hp_ : Kd.R k70 70 w9 w0.heap.size (fun k_ => (P0_ k_ ∨ w.heap.size ≤ k_)) (.slice (some ⟨go5, 0, none⟩) x0_1.length co7) y533 := (by rw [hw, Ny533.out]; exact HP8.1); clear HP8; replace HB := Aside0.mk ((by rw [hw]; exact below_set (HB.out) GB5.out : Below w0.heap.size w0 w9)); replace HK := Aside0.mk (Kept.of_grown (S := (fun k_ => P0_ k_)) hg (by repeat (first | (with_reducible first | exact HK.out | apply Kept.alloc | apply Kept.drewN | apply Kept.drew) | exact HK.out)) (fun k_ e_ => (HO_0.out.1 k_ e_))); replace HO_0 := Aside0.mk (hp_); clear hg hw hp_; have p6 : 0 ≤ (x5_1 : Int) := od_; have q6 : (x5_1 : Int) < ((x0_1.length : Int) : Int) := od_; obtain ⟨ce6, hcl6, hM6, hcc6, hfr6⟩ := Kd.R_elem HO_0.out z70 (x5_1 : Int) p6 q6; obtain rfl := k70_openM hM6; have hx6_0 : w9.cell? ⟨go5, (x5_1 : Int).toNat * 2, none⟩ = some (.int .u8 ((rd_T70 y533 x5_1).f0)) := hcc6 0 _ rfl; have hx6_1 : w9.cell? ⟨go5, (x5_1 : Int).toNat * 2 + 1, none⟩ = some (.int .u8 ((rd_T70 y533 x5_1).f1)) := hcc6 1 _ rfl; have hf6_0 : w9.frozen? ⟨go5, (x5_1 : Int).toNat * 2, none⟩ = false := hfr6 0; have hf6_1 : w9.frozen? ⟨go5, (x5_1 : Int).toNat * 2 + 1, none⟩ = false := hfr6 1; clear hcl6 hcc6 hfr6; (try clear hM6); replace p6 := eq_true p6; replace q6 := eq_true q6; have HX10 := Aside0.mk (show Kd.R k70 70 w9 w0.heap.size (fun k_ => (P0_ k_ ∨ w.heap.size ≤ k_)) (.slice (some ⟨go5, 0, none⟩) x0_1.length co7) y533 from (up_ HO_0.out)); obtain ⟨ce10, hcl10, hM10, hcc10, hfr10⟩ := Kd.R_elem HX10.out z70 (x5_1 : Int) (od_) (by have h_ : (x5_1 : Int) < ((x0_1.length : Int) : Int) := od_; first | exact h_ | (have e_ := (Kd.R_reads' HO_0.out).1; omega) | simpa using h_); obtain rfl := k70_openM hM10; have HP10 := Kd.R_seg HX10.out (x5_1 : Int) (od_) (by have h_ : (x5_1 : Int) < ((x0_1.length : Int) : Int) := od_; first | exact h_ | (have e_ := (Kd.R_reads' HO_0.out).1; omega) | simpa using h_) (seg := [.int .u8 ((wrap64 (x1_1 + 1)) % 256)]) (j := 1) hcl10 hcc10 (show 2 ≤ 2 from by decide) (x' := (⟨(rd_T70 y533 x5_1).f0, (wrap64 (x1_1 + 1)) % 256⟩ : S70)) (k70_mkM _ _ _ (⟨(rd_T70 y533 x5_1).f0, (wrap64 (x1_1 + 1)) % 256⟩ : S70) ) (fun _ hk => hk); have hx10_1 := hcc10 1 _ rfl; (try simp only [show (k70).sz = 2 from rfl, Nat.mul_one, Nat.add_zero] at hx10_1); have hf10_1 := hfr10 1; (try simp only [show (k70).sz = 2 from rfl, Nat.mul_one, Nat.add_zero] at hf10_1); clear hcl10 hcc10 hfr10; (try clear hM10)) | ((with_reducible refine gate_store (t := 5) (p := 25) rfl ?_); refine store_event (t := 5) (p := 25) (v := ?vo_w11) (w1 := (w9.setCell ⟨go5, (x5_1 : Int).toNat * 2 + 1, none⟩ (.int .u8 ((wrap64 (x1_1 + 1)) % 256)))) ?hg ?ho ?hn ?hr ?_; (case ho => rfl); (case hg => rfl); (case hn => rfl); (case hr => first | (go_simp; done) | (go_simp; rfl)); intro w11 hw; have hg : w9.grownBy w11 (some go5) := (by rw [hw]; exact HP10.2); have hp_ : Kd.R k70 70 w11 w0.heap.size (fun k_ => (P0_ k_ ∨ w.heap.size ≤ k_)) (.slice (some ⟨go5, 0, none⟩) x0_1.length co7) y534 := (by rw [hw, Ny534.out]; exact HP10.1); clear HP10; replace HB := Aside0.mk ((by rw [hw]; exact below_set (HB.out) GB5.out : Below w0.heap.size w0 w11)); replace HK := Aside0.mk (Kept.of_grown (S := (fun k_ => P0_ k_)) hg (by repeat (first | (with_reducible first | exact HK.out | apply Kept.alloc | apply Kept.drewN | apply Kept.drew) | exact HK.out)) (fun k_ e_ => (HO_0.out.1 k_ e_))); replace HO_0 := Aside0.mk (hp_); clear hg hw hp_))
    go_roundg k1
    case measure => have := HK1.out; omega
    case rel => exact ⟨(y534), (wrap64 ((wrap64 (x1_1 + 1)) + 1)), (wrap64 (x5_1 + 1)), rs_, rs_, H', ⟨by have := HK1.out; omega⟩, ⟨up_ HO_0.out⟩, ⟨by repeat (first | (with_reducible first | exact HK.out | apply Kept.alloc | apply Kept.drewN | apply Kept.drew) | exact HK.out)⟩, ⟨up_ HB.out⟩⟩
   ·simp only [Option.some.injEq, Prod.mk.injEq] at H
    obtain ⟨rfl, rfl⟩ := H
    obtain ⟨Ao12, co12, eo12⟩ := Kd.R_slice HO_0.out
    subst eo12
    go_wp2
    go_ret
    exact ⟨re_, by (with_reducible repeat (first | apply Kd.R_alloc | apply Kd.R_drewN | apply Kd.R_drew)); exact HO_0.out, up_ HB.out, by repeat (first | (with_reducible first | exact HK.out | apply Kept.alloc | apply Kept.drewN | apply Kept.drew) | exact HK.out)⟩

/-! ### laws_markCandidateS: function 42 -/
def laws_markCandidateS.l0 : Nat → List (S50) → Int → Int → Option (Int × List (S50))
 | 0, _, _, _ => none
 | k + 1, x0, x1, x5 => if x5 < (x0.length : Int) then (if 0 ≤ x5 then ((laws_markLinkS.f k (x0.getD x5.toNat z50).f0 x1).bind fun bt => laws_markCandidateS.l0 k (x0.set x5.toNat ⟨bt.2⟩) bt.1 (wrap64 (x5 + 1))) else none) else some (x1, x0)
def laws_markCandidateS.f (k : Nat) (l0 : List (S50)) (a1 : Int) : Option (Int × List (S50)) := laws_markCandidateS.l0 k l0 a1 0
set_option maxHeartbeats 2000000 in
set_option maxRecDepth 100000 in
theorem laws_markCandidateS.calls (k : Nat) (P0_ : Nat → Prop) (u9000_ : Value) (l0 : List (S50)) (a1 : Int) (r1 : Int) (r2 : List (S50)) (w0 w : World) (hB : Below w0.heap.size w0 w) (ho0 : Kd.S k50 50 w w0.heap.size P0_ u9000_ l0) (h : laws_markCandidateS.f k l0 a1 = some (r1, r2)) :
  Calls Tryz.prog 42 #[u9000_, .int .i64 a1] w fun e w' => e = .returned (.int .i64 r1) ∧ Kd.S k50 50 w' w0.heap.size (fun k_ => (P0_ k_ ∨ w.heap.size ≤ k_)) u9000_ r2 ∧ Below w0.heap.size w0 w' ∧ Kept w w' (fun k_ => P0_ k_) := by
 have H' : laws_markCandidateS.l0 k l0 a1 0 = some (r1, r2) := h
 clear h
 obtain ⟨A, c, rfl⟩ := Kd.S_slice ho0
 generalize hln : l0.length = ln at *
 go_enter Tryz.func42, Tryz.ntmps42
 go_wp2
 go_loopg [1, 5] k (fun kq v1 v5 w' => ∃ (x0_1 : List (S50)) (x1_1 : Int) (x5_1 : Int), v1 = .int .i64 x1_1 ∧ v5 = .int .i64 x5_1 ∧ Aside0 (laws_markCandidateS.l0 kq x0_1 x1_1 x5_1 = some (r1, r2)) ∧ Aside0 (kq ≤ k) ∧ Aside0 (Kd.S k50 50 w' w0.heap.size P0_ (.slice A ln c) x0_1) ∧ Aside0 (Kept w w' (fun k_ => P0_ k_)) ∧ Aside0 (Below w0.heap.size w0 w'))
 case atStart => exact ⟨l0, a1, 0, rfl, rfl, ⟨H'⟩, ⟨Nat.le_refl _⟩, ⟨by (with_reducible repeat (first | apply Kd.S_alloc | apply Kd.S_drewN | apply Kd.S_drew)); exact ho0⟩, ⟨Kept.refl _ _⟩, ⟨hB⟩⟩
 case round =>
  clear H'
  obtain ⟨x0_1, x1_1, x5_1, rfl, rfl, HA, HK1, HS, HK, HB⟩ := hrel
  have hl := Aside0.mk ((Kd.S_reads' HS.out).1)
  cases gk with
  | zero => exact absurd HA.out (by simp [laws_markCandidateS.l0])
  | succ k1 =>
   have H := HA.out
   clear HA
   simp only [laws_markCandidateS.l0] at H
   by_cases c3 : x5_1 < (x0_1.length : Int)
   ·rw [if_pos c3] at H
    have c3b0 : decide (x5_1 < (ln : Int)) = true := decide_eq_true (by have := hl.out; omega)
    by_cases c4 : 0 ≤ x5_1
    ·rw [if_pos c4] at H
     obtain ⟨⟨y1, y2⟩, hm, H⟩ := Option.bind_eq_some_iff.mp H
     obtain ⟨g, cap, hAe, hbase, hg, cells, hcells⟩ := Kd.S_form HS.out (by omega)
     injection hAe with e1 e2 e3
     subst e1
     subst e3
     clear e2
     obtain ⟨oki, cs, hcl, hM, hcc, hoki, hH⟩ := Kd.S_lend HS.out z50 x5_1 c4 (by have := hl.out; omega)
     obtain ⟨y0, hy0⟩ : ∃ y : S50, x0_1.getD x5_1.toNat z50 = y := ⟨_, rfl⟩
     rw [hy0] at hM hm
     clear hy0
     obtain ⟨y0⟩ := y0
     obtain ⟨v, rfl, hR⟩ := hM
     have hcell : wr.cell? ⟨g, x5_1.toNat, none⟩ = some v := by
      have := hcc 0 v rfl
      rw [show k50.sz = 1 from rfl] at this
      simpa using this
     replace hR : Kd.R k70 70 wr w0.heap.size oki v y0 := hR
     obtain ⟨vA, vc, rfl⟩ := Kd.R_slice hR
     have p5 : (0 ≤ x5_1) = True := eq_true c4
     have q5 : (x5_1 < (ln : Int)) = True := eq_true (by have := hl.out; omega)
     have hcall := laws_markLinkS.calls k1 oki _ _ x1_1 y1 y2 w0 wr HB.out hR hm
     clear hcc
     go_wp2_with (go_at_call 67; (with_reducible refine hcall.mono ?_); rintro e w2 ⟨rfl, hR2, hB2, hK2⟩)
     have hR3 : Kd.R k70 70 w2 w0.heap.size oki _ y2 := Kd.R_reok rfl hR2 hR.1
     have hS2 := Kd.H_back (Kd.H_step hH (fun k_ _ hn hlt => hK2.2 k_ hlt hn)) (x' := (⟨y2⟩ : S50)) (okp := oki) ⟨_, rfl, hR3⟩ (fun _ hk => hk)
     go_roundg k1
     case measure => have := HK1.out; omega
     case rel => exact ⟨x0_1.set x5_1.toNat ⟨y2⟩, y1, wrap64 (x5_1 + 1), rfl, (by first | rfl | (simp; done)), ⟨H⟩, ⟨by have := HK1.out; omega⟩, ⟨hS2⟩, ⟨HK.out.then_ hK2 (fun k_ hk => .inl (hoki k_ hk).1)⟩, ⟨hB2⟩⟩
    ·rw [if_neg c4] at H
     exact absurd H (by simp)
   ·rw [if_neg c3] at H
    have c3b0 : decide (x5_1 < (ln : Int)) = false := decide_eq_false (by have := hl.out; omega)
    simp only [Option.some.injEq, Prod.mk.injEq] at H
    obtain ⟨rfl, rfl⟩ := H
    go_wp2
    go_ret
    exact ⟨rfl, Kd.S_mono HS.out (fun _ hk => .inl hk), HB.out, HK.out⟩

/-! ### laws_markIntS: function 24 -/
def laws_markIntS.l0 : Nat → List Int → Int → Int → Option (Int × List Int)
 | 0, _, _, _ => none
 | k + 1, x0, x1, x5 => if x5 < (x0.length : Int) then (if 0 ≤ x5 then (laws_markIntS.l0 k (x0.set (x5 : Int).toNat x1) (wrap64 (x1 + 1)) (wrap64 (x5 + 1))) else (none)) else (some (x1, x0))
def laws_markIntS.f (k : Nat) (l0 : List Int) (a1 : Int) : Option (Int × List Int) := laws_markIntS.l0 k l0 a1 0
set_option maxHeartbeats 8000000 in
set_option maxRecDepth 100000 in
theorem laws_markIntS.calls (k : Nat) (P0_ : Nat → Prop) (u9000_ : Value) (l0 : List Int) (a1 : Int) (r1 : Int) (r2 : List Int) (w0 w : World) (hB : Below w0.heap.size w0 w) (ho0 : Kd.R (Kd.int .i64) 3 w w0.heap.size P0_ u9000_ l0) (h : laws_markIntS.f k l0 a1 = some (r1, r2)) :
  Calls Tryz.prog 24 #[u9000_, .int .i64 a1] w fun e w' => e = .returned (.int .i64 r1) ∧ Kd.R (Kd.int .i64) 3 w' w0.heap.size (fun k_ => (P0_ k_ ∨ w.heap.size ≤ k_)) u9000_ r2 ∧ Below w0.heap.size w0 w' ∧ Kept w w' (fun k_ => P0_ k_) := by
 have HO0 := Aside0.mk (show Kd.R (Kd.int .i64) 3 w w0.heap.size (fun k_ => (P0_ k_ ∨ w.heap.size ≤ k_)) u9000_ l0 from Kd.R_mono ho0 (fun k_ hk => (.inl hk)))
 have HK := Aside0.mk (Kept.refl w (fun k_ => P0_ k_))
 have HW0 := Aside0.mk hB.size
 have HB := Aside0.mk hB
 clear hB
 have H : (laws_markIntS.l0 k l0 a1 0) = some (r1, r2) := h
 clear h
 have H' := Aside0.mk H
 clear H
 go_enter Tryz.func24, Tryz.ntmps24
 go_wp2
 go_loopg [1, 5] k (fun kq v1 v5 w' => ∃ (x0_1 : List Int) (x1_1 : Int) (x5_1 : Int), v1 = .int .i64 x1_1 ∧ v5 = .int .i64 x5_1 ∧ Aside0 (laws_markIntS.l0 kq x0_1 x1_1 x5_1 = some (r1, r2)) ∧ Aside0 (kq ≤ k) ∧ Aside0 (Kd.R (Kd.int .i64) 3 w' w0.heap.size (fun k_ => (P0_ k_ ∨ w.heap.size ≤ k_)) u9000_ x0_1) ∧ Aside0 (Kept w w' (fun k_ => P0_ k_)) ∧ Aside0 (Below w0.heap.size w0 w'))
 case atStart => exact ⟨(l0), (a1), (0), rs_, rs_, H', ⟨Nat.le_refl _⟩, ⟨up_ HO0.out⟩, ⟨by repeat (first | (with_reducible first | exact HK.out | apply Kept.alloc | apply Kept.drewN | apply Kept.drew) | exact HK.out)⟩, ⟨up_ HB.out⟩⟩
 case round =>
  clear H'
  try clear c2
  try clear p2
  obtain ⟨x0_1, x1_1, x5_1, rfl, rfl, HA, HK1, HO_0, HK, HB⟩ := hrel
  cases gk with
  | zero => exact absurd HA.out (by simp [laws_markIntS.l0])
  | succ k1 =>
   have H := HA.out
   clear HA
   simp only [laws_markIntS.l0] at H
   replace H := its_ H; rcases H with ⟨c3b0, H⟩ | ⟨c3b0, H⟩
   ·replace H := its_ H; rcases H with ⟨c4b0, H⟩ | ⟨_, ⟨⟩⟩
    obtain ⟨y535, hy535⟩ : ∃ y_ : List Int, y_ = (x0_1.set (x5_1 : Int).toNat x1_1) := ⟨_, rfl⟩
    replace H : (laws_markIntS.l0 k1 y535 (wrap64 (x1_1 + 1)) (wrap64 (x5_1 + 1))) = some (r1, r2) := rh_ hy535 H
    have Ny535 := Aside0.mk hy535
    clear hy535
    have H' := Aside0.mk H
    clear H
    obtain ⟨Ao6, co6, eo6⟩ := Kd.R_slice HO_0.out
    subst eo6
    have p5 : 0 ≤ (x5_1 : Int) := od_
    have q5 : (x5_1 : Int) < ((x0_1.length : Int) : Int) := od_
    obtain ⟨go5, co5, eo5, gb5, gl5, cl5, HG5⟩ := Kd.R_form HO_0.out (by omega)
    (first | cases eo5 | (injection eo5 with ea_ en_ ec_; (first | subst ea_ | (injection ea_ with ea_; subst ea_)); subst ec_; clear en_))
    have GB5 := Aside0.mk gb5
    have GG5 := Aside0.mk HG5
    clear gb5 gl5 HG5
    have HMgo5 := Aside0.mk (show (P0_ go5 ∨ w.heap.size ≤ go5) from (HO_0.out.1 _ rfl))
    obtain ⟨hx5_0, hf5_0⟩ := Kd.R_celln 0 HO_0.out (x5_1 : Int) p5 q5
    replace p5 := eq_true p5
    replace q5 := eq_true q5
    have HP7 := Kd.R_putg HO_0.out (x5_1 : Int) x1_1
    go_wp2_with (first | ((with_reducible refine gate_store (t := 3) (p := 15) rfl ?_); refine store_event (t := 3) (p := 15) (v := ?vo_w8) (w1 := (wr.setCell ⟨go5, (x5_1 : Int).toNat, none⟩ (.int .i64 x1_1))) ?hg ?ho ?hn ?hr ?_; (case ho => rfl); (case hg => rfl); (case hn => rfl); (case hr => first | (go_simp; done) | (go_simp; rfl)); intro w8 hw; have hg : wr.grownBy w8 (some go5) := (by rw [hw]; exact HP7.2); have hp_ : Kd.R (Kd.int .i64) 3 w8 w0.heap.size (fun k_ => (P0_ k_ ∨ w.heap.size ≤ k_)) (.slice (some ⟨go5, 0, none⟩) x0_1.length co6) y535 := (by rw [hw, Ny535.out]; exact HP7.1); clear HP7; replace HB := Aside0.mk ((by rw [hw]; exact below_set (HB.out) GB5.out : Below w0.heap.size w0 w8)); replace HK := Aside0.mk (Kept.of_grown (S := (fun k_ => P0_ k_)) hg (by repeat (first | (with_reducible first | exact HK.out | apply Kept.alloc | apply Kept.drewN | apply Kept.drew) | exact HK.out)) (fun k_ e_ => (HO_0.out.1 k_ e_))); replace HO_0 := Aside0.mk (hp_); clear hg hw hp_))
    go_roundg k1
    case measure => have := HK1.out; omega
    case rel => exact ⟨(y535), (wrap64 (x1_1 + 1)), (wrap64 (x5_1 + 1)), rs_, rs_, H', ⟨by have := HK1.out; omega⟩, ⟨up_ HO_0.out⟩, ⟨by repeat (first | (with_reducible first | exact HK.out | apply Kept.alloc | apply Kept.drewN | apply Kept.drew) | exact HK.out)⟩, ⟨up_ HB.out⟩⟩
   ·simp only [Option.some.injEq, Prod.mk.injEq] at H
    obtain ⟨rfl, rfl⟩ := H
    obtain ⟨Ao9, co9, eo9⟩ := Kd.R_slice HO_0.out
    subst eo9
    go_wp2
    go_ret
    exact ⟨re_, by (with_reducible repeat (first | apply Kd.R_alloc | apply Kd.R_drewN | apply Kd.R_drew)); exact HO_0.out, up_ HB.out, by repeat (first | (with_reducible first | exact HK.out | apply Kept.alloc | apply Kept.drewN | apply Kept.drew) | exact HK.out)⟩

/-! ### laws_markIntSS: function 20 -/
def laws_markIntSS.l0 : Nat → List (List Int) → Int → Int → Option (Int × List (List Int))
 | 0, _, _, _ => none
 | k + 1, x0, x1, x5 => if x5 < (x0.length : Int) then (if 0 ≤ x5 then ((laws_markIntS.f k (x0.getD x5.toNat []) x1).bind fun bt => laws_markIntSS.l0 k (x0.set x5.toNat bt.2) bt.1 (wrap64 (x5 + 1))) else none) else some (x1, x0)
def laws_markIntSS.f (k : Nat) (l0 : List (List Int)) (a1 : Int) : Option (Int × List (List Int)) := laws_markIntSS.l0 k l0 a1 0
set_option maxHeartbeats 2000000 in
set_option maxRecDepth 100000 in
theorem laws_markIntSS.calls (k : Nat) (P0_ : Nat → Prop) (u9000_ : Value) (l0 : List (List Int)) (a1 : Int) (r1 : Int) (r2 : List (List Int)) (w0 w : World) (hB : Below w0.heap.size w0 w) (ho0 : Kd.S (Kd.slice 3 (Kd.int .i64)) 23 w w0.heap.size P0_ u9000_ l0) (h : laws_markIntSS.f k l0 a1 = some (r1, r2)) :
  Calls Tryz.prog 20 #[u9000_, .int .i64 a1] w fun e w' => e = .returned (.int .i64 r1) ∧ Kd.S (Kd.slice 3 (Kd.int .i64)) 23 w' w0.heap.size (fun k_ => (P0_ k_ ∨ w.heap.size ≤ k_)) u9000_ r2 ∧ Below w0.heap.size w0 w' ∧ Kept w w' (fun k_ => P0_ k_) := by
 have H' : laws_markIntSS.l0 k l0 a1 0 = some (r1, r2) := h
 clear h
 obtain ⟨A, c, rfl⟩ := Kd.S_slice ho0
 generalize hln : l0.length = ln at *
 go_enter Tryz.func20, Tryz.ntmps20
 go_wp2
 go_loopg [1, 5] k (fun kq v1 v5 w' => ∃ (x0_1 : List (List Int)) (x1_1 : Int) (x5_1 : Int), v1 = .int .i64 x1_1 ∧ v5 = .int .i64 x5_1 ∧ Aside0 (laws_markIntSS.l0 kq x0_1 x1_1 x5_1 = some (r1, r2)) ∧ Aside0 (kq ≤ k) ∧ Aside0 (Kd.S (Kd.slice 3 (Kd.int .i64)) 23 w' w0.heap.size P0_ (.slice A ln c) x0_1) ∧ Aside0 (Kept w w' (fun k_ => P0_ k_)) ∧ Aside0 (Below w0.heap.size w0 w'))
 case atStart => exact ⟨l0, a1, 0, rfl, rfl, ⟨H'⟩, ⟨Nat.le_refl _⟩, ⟨by (with_reducible repeat (first | apply Kd.S_alloc | apply Kd.S_drewN | apply Kd.S_drew)); exact ho0⟩, ⟨Kept.refl _ _⟩, ⟨hB⟩⟩
 case round =>
  clear H'
  obtain ⟨x0_1, x1_1, x5_1, rfl, rfl, HA, HK1, HS, HK, HB⟩ := hrel
  have hl := Aside0.mk ((Kd.S_reads' HS.out).1)
  cases gk with
  | zero => exact absurd HA.out (by simp [laws_markIntSS.l0])
  | succ k1 =>
   have H := HA.out
   clear HA
   simp only [laws_markIntSS.l0] at H
   by_cases c3 : x5_1 < (x0_1.length : Int)
   ·rw [if_pos c3] at H
    have c3b0 : decide (x5_1 < (ln : Int)) = true := decide_eq_true (by have := hl.out; omega)
    by_cases c4 : 0 ≤ x5_1
    ·rw [if_pos c4] at H
     obtain ⟨⟨y1, y2⟩, hm, H⟩ := Option.bind_eq_some_iff.mp H
     obtain ⟨g, cap, hAe, hbase, hg, cells, hcells⟩ := Kd.S_form HS.out (by omega)
     injection hAe with e1 e2 e3
     subst e1
     subst e3
     clear e2
     obtain ⟨oki, cs, hcl, hM, hcc, hoki, hH⟩ := Kd.S_lend HS.out ([] : List Int) x5_1 c4 (by have := hl.out; omega)
     obtain ⟨y0, hy0⟩ : ∃ y : List Int, x0_1.getD x5_1.toNat [] = y := ⟨_, rfl⟩
     rw [hy0] at hM hm
     clear hy0
     obtain ⟨v, rfl, hR⟩ := hM
     have hcell : wr.cell? ⟨g, x5_1.toNat, none⟩ = some v := by
      have := hcc 0 v rfl
      rw [show (Kd.slice 3 (Kd.int .i64)).sz = 1 from rfl] at this
      simpa using this
     obtain ⟨vA, vc, rfl⟩ := Kd.R_slice hR
     have p5 : (0 ≤ x5_1) = True := eq_true c4
     have q5 : (x5_1 < (ln : Int)) = True := eq_true (by have := hl.out; omega)
     have hcall := laws_markIntS.calls k1 oki _ _ x1_1 y1 y2 w0 wr HB.out hR hm
     clear hcc
     go_wp2_with (go_at_call 24; (with_reducible refine hcall.mono ?_); rintro e w2 ⟨rfl, hR2, hB2, hK2⟩)
     have hR3 : Kd.R (Kd.int .i64) 3 w2 w0.heap.size oki _ y2 := Kd.R_reok rfl hR2 hR.1
     have hS2 := Kd.H_back (Kd.H_step hH (fun k_ _ hn hlt => hK2.2 k_ hlt hn)) (x' := y2) (okp := oki) ⟨_, rfl, hR3⟩ (fun _ hk => hk)
     go_roundg k1
     case measure => have := HK1.out; omega
     case rel => exact ⟨x0_1.set x5_1.toNat y2, y1, wrap64 (x5_1 + 1), rfl, (by first | rfl | (simp; done)), ⟨H⟩, ⟨by have := HK1.out; omega⟩, ⟨hS2⟩, ⟨HK.out.then_ hK2 (fun k_ hk => .inl (hoki k_ hk).1)⟩, ⟨hB2⟩⟩
    ·rw [if_neg c4] at H
     exact absurd H (by simp)
   ·rw [if_neg c3] at H
    have c3b0 : decide (x5_1 < (ln : Int)) = false := decide_eq_false (by have := hl.out; omega)
    simp only [Option.some.injEq, Prod.mk.injEq] at H
    obtain ⟨rfl, rfl⟩ := H
    go_wp2
    go_ret
    exact ⟨rfl, Kd.S_mono HS.out (fun _ hk => .inl hk), HB.out, HK.out⟩

/-! ### laws_markTableau: function 19 -/
def laws_markTableau.f (k : Nat) (a0_0 : ByteArray) (l0_1 : List ByteArray) (l0_2 : List (S50)) (l0_3 : List (List Int)) (a1 : Int) : Option (Int × List ByteArray × List (S50) × List (List Int)) :=
 (laws_markStringS.f k l0_1 a1).bind fun b1 => (laws_markCandidateS.f k l0_2 b1.1).bind fun b2 => (laws_markIntSS.f k l0_3 b2.1).bind fun b3 => some (b3.1, b1.2, b2.2, b3.2)
set_option maxHeartbeats 4000000 in
set_option maxRecDepth 100000 in
theorem laws_markTableau.calls (k : Nat) (a0_0 : ByteArray) (P0_1_ : Nat → Prop) (u9000_ : Value) (l0_1 : List ByteArray) (P0_2_ : Nat → Prop) (u9001_ : Value) (l0_2 : List (S50)) (P0_3_ : Nat → Prop) (u9002_ : Value) (l0_3 : List (List Int)) (a1 : Int) (r1 : Int) (r2 : List ByteArray) (r3 : List (S50)) (r4 : List (List Int)) (w0 w : World) (hB : Below w0.heap.size w0 w) (ho0_1 : Kd.R Kd.string 9 w w0.heap.size P0_1_ u9000_ l0_1) (ho0_2 : Kd.S k50 50 w w0.heap.size P0_2_ u9001_ l0_2) (ho0_3 : Kd.S (Kd.slice 3 (Kd.int .i64)) 23 w w0.heap.size P0_3_ u9002_ l0_3) (h12 : ∀ k_, P0_1_ k_ → P0_2_ k_ → False) (h13 : ∀ k_, P0_1_ k_ → P0_3_ k_ → False) (h23 : ∀ k_, P0_2_ k_ → P0_3_ k_ → False) (h : laws_markTableau.f k a0_0 l0_1 l0_2 l0_3 a1 = some (r1, r2, r3, r4)) :
  Calls Tryz.prog 19 #[.agg #[.string a0_0, u9000_, u9001_, u9002_], .int .i64 a1] w fun e w' => e = .returned (.int .i64 r1) ∧ Kd.R Kd.string 9 w' w0.heap.size (fun k_ => (P0_1_ k_ ∨ w.heap.size ≤ k_)) u9000_ r2 ∧ Kd.S k50 50 w' w0.heap.size (fun k_ => (P0_2_ k_ ∨ w.heap.size ≤ k_)) u9001_ r3 ∧ Kd.S (Kd.slice 3 (Kd.int .i64)) 23 w' w0.heap.size (fun k_ => (P0_3_ k_ ∨ w.heap.size ≤ k_)) u9002_ r4 ∧ Below w0.heap.size w0 w' ∧ Kept w w' (fun k_ => P0_1_ k_ ∨ P0_2_ k_ ∨ P0_3_ k_) := by
 obtain ⟨⟨n1, s1⟩, E1, h⟩ := Option.bind_eq_some_iff.mp h
 obtain ⟨⟨n2, s2⟩, E2, h⟩ := Option.bind_eq_some_iff.mp h
 obtain ⟨⟨n3, s3⟩, E3, h⟩ := Option.bind_eq_some_iff.mp h
 simp only [Option.some.injEq, Prod.mk.injEq] at h
 obtain ⟨rfl, rfl, rfl, rfl⟩ := h
 have A1 := Aside0.mk E1
 have A2 := Aside0.mk (show laws_markCandidateS.f k l0_2 n1 = some (n2, s2) from E2)
 have A3 := Aside0.mk (show laws_markIntSS.f k l0_3 n2 = some (n3, s3) from E3)
 clear E1 E2 E3
 obtain ⟨Aa, ca, rfl⟩ := Kd.R_slice ho0_1
 obtain ⟨Ab, cb, rfl⟩ := Kd.S_slice ho0_2
 obtain ⟨Ac, cc, rfl⟩ := Kd.S_slice ho0_3
 have HB := Aside0.mk hB
 have HO1 := Aside0.mk (Kd.R_bound ho0_1)
 have HO2 := Aside0.mk (Kd.S_bound ho0_2)
 have HO3 := Aside0.mk (Kd.S_bound ho0_3)
 clear hB ho0_1 ho0_2 ho0_3
 go_enter Tryz.func19, Tryz.ntmps19
 go_wp2_with (first | ((refine gd_ 2 ?_); refine bx_ 2 #[.string a0_0, .slice Aa l0_1.length ca, .slice Ab l0_2.length cb, .slice Ac l0_3.length cc] 38 ?_; intro g hg w1 hbox hb; have HG := Aside0.mk (show w.heap.size ≤ g from by rw [hg]; exact Nat.le_refl _); have HS := Aside0.mk hb; have HB1 := Aside0.mk (below_step HB.out hb); have HP1 := Aside0.mk (Kd.R_below HO1.out hb); have HP2 := Aside0.mk (Kd.S_below HO2.out hb); have HP3 := Aside0.mk (Kd.S_below HO3.out hb); have BK := Aside0.mk hbox; have hc1 : w1.cell? ⟨g, 1, none⟩ = some (.slice Aa l0_1.length ca) := (blk_cell hbox 1).trans rfl; clear HO1 HO2 HO3 HB hbox hb hg) | ((refine gc_ 41 ?_); refine goesL_ (some 8) rfl rfl Tryz.func41 (by kernel_rfl) rfl #[.slice Aa l0_1.length ca, .int .i64 a1] rfl (by (try simp only [List.map_toArray, List.map_cons, List.map_nil]); first | done | rfl) ?_; (with_reducible refine (laws_markStringS.calls k _ _ l0_1 a1 n1 s1 w0 _ HB1.out HP1.out A1.out).mono ?_); rintro e w2 ⟨rfl, hS, hB2, hK⟩; refine ⟨_, rfl, ?_⟩; have HQ1 := Aside0.mk hS; have HR2 := Aside0.mk (Kd.S_kept HP2.out hK (fun k_ h2_ h1_ => h12 k_ h1_.1 h2_.1)); have HR3 := Aside0.mk (Kd.S_kept HP3.out hK (fun k_ h2_ h1_ => h13 k_ h1_.1 h2_.1)); have BK2 := Aside0.mk (blk_kept BK.out hK (fun hP_ => by have := hP_.2.2.1; have := HG.out; omega)); have HK1 := Aside0.mk ((Kept.of_below HS.out (fun k_ => P0_1_ k_ ∨ P0_2_ k_ ∨ P0_3_ k_)).then_ hK (fun k_ hk => .inl (.inl hk.1))); have HB2 := Aside0.mk hB2; have HZ1 := Aside0.mk (below_size HS.out); have HZ2 := Aside0.mk hK.1; have hc2 : w2.cell? ⟨g, 2, none⟩ = some (.slice Ab l0_2.length cb) := (blk_cell BK2.out 2).trans rfl; clear hS hB2 hK HB1 HP1 HP2 HP3 BK HS hc1) | ((refine gc_ 42 ?_); refine goesL_ (some 12) rfl rfl Tryz.func42 (by kernel_rfl) rfl #[.slice Ab l0_2.length cb, .int .i64 n1] rfl (by (try simp only [List.map_toArray, List.map_cons, List.map_nil]); first | done | rfl) ?_; (with_reducible refine (laws_markCandidateS.calls k _ _ l0_2 n1 n2 s2 w0 _ HB2.out HR2.out A2.out).mono ?_); rintro e w3 ⟨rfl, hS, hB2, hK⟩; refine ⟨_, rfl, ?_⟩; have HQ2 := Aside0.mk hS; have HT1 := Aside0.mk (Kd.R_kept HQ1.out hK (fun k_ h1_ h2_ => h1_.elim (fun h1_ => h12 k_ h1_.1 h2_.1) (fun h1_ => by have := h2_.2.2.1; have := HZ1.out; omega))); have HT3 := Aside0.mk (Kd.S_kept HR3.out hK (fun k_ h3_ h2_ => h23 k_ h2_.1 h3_.1)); have BK3 := Aside0.mk (blk_kept BK2.out hK (fun hP_ => by have := hP_.2.2.1; have := HG.out; omega)); have HK2 := Aside0.mk (HK1.out.then_ hK (fun k_ hk => .inl (.inr (.inl hk.1)))); have HB3 := Aside0.mk hB2; have HZ3 := Aside0.mk hK.1; have hc3 : w3.cell? ⟨g, 3, none⟩ = some (.slice Ac l0_3.length cc) := (blk_cell BK3.out 3).trans rfl; clear hS hB2 hK HB2 HQ1 HR2 HR3 BK2 HK1 hc2) | ((refine gc_ 20 ?_); refine goesL_ (some 16) rfl rfl Tryz.func20 (by kernel_rfl) rfl #[.slice Ac l0_3.length cc, .int .i64 n2] rfl (by (try simp only [List.map_toArray, List.map_cons, List.map_nil]); first | done | rfl) ?_; (with_reducible refine (laws_markIntSS.calls k _ _ l0_3 n2 n3 s3 w0 _ HB3.out HT3.out A3.out).mono ?_); rintro e w4 ⟨rfl, hS, hB2, hK⟩; refine ⟨_, rfl, ?_⟩; have HU3 := Aside0.mk hS; have HU1 := Aside0.mk (Kd.R_kept HT1.out hK (fun k_ h1_ h3_ => h1_.elim (fun h1_ => h13 k_ h1_.1 h3_.1) (fun h1_ => by have := h3_.2.2.1; have := HZ1.out; omega))); have HU2 := Aside0.mk (Kd.S_kept HQ2.out hK (fun k_ h2_ h3_ => h2_.elim (fun h2_ => h23 k_ h2_.1 h3_.1) (fun h2_ => by have := h3_.2.2.1; have := HZ1.out; have := HZ2.out; omega))); have HK3 := Aside0.mk (HK2.out.then_ hK (fun k_ hk => .inl (.inr (.inr hk.1)))); have HB4 := Aside0.mk hB2; clear hS hB2 hK HB3 HT1 HT3 BK3 HQ2 HK2 hc3))
 go_ret
 exact ⟨rfl, Kd.R_mono HU1.out (fun k_ hk => hk.imp (fun h => h.1) (fun h => Nat.le_trans HZ1.out h)), Kd.S_mono HU2.out (fun k_ hk => hk.imp (fun h => h.1) (fun h => Nat.le_trans (Nat.le_trans HZ1.out HZ2.out) h)), Kd.S_mono HU3.out (fun k_ hk => hk.imp (fun h => h.1) (fun h => Nat.le_trans (Nat.le_trans (Nat.le_trans HZ1.out HZ2.out) HZ3.out) h)), HB4.out, HK3.out⟩

/-! ### laws_heldIntS: function 25 -/
def laws_heldIntS.l0 : Nat → List Int → Int → Int → Option (Int)
 | 0, _, _, _ => none
 | k + 1, x0, x1, x5 => if x5 < (x0.length : Int) then (if 0 ≤ x5 then (if (rd x0 x5) = x1 then (laws_heldIntS.l0 k x0 (wrap64 (x1 + 1)) (wrap64 (x5 + 1))) else (some (-1))) else (none)) else (some x1)
def laws_heldIntS.f (k : Nat) (l0 : List Int) (a1 : Int) : Option (Int) := laws_heldIntS.l0 k l0 a1 0
set_option maxHeartbeats 8000000 in
set_option maxRecDepth 100000 in
theorem laws_heldIntS.calls (k : Nat) (A0 : Option Addr) (c0 : Nat) (l0 : List Int) (a1 : Int) (r : Int) (w : World) (hr0 : Kd.C (Kd.int .i64) w A0 l0.length l0) (hc0 : l0.length ≤ c0) (h : laws_heldIntS.f k l0 a1 = some r) :
  Calls Tryz.prog 25 #[.slice A0 l0.length c0, .int .i64 a1] w fun e w' => e = .returned (.int .i64 r) ∧ Drawn0 w w' := by
 have HR0 := Aside0.mk hr0
 have HC0 := Aside0.mk hc0
 clear hr0 hc0
 have H : (laws_heldIntS.l0 k l0 a1 0) = some r := h
 clear h
 have H' := Aside0.mk H
 clear H
 go_enter Tryz.func25, Tryz.ntmps25
 go_wp2
 go_loopg [1, 5] k (fun kq v1 v5 w' => ∃ (x1_1 : Int) (x5_1 : Int), v1 = .int .i64 x1_1 ∧ v5 = .int .i64 x5_1 ∧ Aside0 (laws_heldIntS.l0 kq l0 x1_1 x5_1 = some r) ∧ Aside0 (kq ≤ k) ∧ Drawn0 w w')
 case atStart => exact ⟨(a1), (0), rs_, rs_, H', ⟨Nat.le_refl _⟩, dn_⟩
 case round =>
  clear H'
  try clear c2
  try clear p2
  obtain ⟨x1_1, x5_1, rfl, rfl, HA, HK1, ⟨m1, rfl⟩⟩ := hrel
  cases gk with
  | zero => exact absurd HA.out (by simp [laws_heldIntS.l0])
  | succ k1 =>
   have H := HA.out
   clear HA
   simp only [laws_heldIntS.l0] at H
   replace H := its_ H; rcases H with ⟨c3b0, H⟩ | ⟨c3b0, H⟩
   ·replace H := its_ H; rcases H with ⟨c4b0, H⟩ | ⟨_, ⟨⟩⟩
    replace H := ieq_ H; rcases H with ⟨-, c5b0, c5b1, H⟩ | ⟨c5, c5b0, c5b1, H⟩
    ·have H' := Aside0.mk H
     clear H
     have p536 : 0 ≤ (x5_1 : Int) := od_
     have q536 : x5_1 < (l0.length : Int) := od_
     obtain ⟨ad536, e536, hx536_0⟩ := Kd.at_int HR0.out x5_1 p536 q536
     cases e536
     replace p536 := eq_true p536
     replace q536 := eq_true q536
     go_wp2
     go_roundg k1
     case measure => have := HK1.out; omega
     case rel => exact ⟨(wrap64 (x1_1 + 1)), (wrap64 (x5_1 + 1)), rs_, rs_, H', ⟨by have := HK1.out; omega⟩, dn_⟩
    ·obtain rfl := Option.some.inj H
     have p536 : 0 ≤ (x5_1 : Int) := od_
     have q536 : x5_1 < (l0.length : Int) := od_
     obtain ⟨ad536, e536, hx536_0⟩ := Kd.at_int HR0.out x5_1 p536 q536
     cases e536
     replace p536 := eq_true p536
     replace q536 := eq_true q536
     go_wp2
     go_ret
     exact ⟨rs_, dn_⟩
   ·obtain rfl := Option.some.inj H
    go_wp2
    go_ret
    exact ⟨rs_, dn_⟩

end Go.Proofs.YtkddpilambnicaaGreat.PFnExactDifferencesFor
