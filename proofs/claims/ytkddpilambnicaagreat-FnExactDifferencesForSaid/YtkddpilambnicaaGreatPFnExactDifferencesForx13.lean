/- Walks of Go functions that the law FnExactDifferencesFor uses: written by this session's program out of the kit's printer; each shows that a call comes to the answers of the Lean function beside it. Conditions: each contract's own. -/
import Derived.Test.YtkddpilambnicaaGreatPFnExactDifferencesForx0
import Derived.Test.YtkddpilambnicaaGreatPFnExactDifferencesForx12
namespace Go.Proofs.YtkddpilambnicaaGreat.PFnExactDifferencesFor
open Go.RowKit Go.Proofs.YtkddpilambnicaaGreatW.PrintWords Go.Proofs.YtkddpilambnicaaGreatW.PrintLast Go.Proofs.YtkddpilambnicaaGreatW.PrintMore Go.Proofs.YtkddpilambnicaaGreat.Mac Go.Proofs.YtkddpilambnicaaGreat.Law
attribute [local go_sem] max2_int min2_int max_two min_two max_three min_three max_four min_four   -- for this text's walks alone
set_option linter.unusedVariables false
set_option linter.unusedSimpArgs false

/-! ### impl_sounds: function 94 -/
def impl_sounds.l0 : Nat → Bool → List Int → List (S70) → Int → Int → Option (ByteArray)
 | 0, _, _, _, _, _ => none
 | k + 1, x1, x5, x11, x12, x13 => if x13 < x12 then (if 0 ≤ x13 then (if x13 < (x11.length : Int) then (if x1 = true then (if ((rd_T70 x11 x13).f1) = 0 then (impl_sounds.l0 k x1 x5 x11 x12 (wrap64 (x13 + 1))) else (if x5.length < 140737488355328 then (impl_sounds.l0 k x1 (x5 ++ [(rd_T70 x11 x13).f1]) x11 x12 (wrap64 (x13 + 1))) else (none))) else (if ((rd_T70 x11 x13).f0) = 0 then (impl_sounds.l0 k x1 x5 x11 x12 (wrap64 (x13 + 1))) else (if x5.length < 140737488355328 then (impl_sounds.l0 k x1 (x5 ++ [(rd_T70 x11 x13).f0]) x11 x12 (wrap64 (x13 + 1))) else (none)))) else (none)) else (none)) else (some (strOfNums x5))
def impl_sounds.f (k : Nat) (l0_0 : List (S70)) (a1 : Bool) : Option (ByteArray) := impl_sounds.l0 k a1 (([] : List Int)) l0_0 (l0_0.length : Int) 0
set_option maxHeartbeats 8000000 in
set_option maxRecDepth 100000 in
theorem impl_sounds.calls (k : Nat) (A0_0 : Option Addr) (c0_0 : Nat) (l0_0 : List (S70)) (a1 : Bool) (r : ByteArray) (w : World) (hr0_0 : Kd.C k70 w A0_0 l0_0.length l0_0) (hc0_0 : l0_0.length ≤ c0_0) (h : impl_sounds.f k l0_0 a1 = some r) :
  Calls Tryz.prog 94 #[.agg #[.slice A0_0 l0_0.length c0_0], .bool a1] w fun e w' => e = .returned (.string r) ∧ Below w.heap.size w w' := by
 have hu50 := Tryz.underlying50
 have hu70 := Tryz.underlying70
 have HR0_0 := Aside0.mk hr0_0
 have HC0_0 := Aside0.mk hc0_0
 clear hr0_0 hc0_0
 have HB := Aside0.mk (Below.refl w.heap.size w)
 have H : (impl_sounds.l0 k a1 (([] : List Int)) l0_0 (l0_0.length : Int) 0) = some r := h
 clear h
 obtain ⟨y344, hy344⟩ : ∃ y_ : List Int, y_ = (([] : List Int)) := ⟨_, rfl⟩
 replace H : (impl_sounds.l0 k a1 y344 l0_0 (l0_0.length : Int) 0) = some r := rh_ hy344 H
 have Ny344 := Aside0.mk hy344
 clear hy344
 have H' := Aside0.mk H
 clear H
 go_enter Tryz.func94, Tryz.ntmps94
 go_wp2_with (first | ((refine gd_ 2 ?_); refine bx_ 2 #[.slice A0_0 l0_0.length c0_0] 50 ?_; intro gb343 hg w3 hbox hb; have BK343 := Aside0.mk (hbox); have GW343 := gw_ HB hg; have GE343 := gw_ HB hg; replace HB := bs_ HB hb; clear hb hbox hg) | ((refine gd_ 9 ?_); refine Kd.R_lit (Kd.int .u8) _ 5 ?hg (N := 9) ?hd (xs := ([] : List Int)) (inner := []) (ok := fun _ => True) (okp := fun _ => True) ?hr ?hp (fun _ hk => hk) trivial (Below.refl _ _) (Nat.le_refl _) (by simp) ?_; (case hd => rfl); (case hg => rfl); (case hr => first | (go_simp; done) | (go_simp; rfl)); (case hp => exact (Reps.none _ _)); intro v345 w4 ho5 hb hg_ hnew_; clear hg_ hnew_; (first | rw [← Ny344.out] at ho5 | (simp only [Int.reduceToNat] at ho5; rw [← Ny344.out] at ho5)); have HO346 := Aside0.mk (Kd.R_lower ho5 (below_size (up_ HB.out))); replace BK343 := bb_ BK343 hb; replace HB := bs_ HB hb; clear hb ho5; have hcz6_0 := c1_ BK343; have hfz6_0 := blk_frozen BK343.out 0))
 go_loopg [5, 13] k (fun kq v5 v13 w' => ∃ (x5_1 : List Int) (x13_1 : Int), v13 = .int .i64 x13_1 ∧ Aside0 (impl_sounds.l0 kq a1 x5_1 l0_0 (l0_0.length : Int) x13_1 = some r) ∧ Aside0 (kq ≤ k) ∧ Aside0 (Kd.R (Kd.int .u8) 5 w' w.heap.size (fun _ => True) v5 x5_1) ∧ Aside0 (w'.heap[gb343]? = some (.cells #[(.slice A0_0 l0_0.length c0_0)] 50 (0, 0))) ∧ Aside0 (Below w.heap.size w w'))
 case atStart => exact ⟨(y344), (0), rs_, H', ⟨Nat.le_refl _⟩, ⟨up_ HO346.out⟩, ⟨up_ BK343.out⟩, ⟨up_ HB.out⟩⟩
 case round =>
  clear H'
  try clear p2
  try clear hcz6_0
  try clear hfz6_0
  obtain ⟨x5_1, x13_1, rfl, HA, HK1, HO_5, BK343, HB⟩ := hrel
  cases gk with
  | zero => exact absurd HA.out (by simp [impl_sounds.l0])
  | succ k1 =>
   have H := HA.out
   clear HA
   simp only [impl_sounds.l0] at H
   replace H := its_ H; rcases H with ⟨c7b0, H⟩ | ⟨c7b0, H⟩
   ·replace H := its_ H; rcases H with ⟨c8b0, H⟩ | ⟨_, ⟨⟩⟩
    replace H := its_ H; rcases H with ⟨c9b0, H⟩ | ⟨_, ⟨⟩⟩
    replace H := itb_ H; rcases H with ⟨rfl, H⟩ | ⟨rfl, H⟩
    ·replace H := ieq_ H; rcases H with ⟨-, c11b0, c11b1, H⟩ | ⟨c11, c11b0, c11b1, H⟩
     ·have H' := Aside0.mk H
      clear H
      have p347 : 0 ≤ (x13_1 : Int) := od_
      have q347 : x13_1 < (l0_0.length : Int) := od_
      obtain ⟨ad347, e347, hx347_0, hx347_1⟩ := at_T70 HR0_0.out x13_1 p347 q347
      cases e347
      replace hx347_0 := bh_ HB hx347_0
      replace hx347_1 := bh_ HB hx347_1
      replace p347 := eq_true p347
      replace q347 := eq_true q347
      go_wp2_with (first | ((refine gd_ 7 ?_); refine bx_ 7 #[.int .u8 0, .int .u8 0] 70 ?_; intro gb348 hg w12 hbox hb; replace HO_5 := Aside0.mk (Kd.R_below (up_ HO_5.out) hb); have BK348 := Aside0.mk (hbox); have GW348 := gw_ HB hg; have GE348 := gw_ HB hg; replace HB := bs_ HB hb; have NB343_348 := Aside0.mk ((by rw [hg]; exact Nat.ne_of_lt (blk_lt (g := gb343) (o := .cells #[.slice (some ad347) l0_0.length c0_0] 50 (0, 0)) (up_ BK343.out)) : gb343 ≠ gb348)); have NB348_343 := Aside0.mk ((by rw [hg]; exact Nat.ne_of_gt (blk_lt (g := gb343) (o := .cells #[.slice (some ad347) l0_0.length c0_0] 50 (0, 0)) (up_ BK343.out)) : gb348 ≠ gb343)); replace BK343 := bb_ BK343 hb; clear hb hbox hg; have hnb13 := NB348_343.out; have hnc13 := NB343_348.out; obtain ⟨hcz14_0, hcz14_1⟩ := c2_ BK348; have hfz14_0 := blk_frozen BK348.out 0; have hfz14_1 := blk_frozen BK348.out 1))
      go_roundg k1
      case measure => have := HK1.out; omega
      case rel => exact ⟨(x5_1), (wrap64 (x13_1 + 1)), rs_, H', ⟨by have := HK1.out; omega⟩, ⟨by (with_reducible repeat (first | apply Kd.R_alloc | apply Kd.R_drewN | apply Kd.R_drew)); exact Kd.R_mono (Kd.R_far (p := ⟨gb348, 1, none⟩) (Kd.R_far (p := ⟨gb348, 0, none⟩) (Kd.R_types HO_5.out BK348.out (by decide)) (fun _ hk => hk.2) (.int .u8 ((rd_T70 l0_0 x13_1).f0))) (fun _ hk => hk.2) (.int .u8 ((rd_T70 l0_0 x13_1).f1))) (fun _ hk => trivial)⟩, ⟨by (with_reducible repeat (first | refine blk_drewN ?_ _ | refine blk_drew ?_ | refine blk_alloc ?_ _)); refine blk_far ?_ NB343_348.out _; (with_reducible repeat (first | refine blk_drewN ?_ _ | refine blk_drew ?_ | refine blk_alloc ?_ _)); refine blk_far ?_ NB343_348.out _; (with_reducible repeat (first | refine blk_drewN ?_ _ | refine blk_drew ?_ | refine blk_alloc ?_ _)); exact BK343.out⟩, ⟨up_ HB.out⟩⟩
     ·by_cases c15 : x5_1.length < 140737488355328
      ·rw [if_pos c15] at H
       have LMc15 := Aside0.mk c15
       clear c15
       obtain ⟨y349, hy349⟩ : ∃ y_ : List Int, y_ = (x5_1 ++ [(rd_T70 l0_0 x13_1).f1]) := ⟨_, rfl⟩
       replace H : (impl_sounds.l0 k1 true y349 l0_0 (l0_0.length : Int) (wrap64 (x13_1 + 1))) = some r := rh_ hy349 H
       have Ny349 := Aside0.mk hy349
       clear hy349
       have H' := Aside0.mk H
       clear H
       have p347 : 0 ≤ (x13_1 : Int) := od_
       have q347 : x13_1 < (l0_0.length : Int) := od_
       obtain ⟨ad347, e347, hx347_0, hx347_1⟩ := at_T70 HR0_0.out x13_1 p347 q347
       cases e347
       replace hx347_0 := bh_ HB hx347_0
       replace hx347_1 := bh_ HB hx347_1
       replace p347 := eq_true p347
       replace q347 := eq_true q347
       go_wp2_with (first | ((refine gd_ 7 ?_); refine bx_ 7 #[.int .u8 0, .int .u8 0] 70 ?_; intro gb348 hg w16 hbox hb; replace HO_5 := Aside0.mk (Kd.R_below (up_ HO_5.out) hb); have BK348 := Aside0.mk (hbox); have GW348 := gw_ HB hg; have GE348 := gw_ HB hg; replace HB := bs_ HB hb; have NB343_348 := Aside0.mk ((by rw [hg]; exact Nat.ne_of_lt (blk_lt (g := gb343) (o := .cells #[.slice (some ad347) l0_0.length c0_0] 50 (0, 0)) (up_ BK343.out)) : gb343 ≠ gb348)); have NB348_343 := Aside0.mk ((by rw [hg]; exact Nat.ne_of_gt (blk_lt (g := gb343) (o := .cells #[.slice (some ad347) l0_0.length c0_0] 50 (0, 0)) (up_ BK343.out)) : gb348 ≠ gb343)); replace BK343 := bb_ BK343 hb; clear hb hbox hg; have hnb17 := NB348_343.out; have hnc17 := NB343_348.out; obtain ⟨hcz18_0, hcz18_1⟩ := c2_ BK348; have hfz18_0 := blk_frozen BK348.out 0; have hfz18_1 := blk_frozen BK348.out 1) | ((with_reducible refine gate_builtin (b := .append) (xs := #[.tmp 24, .tmp 26]) rfl ?_); at_builtin; refine Kd.R_append (Kd.int .u8) (w0 := w) w.heap.size rfl (.tmp 24) (.tmp 26) 98 5 (.int .u8 0) 1 rfl Tryz.underlying98 info5 rfl (by decide) (by omega) u5 x5_1 ((rd_T70 l0_0 x13_1).f1) [.int .u8 ((rd_T70 l0_0 x13_1).f1)] (fun _ => True) (fun _ => False) rfl (by first | (go_simp; done) | (go_simp; rfl)) ?aP (fun _ hk => hk.elim) ?aF ?aO ?aB ?aS ?aL ?_; (case aP => exact rfl); (case aB => exact (up_ HB.out)); (case aF => exact (fun _ _ => trivial)); (case aO => exact (by (with_reducible repeat (first | apply Kd.R_alloc | apply Kd.R_drewN | apply Kd.R_drew)); exact Kd.R_mono (Kd.R_far (p := ⟨gb348, 1, none⟩) (Kd.R_far (p := ⟨gb348, 0, none⟩) (Kd.R_types HO_5.out BK348.out (by decide)) (fun _ hk => hk.2) (.int .u8 ((rd_T70 l0_0 x13_1).f0))) (fun _ hk => hk.2) (.int .u8 ((rd_T70 l0_0 x13_1).f1))) (fun _ hk => trivial))); (case aS => exact (below_size (up_ HB.out))); (case aL => have := LMc15.out; omega); intro v350 w19 ho hb hg hat; rw [← Ny349.out] at ho; have n0_ := Aside0.mk (blk_grown (g := gb343) (o := .cells #[.slice (some ad347) l0_0.length c0_0] 50 (0, 0)) (by (with_reducible repeat (first | refine blk_drewN ?_ _ | refine blk_drew ?_ | refine blk_alloc ?_ _)); refine blk_far ?_ NB343_348.out _; (with_reducible repeat (first | refine blk_drewN ?_ _ | refine blk_drew ?_ | refine blk_alloc ?_ _)); refine blk_far ?_ NB343_348.out _; (with_reducible repeat (first | refine blk_drewN ?_ _ | refine blk_drew ?_ | refine blk_alloc ?_ _)); exact BK343.out) hg (Kd.R_ne HO_5.out BK343.out (by decide))); have n1_ := Aside0.mk (blk_grown (g := gb348) (o := .cells #[.int .u8 ((rd_T70 l0_0 x13_1).f0), .int .u8 ((rd_T70 l0_0 x13_1).f1)] 70 (0, 0)) (by (with_reducible repeat (first | refine blk_drewN ?_ _ | refine blk_drew ?_ | refine blk_alloc ?_ _)); refine blk_put (cs := #[.int .u8 ((rd_T70 l0_0 x13_1).f0), .int .u8 0]) ?_ 1 _ rfl; (with_reducible repeat (first | refine blk_drewN ?_ _ | refine blk_drew ?_ | refine blk_alloc ?_ _)); refine blk_put (cs := #[.int .u8 0, .int .u8 0]) ?_ 0 _ rfl; (with_reducible repeat (first | refine blk_drewN ?_ _ | refine blk_drew ?_ | refine blk_alloc ?_ _)); exact BK348.out) hg (Kd.R_ne HO_5.out BK348.out (by decide))); have n2_ := Aside0.mk (hb); have n3_ := Aside0.mk (ho); clear BK343; clear BK348; clear HB; clear HO_5; have BK343 := n0_; have BK348 := n1_; have HB := n2_; have HO351 := n3_; clear n0_ n1_ n2_ n3_; clear ho hb hg hat))
       go_roundg k1
       case measure => have := HK1.out; omega
       case rel => exact ⟨(y349), (wrap64 (x13_1 + 1)), rs_, H', ⟨by have := HK1.out; omega⟩, ⟨up_ HO351.out⟩, ⟨up_ BK343.out⟩, ⟨up_ HB.out⟩⟩
      ·rw [if_neg c15] at H
       exact absurd H (by simp)
    ·replace H := ieq_ H; rcases H with ⟨-, c20b0, c20b1, H⟩ | ⟨c20, c20b0, c20b1, H⟩
     ·have H' := Aside0.mk H
      clear H
      have p347 : 0 ≤ (x13_1 : Int) := od_
      have q347 : x13_1 < (l0_0.length : Int) := od_
      obtain ⟨ad347, e347, hx347_0, hx347_1⟩ := at_T70 HR0_0.out x13_1 p347 q347
      cases e347
      replace hx347_0 := bh_ HB hx347_0
      replace hx347_1 := bh_ HB hx347_1
      replace p347 := eq_true p347
      replace q347 := eq_true q347
      go_wp2_with (first | ((refine gd_ 7 ?_); refine bx_ 7 #[.int .u8 0, .int .u8 0] 70 ?_; intro gb348 hg w21 hbox hb; replace HO_5 := Aside0.mk (Kd.R_below (up_ HO_5.out) hb); have BK348 := Aside0.mk (hbox); have GW348 := gw_ HB hg; have GE348 := gw_ HB hg; replace HB := bs_ HB hb; have NB343_348 := Aside0.mk ((by rw [hg]; exact Nat.ne_of_lt (blk_lt (g := gb343) (o := .cells #[.slice (some ad347) l0_0.length c0_0] 50 (0, 0)) (up_ BK343.out)) : gb343 ≠ gb348)); have NB348_343 := Aside0.mk ((by rw [hg]; exact Nat.ne_of_gt (blk_lt (g := gb343) (o := .cells #[.slice (some ad347) l0_0.length c0_0] 50 (0, 0)) (up_ BK343.out)) : gb348 ≠ gb343)); replace BK343 := bb_ BK343 hb; clear hb hbox hg; have hnb22 := NB348_343.out; have hnc22 := NB343_348.out; obtain ⟨hcz23_0, hcz23_1⟩ := c2_ BK348; have hfz23_0 := blk_frozen BK348.out 0; have hfz23_1 := blk_frozen BK348.out 1))
      go_roundg k1
      case measure => have := HK1.out; omega
      case rel => exact ⟨(x5_1), (wrap64 (x13_1 + 1)), rs_, H', ⟨by have := HK1.out; omega⟩, ⟨by (with_reducible repeat (first | apply Kd.R_alloc | apply Kd.R_drewN | apply Kd.R_drew)); exact Kd.R_mono (Kd.R_far (p := ⟨gb348, 1, none⟩) (Kd.R_far (p := ⟨gb348, 0, none⟩) (Kd.R_types HO_5.out BK348.out (by decide)) (fun _ hk => hk.2) (.int .u8 ((rd_T70 l0_0 x13_1).f0))) (fun _ hk => hk.2) (.int .u8 ((rd_T70 l0_0 x13_1).f1))) (fun _ hk => trivial)⟩, ⟨by (with_reducible repeat (first | refine blk_drewN ?_ _ | refine blk_drew ?_ | refine blk_alloc ?_ _)); refine blk_far ?_ NB343_348.out _; (with_reducible repeat (first | refine blk_drewN ?_ _ | refine blk_drew ?_ | refine blk_alloc ?_ _)); refine blk_far ?_ NB343_348.out _; (with_reducible repeat (first | refine blk_drewN ?_ _ | refine blk_drew ?_ | refine blk_alloc ?_ _)); exact BK343.out⟩, ⟨up_ HB.out⟩⟩
     ·by_cases c24 : x5_1.length < 140737488355328
      ·rw [if_pos c24] at H
       have LMc24 := Aside0.mk c24
       clear c24
       obtain ⟨y352, hy352⟩ : ∃ y_ : List Int, y_ = (x5_1 ++ [(rd_T70 l0_0 x13_1).f0]) := ⟨_, rfl⟩
       replace H : (impl_sounds.l0 k1 false y352 l0_0 (l0_0.length : Int) (wrap64 (x13_1 + 1))) = some r := rh_ hy352 H
       have Ny352 := Aside0.mk hy352
       clear hy352
       have H' := Aside0.mk H
       clear H
       have p347 : 0 ≤ (x13_1 : Int) := od_
       have q347 : x13_1 < (l0_0.length : Int) := od_
       obtain ⟨ad347, e347, hx347_0, hx347_1⟩ := at_T70 HR0_0.out x13_1 p347 q347
       cases e347
       replace hx347_0 := bh_ HB hx347_0
       replace hx347_1 := bh_ HB hx347_1
       replace p347 := eq_true p347
       replace q347 := eq_true q347
       go_wp2_with (first | ((refine gd_ 7 ?_); refine bx_ 7 #[.int .u8 0, .int .u8 0] 70 ?_; intro gb348 hg w25 hbox hb; replace HO_5 := Aside0.mk (Kd.R_below (up_ HO_5.out) hb); have BK348 := Aside0.mk (hbox); have GW348 := gw_ HB hg; have GE348 := gw_ HB hg; replace HB := bs_ HB hb; have NB343_348 := Aside0.mk ((by rw [hg]; exact Nat.ne_of_lt (blk_lt (g := gb343) (o := .cells #[.slice (some ad347) l0_0.length c0_0] 50 (0, 0)) (up_ BK343.out)) : gb343 ≠ gb348)); have NB348_343 := Aside0.mk ((by rw [hg]; exact Nat.ne_of_gt (blk_lt (g := gb343) (o := .cells #[.slice (some ad347) l0_0.length c0_0] 50 (0, 0)) (up_ BK343.out)) : gb348 ≠ gb343)); replace BK343 := bb_ BK343 hb; clear hb hbox hg; have hnb26 := NB348_343.out; have hnc26 := NB343_348.out; obtain ⟨hcz27_0, hcz27_1⟩ := c2_ BK348; have hfz27_0 := blk_frozen BK348.out 0; have hfz27_1 := blk_frozen BK348.out 1) | ((with_reducible refine gate_builtin (b := .append) (xs := #[.tmp 24, .tmp 26]) rfl ?_); at_builtin; refine Kd.R_append (Kd.int .u8) (w0 := w) w.heap.size rfl (.tmp 24) (.tmp 26) 98 5 (.int .u8 0) 1 rfl Tryz.underlying98 info5 rfl (by decide) (by omega) u5 x5_1 ((rd_T70 l0_0 x13_1).f0) [.int .u8 ((rd_T70 l0_0 x13_1).f0)] (fun _ => True) (fun _ => False) rfl (by first | (go_simp; done) | (go_simp; rfl)) ?aP (fun _ hk => hk.elim) ?aF ?aO ?aB ?aS ?aL ?_; (case aP => exact rfl); (case aB => exact (up_ HB.out)); (case aF => exact (fun _ _ => trivial)); (case aO => exact (by (with_reducible repeat (first | apply Kd.R_alloc | apply Kd.R_drewN | apply Kd.R_drew)); exact Kd.R_mono (Kd.R_far (p := ⟨gb348, 1, none⟩) (Kd.R_far (p := ⟨gb348, 0, none⟩) (Kd.R_types HO_5.out BK348.out (by decide)) (fun _ hk => hk.2) (.int .u8 ((rd_T70 l0_0 x13_1).f0))) (fun _ hk => hk.2) (.int .u8 ((rd_T70 l0_0 x13_1).f1))) (fun _ hk => trivial))); (case aS => exact (below_size (up_ HB.out))); (case aL => have := LMc24.out; omega); intro v353 w28 ho hb hg hat; rw [← Ny352.out] at ho; have n0_ := Aside0.mk (blk_grown (g := gb343) (o := .cells #[.slice (some ad347) l0_0.length c0_0] 50 (0, 0)) (by (with_reducible repeat (first | refine blk_drewN ?_ _ | refine blk_drew ?_ | refine blk_alloc ?_ _)); refine blk_far ?_ NB343_348.out _; (with_reducible repeat (first | refine blk_drewN ?_ _ | refine blk_drew ?_ | refine blk_alloc ?_ _)); refine blk_far ?_ NB343_348.out _; (with_reducible repeat (first | refine blk_drewN ?_ _ | refine blk_drew ?_ | refine blk_alloc ?_ _)); exact BK343.out) hg (Kd.R_ne HO_5.out BK343.out (by decide))); have n1_ := Aside0.mk (blk_grown (g := gb348) (o := .cells #[.int .u8 ((rd_T70 l0_0 x13_1).f0), .int .u8 ((rd_T70 l0_0 x13_1).f1)] 70 (0, 0)) (by (with_reducible repeat (first | refine blk_drewN ?_ _ | refine blk_drew ?_ | refine blk_alloc ?_ _)); refine blk_put (cs := #[.int .u8 ((rd_T70 l0_0 x13_1).f0), .int .u8 0]) ?_ 1 _ rfl; (with_reducible repeat (first | refine blk_drewN ?_ _ | refine blk_drew ?_ | refine blk_alloc ?_ _)); refine blk_put (cs := #[.int .u8 0, .int .u8 0]) ?_ 0 _ rfl; (with_reducible repeat (first | refine blk_drewN ?_ _ | refine blk_drew ?_ | refine blk_alloc ?_ _)); exact BK348.out) hg (Kd.R_ne HO_5.out BK348.out (by decide))); have n2_ := Aside0.mk (hb); have n3_ := Aside0.mk (ho); clear BK343; clear BK348; clear HB; clear HO_5; have BK343 := n0_; have BK348 := n1_; have HB := n2_; have HO354 := n3_; clear n0_ n1_ n2_ n3_; clear ho hb hg hat))
       go_roundg k1
       case measure => have := HK1.out; omega
       case rel => exact ⟨(y352), (wrap64 (x13_1 + 1)), rs_, H', ⟨by have := HK1.out; omega⟩, ⟨up_ HO354.out⟩, ⟨up_ BK343.out⟩, ⟨up_ HB.out⟩⟩
      ·rw [if_neg c24] at H
       exact absurd H (by simp)
   ·obtain rfl := Option.some.inj H
    have hcv29 := own_string (P := Tryz.prog) Tryz.underlying98 Tryz.underlying5 Tryz.underlying9 (Kd.own_of_R HO_5.out)
    go_wp2
    go_ret
    exact ⟨re_, up_ HB.out⟩

/-! ### impl_IsCandidate: function 70 -/
def impl_IsCandidate.l0 : Nat → List (S70) → Int → Int → List (S70) → Option (Bool)
 | 0, _, _, _, _ => none
 | k + 1, x6, x7, x8, x356000 => if x8 < x7 then (if 0 ≤ x8 then (if x8 < (x6.length : Int) then ((impl_isLink.f ((rd_T70 x6 x8).f0) ((rd_T70 x6 x8).f1)).bind fun t358 => (if t358 = true then (impl_IsCandidate.l0 k x6 x7 (wrap64 (x8 + 1)) x356000) else (some false))) else (none)) else (none)) else (if (x356000.length : Int) ≤ 16 then ((impl_sounds.f k x356000 false).bind fun t359 => ((impl_IsForm.f k t359).bind fun t360 => (if t360 = true then ((impl_sounds.f k x356000 true).bind fun t361 => ((impl_IsForm.f k t361).bind fun t362 => (some t362))) else (some false)))) else (some false))
def impl_IsCandidate.f (k : Nat) (l0_0 : List (S70)) : Option (Bool) := impl_IsCandidate.l0 k l0_0 (l0_0.length : Int) 0 l0_0
set_option maxHeartbeats 8000000 in
set_option maxRecDepth 100000 in
theorem impl_IsCandidate.calls (k : Nat) (A0_0 : Option Addr) (c0_0 : Nat) (l0_0 : List (S70)) (r : Bool) (w : World) (hr0_0 : Kd.C k70 w A0_0 l0_0.length l0_0) (hc0_0 : l0_0.length ≤ c0_0) (h : impl_IsCandidate.f k l0_0 = some r) :
  Calls Tryz.prog 70 #[.agg #[.slice A0_0 l0_0.length c0_0]] w fun e w' => e = .returned (.bool r) ∧ Below w.heap.size w w' := by
 have hu50 := Tryz.underlying50
 have hu70 := Tryz.underlying70
 have HR0_0 := Aside0.mk hr0_0
 have HC0_0 := Aside0.mk hc0_0
 clear hr0_0 hc0_0
 have HB := Aside0.mk (Below.refl w.heap.size w)
 have H : (impl_IsCandidate.l0 k l0_0 (l0_0.length : Int) 0 l0_0) = some r := h
 clear h
 have H' := Aside0.mk H
 clear H
 go_enter Tryz.func70, Tryz.ntmps70
 go_wp2_with (first | ((refine gd_ 1 ?_); refine bx_ 1 #[.slice A0_0 l0_0.length c0_0] 50 ?_; intro gb355 hg w2 hbox hb; have BK355 := Aside0.mk (hbox); have GW355 := gw_ HB hg; have GE355 := gw_ HB hg; replace HB := bs_ HB hb; clear hb hbox hg; have hcz3_0 := c1_ BK355; have hfz3_0 := blk_frozen BK355.out 0))
 go_loopg [8] k (fun kq v8 w' => ∃ (x8_1 : Int), v8 = .int .i64 x8_1 ∧ Aside0 (impl_IsCandidate.l0 kq l0_0 (l0_0.length : Int) x8_1 l0_0 = some r) ∧ Aside0 (kq ≤ k) ∧ Aside0 (w'.heap[gb355]? = some (.cells #[(.slice A0_0 l0_0.length c0_0)] 50 (0, 0))) ∧ Aside0 (Below w.heap.size w w'))
 case atStart => exact ⟨(0), rs_, H', ⟨Nat.le_refl _⟩, ⟨up_ BK355.out⟩, ⟨up_ HB.out⟩⟩
 case round =>
  clear H'
  try clear p2
  try clear hcz3_0
  try clear hfz3_0
  obtain ⟨x8_1, rfl, HA, HK1, BK355, HB⟩ := hrel
  cases gk with
  | zero => exact absurd HA.out (by simp [impl_IsCandidate.l0])
  | succ k1 =>
   have H := HA.out
   clear HA
   simp only [impl_IsCandidate.l0] at H
   replace H := its_ H; rcases H with ⟨c4b0, H⟩ | ⟨c4b0, H⟩
   ·replace H := its_ H; rcases H with ⟨c5b0, H⟩ | ⟨_, ⟨⟩⟩
    replace H := its_ H; rcases H with ⟨c6b0, H⟩ | ⟨_, ⟨⟩⟩
    replace H := bnd_ H; obtain ⟨t358, A7, H⟩ := H
    replace H := itb_ H; rcases H with ⟨rfl, H⟩ | ⟨rfl, H⟩
    ·have H' := Aside0.mk H
     clear H
     have p356 : 0 ≤ (x8_1 : Int) := od_
     have q356 : x8_1 < (l0_0.length : Int) := od_
     obtain ⟨ad356, e356, hx356_0, hx356_1⟩ := at_T70 HR0_0.out x8_1 p356 q356
     cases e356
     replace hx356_0 := bh_ HB hx356_0
     replace hx356_1 := bh_ HB hx356_1
     replace p356 := eq_true p356
     replace q356 := eq_true q356
     go_wp2_with (first | ((refine gd_ 4 ?_); refine bx_ 4 #[.int .u8 0, .int .u8 0] 70 ?_; intro gb357 hg w9 hbox hb; have BK357 := Aside0.mk (hbox); have GW357 := gw_ HB hg; have GE357 := gw_ HB hg; replace HB := bs_ HB hb; have NB355_357 := Aside0.mk ((by rw [hg]; exact Nat.ne_of_lt (blk_lt (g := gb355) (o := .cells #[.slice (some ad356) l0_0.length c0_0] 50 (0, 0)) (up_ BK355.out)) : gb355 ≠ gb357)); have NB357_355 := Aside0.mk ((by rw [hg]; exact Nat.ne_of_gt (blk_lt (g := gb355) (o := .cells #[.slice (some ad356) l0_0.length c0_0] 50 (0, 0)) (up_ BK355.out)) : gb357 ≠ gb355)); replace BK355 := bb_ BK355 hb; clear hb hbox hg; have hnb10 := NB357_355.out; have hnc10 := NB355_357.out; obtain ⟨hcz11_0, hcz11_1⟩ := c2_ BK357; have hfz11_0 := blk_frozen BK357.out 0; have hfz11_1 := blk_frozen BK357.out 1) | ((refine gc_ 93 ?_); refine gl_ (some 13) Tryz.func93 (impl_isLink.calls ((rd_T70 l0_0 x8_1).f0) ((rd_T70 l0_0 x8_1).f1) true _ A7.out) ?_; rintro e w12 ⟨rfl, hb⟩; refine ⟨_, rfl, ?_⟩; replace BK355 := Aside0.mk (blk_below (g := gb355) (o := .cells #[.slice (some ad356) l0_0.length c0_0] 50 (0, 0)) (by (with_reducible repeat (first | refine blk_drewN ?_ _ | refine blk_drew ?_ | refine blk_alloc ?_ _)); refine blk_far ?_ NB355_357.out _; (with_reducible repeat (first | refine blk_drewN ?_ _ | refine blk_drew ?_ | refine blk_alloc ?_ _)); refine blk_far ?_ NB355_357.out _; (with_reducible repeat (first | refine blk_drewN ?_ _ | refine blk_drew ?_ | refine blk_alloc ?_ _)); exact BK355.out) hb); replace BK357 := Aside0.mk (blk_below (g := gb357) (o := .cells #[.int .u8 ((rd_T70 l0_0 x8_1).f0), .int .u8 ((rd_T70 l0_0 x8_1).f1)] 70 (0, 0)) (by (with_reducible repeat (first | refine blk_drewN ?_ _ | refine blk_drew ?_ | refine blk_alloc ?_ _)); refine blk_put (cs := #[.int .u8 ((rd_T70 l0_0 x8_1).f0), .int .u8 0]) ?_ 1 _ rfl; (with_reducible repeat (first | refine blk_drewN ?_ _ | refine blk_drew ?_ | refine blk_alloc ?_ _)); refine blk_put (cs := #[.int .u8 0, .int .u8 0]) ?_ 0 _ rfl; (with_reducible repeat (first | refine blk_drewN ?_ _ | refine blk_drew ?_ | refine blk_alloc ?_ _)); exact BK357.out) hb); replace HB := bs_ HB hb; (try clear hb); (try clear hb2); (try clear hk); (try clear hi)))
     go_roundg k1
     case measure => have := HK1.out; omega
     case rel => exact ⟨(wrap64 (x8_1 + 1)), rs_, H', ⟨by have := HK1.out; omega⟩, ⟨up_ BK355.out⟩, ⟨up_ HB.out⟩⟩
    ·obtain rfl := Option.some.inj H
     have p356 : 0 ≤ (x8_1 : Int) := od_
     have q356 : x8_1 < (l0_0.length : Int) := od_
     obtain ⟨ad356, e356, hx356_0, hx356_1⟩ := at_T70 HR0_0.out x8_1 p356 q356
     cases e356
     replace hx356_0 := bh_ HB hx356_0
     replace hx356_1 := bh_ HB hx356_1
     replace p356 := eq_true p356
     replace q356 := eq_true q356
     go_wp2_with (first | ((refine gd_ 4 ?_); refine bx_ 4 #[.int .u8 0, .int .u8 0] 70 ?_; intro gb357 hg w13 hbox hb; have BK357 := Aside0.mk (hbox); have GW357 := gw_ HB hg; have GE357 := gw_ HB hg; replace HB := bs_ HB hb; have NB355_357 := Aside0.mk ((by rw [hg]; exact Nat.ne_of_lt (blk_lt (g := gb355) (o := .cells #[.slice (some ad356) l0_0.length c0_0] 50 (0, 0)) (up_ BK355.out)) : gb355 ≠ gb357)); have NB357_355 := Aside0.mk ((by rw [hg]; exact Nat.ne_of_gt (blk_lt (g := gb355) (o := .cells #[.slice (some ad356) l0_0.length c0_0] 50 (0, 0)) (up_ BK355.out)) : gb357 ≠ gb355)); replace BK355 := bb_ BK355 hb; clear hb hbox hg; have hnb14 := NB357_355.out; have hnc14 := NB355_357.out; obtain ⟨hcz15_0, hcz15_1⟩ := c2_ BK357; have hfz15_0 := blk_frozen BK357.out 0; have hfz15_1 := blk_frozen BK357.out 1) | ((refine gc_ 93 ?_); refine gl_ (some 13) Tryz.func93 (impl_isLink.calls ((rd_T70 l0_0 x8_1).f0) ((rd_T70 l0_0 x8_1).f1) false _ A7.out) ?_; rintro e w16 ⟨rfl, hb⟩; refine ⟨_, rfl, ?_⟩; replace BK355 := Aside0.mk (blk_below (g := gb355) (o := .cells #[.slice (some ad356) l0_0.length c0_0] 50 (0, 0)) (by (with_reducible repeat (first | refine blk_drewN ?_ _ | refine blk_drew ?_ | refine blk_alloc ?_ _)); refine blk_far ?_ NB355_357.out _; (with_reducible repeat (first | refine blk_drewN ?_ _ | refine blk_drew ?_ | refine blk_alloc ?_ _)); refine blk_far ?_ NB355_357.out _; (with_reducible repeat (first | refine blk_drewN ?_ _ | refine blk_drew ?_ | refine blk_alloc ?_ _)); exact BK355.out) hb); replace BK357 := Aside0.mk (blk_below (g := gb357) (o := .cells #[.int .u8 ((rd_T70 l0_0 x8_1).f0), .int .u8 ((rd_T70 l0_0 x8_1).f1)] 70 (0, 0)) (by (with_reducible repeat (first | refine blk_drewN ?_ _ | refine blk_drew ?_ | refine blk_alloc ?_ _)); refine blk_put (cs := #[.int .u8 ((rd_T70 l0_0 x8_1).f0), .int .u8 0]) ?_ 1 _ rfl; (with_reducible repeat (first | refine blk_drewN ?_ _ | refine blk_drew ?_ | refine blk_alloc ?_ _)); refine blk_put (cs := #[.int .u8 0, .int .u8 0]) ?_ 0 _ rfl; (with_reducible repeat (first | refine blk_drewN ?_ _ | refine blk_drew ?_ | refine blk_alloc ?_ _)); exact BK357.out) hb); replace HB := bs_ HB hb; (try clear hb); (try clear hb2); (try clear hk); (try clear hi)))
     go_ret
     exact ⟨re_, up_ HB.out⟩
   ·by_cases c17 : (l0_0.length : Int) ≤ 16
    ·rw [if_pos c17] at H
     have c17b0 : decide ((l0_0.length : Int) ≤ 16) = true := decide_eq_true c17
     have c17b1 : decide (l0_0.length ≤ 16) = true := decide_eq_true (by omega)
     clear c17
     replace H := bnd_ H; obtain ⟨t359, A18, H⟩ := H
     replace H := bnd_ H; obtain ⟨t360, A19, H⟩ := H
     replace H := itb_ H; rcases H with ⟨rfl, H⟩ | ⟨rfl, H⟩
     ·replace H := bnd_ H; obtain ⟨t361, A21, H⟩ := H
      replace H := bnd_ H; obtain ⟨t362, A22, H⟩ := H
      obtain rfl := Option.some.inj H
      have hcz23_0 := c1_ BK355
      have hfz23_0 := blk_frozen BK355.out 0
      go_wp2_with (first | (go_at_call 94; (with_reducible refine (impl_sounds.calls k1 _ _ l0_0 false t359 _ (Kd.C_below HR0_0.out (up_ HB.out)) HC0_0.out A18.out).mono ?_); rintro e w24 ⟨rfl, hb⟩; replace BK355 := bb_ BK355 hb; replace HB := bs_ HB hb; (try clear hb); (try clear hb2); (try clear hk); (try clear hi)) | (go_at_call 69; (with_reducible refine (impl_IsForm.calls k1 t359 true _ A19.out).mono ?_); rintro e w' ⟨rfl, ⟨nd, rfl⟩⟩; have hcz25_0 := c1_ BK355; have hfz25_0 := blk_frozen BK355.out 0) | (go_at_call 94; (with_reducible refine (impl_sounds.calls k1 _ _ l0_0 true t361 _ (Kd.C_below HR0_0.out (up_ HB.out)) HC0_0.out A21.out).mono ?_); rintro e w26 ⟨rfl, hb⟩; replace BK355 := bb_ BK355 hb; replace HB := bs_ HB hb; (try clear hb); (try clear hb2); (try clear hk); (try clear hi)) | (go_at_call 69; (with_reducible refine (impl_IsForm.calls k1 t361 t362 _ A22.out).mono ?_); rintro e w' ⟨rfl, ⟨nd, rfl⟩⟩))
      go_ret
      exact ⟨re_, up_ HB.out⟩
     ·obtain rfl := Option.some.inj H
      have hcz27_0 := c1_ BK355
      have hfz27_0 := blk_frozen BK355.out 0
      go_wp2_with (first | (go_at_call 94; (with_reducible refine (impl_sounds.calls k1 _ _ l0_0 false t359 _ (Kd.C_below HR0_0.out (up_ HB.out)) HC0_0.out A18.out).mono ?_); rintro e w28 ⟨rfl, hb⟩; replace BK355 := bb_ BK355 hb; replace HB := bs_ HB hb; (try clear hb); (try clear hb2); (try clear hk); (try clear hi)) | (go_at_call 69; (with_reducible refine (impl_IsForm.calls k1 t359 false _ A19.out).mono ?_); rintro e w' ⟨rfl, ⟨nd, rfl⟩⟩))
      go_ret
      exact ⟨re_, up_ HB.out⟩
    ·rw [if_neg c17] at H
     have c17b0 : decide ((l0_0.length : Int) ≤ 16) = false := decide_eq_false c17
     have c17b1 : decide (l0_0.length ≤ 16) = false := decide_eq_false (by omega)
     clear c17
     obtain rfl := Option.some.inj H
     have hcz29_0 := c1_ BK355
     have hfz29_0 := blk_frozen BK355.out 0
     go_wp2
     go_ret
     exact ⟨re_, up_ HB.out⟩

/-! ### impl_InputOf: function 71 -/
def impl_InputOf.f (k : Nat) (l0_0 : List (S70)) : Option (ByteArray) := (impl_IsCandidate.f k l0_0).bind fun t364 => (if t364 = true then ((impl_sounds.f k l0_0 false).bind fun t365 => (some t365)) else (some (⟨#[]⟩ : ByteArray)))
set_option maxHeartbeats 8000000 in
set_option maxRecDepth 100000 in
theorem impl_InputOf.calls (k : Nat) (A0_0 : Option Addr) (c0_0 : Nat) (l0_0 : List (S70)) (r : ByteArray) (w : World) (hr0_0 : Kd.C k70 w A0_0 l0_0.length l0_0) (hc0_0 : l0_0.length ≤ c0_0) (h : impl_InputOf.f k l0_0 = some r) :
  Calls Tryz.prog 71 #[.agg #[.slice A0_0 l0_0.length c0_0]] w fun e w' => e = .returned (.string r) ∧ Below w.heap.size w w' := by
 have hu50 := Tryz.underlying50
 have HR0_0 := Aside0.mk hr0_0
 have HC0_0 := Aside0.mk hc0_0
 clear hr0_0 hc0_0
 have HB := Aside0.mk (Below.refl w.heap.size w)
 have H : ((impl_IsCandidate.f k l0_0).bind fun t364 => (if t364 = true then ((impl_sounds.f k l0_0 false).bind fun t365 => (some t365)) else (some (⟨#[]⟩ : ByteArray)))) = some r := h
 clear h
 replace H := bnd_ H; obtain ⟨t364, A2, H⟩ := H
 replace H := itb_ H; rcases H with ⟨rfl, H⟩ | ⟨rfl, H⟩
 ·replace H := bnd_ H; obtain ⟨t365, A4, H⟩ := H
  obtain rfl := Option.some.inj H
  go_enter Tryz.func71, Tryz.ntmps71
  go_wp2_with (first | ((refine gd_ 1 ?_); refine bx_ 1 #[.slice A0_0 l0_0.length c0_0] 50 ?_; intro gb363 hg w5 hbox hb; have BK363 := Aside0.mk (hbox); have GW363 := gw_ HB hg; have GE363 := gw_ HB hg; replace HB := bs_ HB hb; clear hb hbox hg; have hcz6_0 := c1_ BK363; have hfz6_0 := blk_frozen BK363.out 0) | ((refine gc_ 70 ?_); refine gl_ (some 4) Tryz.func70 (impl_IsCandidate.calls k _ _ l0_0 true _ (Kd.C_below HR0_0.out (up_ HB.out)) HC0_0.out A2.out) ?_; rintro e w7 ⟨rfl, hb⟩; refine ⟨_, rfl, ?_⟩; replace BK363 := bb_ BK363 hb; replace HB := bs_ HB hb; (try clear hb); (try clear hb2); (try clear hk); (try clear hi); have hcz8_0 := c1_ BK363; have hfz8_0 := blk_frozen BK363.out 0) | ((refine gc_ 94 ?_); refine gl_ (some 7) Tryz.func94 (impl_sounds.calls k _ _ l0_0 false t365 _ (Kd.C_below HR0_0.out (up_ HB.out)) HC0_0.out A4.out) ?_; rintro e w9 ⟨rfl, hb⟩; refine ⟨_, rfl, ?_⟩; replace BK363 := bb_ BK363 hb; replace HB := bs_ HB hb; (try clear hb); (try clear hb2); (try clear hk); (try clear hi)))
  go_ret
  exact ⟨re_, up_ HB.out⟩
 ·obtain rfl := Option.some.inj H
  go_enter Tryz.func71, Tryz.ntmps71
  go_wp2_with (first | ((refine gd_ 1 ?_); refine bx_ 1 #[.slice A0_0 l0_0.length c0_0] 50 ?_; intro gb363 hg w10 hbox hb; have BK363 := Aside0.mk (hbox); have GW363 := gw_ HB hg; have GE363 := gw_ HB hg; replace HB := bs_ HB hb; clear hb hbox hg; have hcz11_0 := c1_ BK363; have hfz11_0 := blk_frozen BK363.out 0) | ((refine gc_ 70 ?_); refine gl_ (some 4) Tryz.func70 (impl_IsCandidate.calls k _ _ l0_0 false _ (Kd.C_below HR0_0.out (up_ HB.out)) HC0_0.out A2.out) ?_; rintro e w12 ⟨rfl, hb⟩; refine ⟨_, rfl, ?_⟩; replace BK363 := bb_ BK363 hb; replace HB := bs_ HB hb; (try clear hb); (try clear hb2); (try clear hk); (try clear hi)))
  go_ret
  exact ⟨re_, up_ HB.out⟩

/-! ### impl_OutputOf: function 117 -/
def impl_OutputOf.f (k : Nat) (l0_0 : List (S70)) : Option (ByteArray) := (impl_IsCandidate.f k l0_0).bind fun t367 => (if t367 = true then ((impl_sounds.f k l0_0 true).bind fun t368 => (some t368)) else (some (⟨#[]⟩ : ByteArray)))
set_option maxHeartbeats 8000000 in
set_option maxRecDepth 100000 in
theorem impl_OutputOf.calls (k : Nat) (A0_0 : Option Addr) (c0_0 : Nat) (l0_0 : List (S70)) (r : ByteArray) (w : World) (hr0_0 : Kd.C k70 w A0_0 l0_0.length l0_0) (hc0_0 : l0_0.length ≤ c0_0) (h : impl_OutputOf.f k l0_0 = some r) :
  Calls Tryz.prog 117 #[.agg #[.slice A0_0 l0_0.length c0_0]] w fun e w' => e = .returned (.string r) ∧ Below w.heap.size w w' := by
 have hu50 := Tryz.underlying50
 have HR0_0 := Aside0.mk hr0_0
 have HC0_0 := Aside0.mk hc0_0
 clear hr0_0 hc0_0
 have HB := Aside0.mk (Below.refl w.heap.size w)
 have H : ((impl_IsCandidate.f k l0_0).bind fun t367 => (if t367 = true then ((impl_sounds.f k l0_0 true).bind fun t368 => (some t368)) else (some (⟨#[]⟩ : ByteArray)))) = some r := h
 clear h
 replace H := bnd_ H; obtain ⟨t367, A2, H⟩ := H
 replace H := itb_ H; rcases H with ⟨rfl, H⟩ | ⟨rfl, H⟩
 ·replace H := bnd_ H; obtain ⟨t368, A4, H⟩ := H
  obtain rfl := Option.some.inj H
  go_enter Tryz.func117, Tryz.ntmps117
  go_wp2_with (first | ((refine gd_ 1 ?_); refine bx_ 1 #[.slice A0_0 l0_0.length c0_0] 50 ?_; intro gb366 hg w5 hbox hb; have BK366 := Aside0.mk (hbox); have GW366 := gw_ HB hg; have GE366 := gw_ HB hg; replace HB := bs_ HB hb; clear hb hbox hg; have hcz6_0 := c1_ BK366; have hfz6_0 := blk_frozen BK366.out 0) | ((refine gc_ 70 ?_); refine gl_ (some 4) Tryz.func70 (impl_IsCandidate.calls k _ _ l0_0 true _ (Kd.C_below HR0_0.out (up_ HB.out)) HC0_0.out A2.out) ?_; rintro e w7 ⟨rfl, hb⟩; refine ⟨_, rfl, ?_⟩; replace BK366 := bb_ BK366 hb; replace HB := bs_ HB hb; (try clear hb); (try clear hb2); (try clear hk); (try clear hi); have hcz8_0 := c1_ BK366; have hfz8_0 := blk_frozen BK366.out 0) | ((refine gc_ 94 ?_); refine gl_ (some 7) Tryz.func94 (impl_sounds.calls k _ _ l0_0 true t368 _ (Kd.C_below HR0_0.out (up_ HB.out)) HC0_0.out A4.out) ?_; rintro e w9 ⟨rfl, hb⟩; refine ⟨_, rfl, ?_⟩; replace BK366 := bb_ BK366 hb; replace HB := bs_ HB hb; (try clear hb); (try clear hb2); (try clear hk); (try clear hi)))
  go_ret
  exact ⟨re_, up_ HB.out⟩
 ·obtain rfl := Option.some.inj H
  go_enter Tryz.func117, Tryz.ntmps117
  go_wp2_with (first | ((refine gd_ 1 ?_); refine bx_ 1 #[.slice A0_0 l0_0.length c0_0] 50 ?_; intro gb366 hg w10 hbox hb; have BK366 := Aside0.mk (hbox); have GW366 := gw_ HB hg; have GE366 := gw_ HB hg; replace HB := bs_ HB hb; clear hb hbox hg; have hcz11_0 := c1_ BK366; have hfz11_0 := blk_frozen BK366.out 0) | ((refine gc_ 70 ?_); refine gl_ (some 4) Tryz.func70 (impl_IsCandidate.calls k _ _ l0_0 false _ (Kd.C_below HR0_0.out (up_ HB.out)) HC0_0.out A2.out) ?_; rintro e w12 ⟨rfl, hb⟩; refine ⟨_, rfl, ?_⟩; replace BK366 := bb_ BK366 hb; replace HB := bs_ HB hb; (try clear hb); (try clear hb2); (try clear hk); (try clear hi)))
  go_ret
  exact ⟨re_, up_ HB.out⟩

/-! ### impl_HasFeature: function 147 -/
def impl_HasFeature.f (a0 : Int) (a1 : Int) : Option (Bool) := (impl_within.f a1 0 4).bind fun t369 => (if t369 = true then ((some (([(⟨#[97, 105]⟩ : ByteArray), (⟨#[98, 100, 110, 97, 105]⟩ : ByteArray), (⟨#[110]⟩ : ByteArray), (⟨#[112, 98]⟩ : ByteArray), (⟨#[105]⟩ : ByteArray)] : List ByteArray) : List ByteArray)).bind fun y370 => (if 0 ≤ a1 then (if a1 < (y370.length : Int) then ((strings_IndexByte.f (rdOf ByteArray.empty y370 a1) a0).bind fun t374 => (some (decide (t374 ≥ 0)))) else (none)) else (none))) else (some false))
set_option maxHeartbeats 8000000 in
set_option maxRecDepth 100000 in
theorem impl_HasFeature.calls (a0 : Int) (a1 : Int) (r : Bool) (w : World) (h : impl_HasFeature.f a0 a1 = some r) :
  Calls Tryz.prog 147 #[.int .u8 a0, .int .i64 a1] w fun e w' => e = .returned (.bool r) ∧ Below w.heap.size w w' := by
 have HB := Aside0.mk (Below.refl w.heap.size w)
 have H : ((impl_within.f a1 0 4).bind fun t369 => (if t369 = true then ((some (([(⟨#[97, 105]⟩ : ByteArray), (⟨#[98, 100, 110, 97, 105]⟩ : ByteArray), (⟨#[110]⟩ : ByteArray), (⟨#[112, 98]⟩ : ByteArray), (⟨#[105]⟩ : ByteArray)] : List ByteArray) : List ByteArray)).bind fun y370 => (if 0 ≤ a1 then (if a1 < (y370.length : Int) then ((strings_IndexByte.f (rdOf ByteArray.empty y370 a1) a0).bind fun t374 => (some (decide (t374 ≥ 0)))) else (none)) else (none))) else (some false))) = some r := h
 clear h
 replace H := bnd_ H; obtain ⟨t369, A3, H⟩ := H
 replace H := itb_ H; rcases H with ⟨rfl, H⟩ | ⟨rfl, H⟩
 ·obtain ⟨y370, hy370⟩ : ∃ y_ : List ByteArray, y_ = (([(⟨#[97, 105]⟩ : ByteArray), (⟨#[98, 100, 110, 97, 105]⟩ : ByteArray), (⟨#[110]⟩ : ByteArray), (⟨#[112, 98]⟩ : ByteArray), (⟨#[105]⟩ : ByteArray)] : List ByteArray)) := ⟨_, rfl⟩
  replace H : (if 0 ≤ a1 then (if a1 < (y370.length : Int) then ((strings_IndexByte.f (rdOf ByteArray.empty y370 a1) a0).bind fun t374 => (some (decide (t374 ≥ 0)))) else (none)) else (none)) = some r := rh_ hy370 H
  have Ny370 := Aside0.mk hy370
  clear hy370
  replace H := its_ H; rcases H with ⟨c5b0, H⟩ | ⟨_, ⟨⟩⟩
  replace H := its_ H; rcases H with ⟨c6b0, H⟩ | ⟨_, ⟨⟩⟩
  replace H := bnd_ H; obtain ⟨t374, A7, H⟩ := H
  obtain rfl := Option.some.inj H
  go_enter Tryz.func147, Tryz.ntmps147
  go_wp2_with (first | ((refine gc_ 63 ?_); refine gq_ (some 6) Tryz.func63 (impl_within.calls a1 0 4 true _ A3.out) (fun nd => ?_)) | ((refine gd_ 8 ?_); refine Kd.R_lit Kd.string _ 9 ?hg (N := 8) ?hd (xs := ([(⟨#[97, 105]⟩ : ByteArray), (⟨#[98, 100, 110, 97, 105]⟩ : ByteArray), (⟨#[110]⟩ : ByteArray), (⟨#[112, 98]⟩ : ByteArray), (⟨#[105]⟩ : ByteArray)] : List ByteArray)) (inner := [.string (⟨#[97, 105]⟩ : ByteArray), .string (⟨#[98, 100, 110, 97, 105]⟩ : ByteArray), .string (⟨#[110]⟩ : ByteArray), .string (⟨#[112, 98]⟩ : ByteArray), .string (⟨#[105]⟩ : ByteArray)]) (ok := fun _ => True) (okp := fun _ => True) ?hr ?hp (fun _ hk => hk) trivial (Below.refl _ _) (Nat.le_refl _) (by simp) ?_; (case hd => rfl); (case hg => rfl); (case hr => first | (go_simp; done) | (go_simp; rfl)); (case hp => exact (Reps.one (show Kd.M Kd.string _ _ _ (⟨#[97, 105]⟩ : ByteArray) [.string (⟨#[97, 105]⟩ : ByteArray)] from rfl) (Reps.one (show Kd.M Kd.string _ _ _ (⟨#[98, 100, 110, 97, 105]⟩ : ByteArray) [.string (⟨#[98, 100, 110, 97, 105]⟩ : ByteArray)] from rfl) (Reps.one (show Kd.M Kd.string _ _ _ (⟨#[110]⟩ : ByteArray) [.string (⟨#[110]⟩ : ByteArray)] from rfl) (Reps.one (show Kd.M Kd.string _ _ _ (⟨#[112, 98]⟩ : ByteArray) [.string (⟨#[112, 98]⟩ : ByteArray)] from rfl) (Reps.one (show Kd.M Kd.string _ _ _ (⟨#[105]⟩ : ByteArray) [.string (⟨#[105]⟩ : ByteArray)] from rfl) (Reps.none _ _))))))); intro v371 w8 ho9 hb hg_ hnew_; clear hg_ hnew_; (first | rw [← Ny370.out] at ho9 | (simp only [Int.reduceToNat] at ho9; rw [← Ny370.out] at ho9)); have HO372 := Aside0.mk (Kd.R_lower ho9 (below_size (up_ HB.out))); replace HB := bs_ HB hb; clear hb ho9; obtain ⟨Ao10, co10, eo10⟩ := Kd.R_slice HO372.out; subst eo10; have p373 : 0 ≤ (a1 : Int) := od_; have q373 : a1 < (y370.length : Int) := od_; obtain ⟨ad373, e373, hx373_0⟩ := Kd.at_string (Kd.R_reads' HO372.out).2.2 a1 p373 q373; cases e373; replace p373 := eq_true p373; replace q373 := eq_true q373) | ((refine gc_ 136 ?_); refine gq_ (some 13) Tryz.func136 (strings_IndexByte.calls (rdOf ByteArray.empty y370 a1) a0 t374 _ A7.out) (fun nd => ?_)))
  go_ret
  exact ⟨re_, up_ HB.out⟩
 ·obtain rfl := Option.some.inj H
  go_enter Tryz.func147, Tryz.ntmps147
  go_wp2_with (first | ((refine gc_ 63 ?_); refine gq_ (some 6) Tryz.func63 (impl_within.calls a1 0 4 false _ A3.out) (fun nd => ?_)))
  go_ret
  exact ⟨re_, up_ HB.out⟩

/-! ### impl_isVowel: function 139 -/
def impl_isVowel.f (a0 : Int) : Option (Bool) := (impl_HasFeature.f a0 0).bind fun t375 => (some t375)
set_option maxHeartbeats 8000000 in
set_option maxRecDepth 100000 in
theorem impl_isVowel.calls (a0 : Int) (r : Bool) (w : World) (h : impl_isVowel.f a0 = some r) :
  Calls Tryz.prog 139 #[.int .u8 a0] w fun e w' => e = .returned (.bool r) ∧ Below w.heap.size w w' := by
 have HB := Aside0.mk (Below.refl w.heap.size w)
 have H : ((impl_HasFeature.f a0 0).bind fun t375 => (some t375)) = some r := h
 clear h
 replace H := bnd_ H; obtain ⟨t375, A2, H⟩ := H
 obtain rfl := Option.some.inj H
 go_enter Tryz.func139, Tryz.ntmps139
 go_wp2_with (first | ((refine gc_ 147 ?_); refine gl_ (some 4) Tryz.func147 (impl_HasFeature.calls a0 0 t375 _ A2.out) ?_; rintro e w3 ⟨rfl, hb⟩; refine ⟨_, rfl, ?_⟩; replace HB := bs_ HB hb; (try clear hb); (try clear hb2); (try clear hk); (try clear hi)))
 go_ret
 exact ⟨re_, up_ HB.out⟩

/-! ### impl_isConsonant: function 140 -/
def impl_isConsonant.f (a0 : Int) : Option (Bool) := (impl_IsSound.f a0).bind fun t376 => (if t376 = true then ((impl_isVowel.f a0).bind fun t377 => (some (!t377))) else (some false))
set_option maxHeartbeats 8000000 in
set_option maxRecDepth 100000 in
theorem impl_isConsonant.calls (a0 : Int) (r : Bool) (w : World) (h : impl_isConsonant.f a0 = some r) :
  Calls Tryz.prog 140 #[.int .u8 a0] w fun e w' => e = .returned (.bool r) ∧ Below w.heap.size w w' := by
 have HB := Aside0.mk (Below.refl w.heap.size w)
 have H : ((impl_IsSound.f a0).bind fun t376 => (if t376 = true then ((impl_isVowel.f a0).bind fun t377 => (some (!t377))) else (some false))) = some r := h
 clear h
 replace H := bnd_ H; obtain ⟨t376, A2, H⟩ := H
 replace H := itb_ H; rcases H with ⟨rfl, H⟩ | ⟨rfl, H⟩
 ·replace H := bnd_ H; obtain ⟨t377, A4, H⟩ := H
  obtain rfl := Option.some.inj H
  go_enter Tryz.func140, Tryz.ntmps140
  go_wp2_with (first | ((refine gc_ 116 ?_); refine gq_ (some 4) Tryz.func116 (impl_IsSound.calls a0 true _ A2.out) (fun nd => ?_)) | (go_at_call 139; (with_reducible refine (impl_isVowel.calls a0 t377 _ A4.out).mono ?_); rintro e w5 ⟨rfl, hb⟩; replace HB := bs_ HB hb; (try clear hb); (try clear hb2); (try clear hk); (try clear hi)))
  go_ret
  exact ⟨re_, up_ HB.out⟩
 ·obtain rfl := Option.some.inj H
  go_enter Tryz.func140, Tryz.ntmps140
  go_wp2_with (first | ((refine gc_ 116 ?_); refine gq_ (some 4) Tryz.func116 (impl_IsSound.calls a0 false _ A2.out) (fun nd => ?_)))
  go_ret
  exact ⟨re_, up_ HB.out⟩

/-! ### impl_CountOnsetless_1: function 138 -/
def impl_CountOnsetless_1.f (a0 : Int) (a1 : Int) (a2 : Int) : Option (Bool) := (impl_isVowel.f a1).bind fun t378 => (if t378 = true then ((impl_isConsonant.f a0).bind fun t379 => (some (!t379))) else (some false))
set_option maxHeartbeats 8000000 in
set_option maxRecDepth 100000 in
theorem impl_CountOnsetless_1.calls (a0 : Int) (a1 : Int) (a2 : Int) (r : Bool) (w : World) (h : impl_CountOnsetless_1.f a0 a1 a2 = some r) :
  Calls Tryz.prog 138 #[.int .u8 a0, .int .u8 a1, .int .u8 a2] w fun e w' => e = .returned (.bool r) ∧ Below w.heap.size w w' := by
 have HB := Aside0.mk (Below.refl w.heap.size w)
 have H : ((impl_isVowel.f a1).bind fun t378 => (if t378 = true then ((impl_isConsonant.f a0).bind fun t379 => (some (!t379))) else (some false))) = some r := h
 clear h
 replace H := bnd_ H; obtain ⟨t378, A4, H⟩ := H
 replace H := itb_ H; rcases H with ⟨rfl, H⟩ | ⟨rfl, H⟩
 ·replace H := bnd_ H; obtain ⟨t379, A6, H⟩ := H
  obtain rfl := Option.some.inj H
  go_enter Tryz.func138, Tryz.ntmps138
  go_wp2_with (first | ((refine gc_ 139 ?_); refine gl_ (some 8) Tryz.func139 (impl_isVowel.calls a1 true _ A4.out) ?_; rintro e w7 ⟨rfl, hb⟩; refine ⟨_, rfl, ?_⟩; replace HB := bs_ HB hb; (try clear hb); (try clear hb2); (try clear hk); (try clear hi)) | (go_at_call 140; (with_reducible refine (impl_isConsonant.calls a0 t379 _ A6.out).mono ?_); rintro e w8 ⟨rfl, hb⟩; replace HB := bs_ HB hb; (try clear hb); (try clear hb2); (try clear hk); (try clear hi)))
  go_ret
  exact ⟨re_, up_ HB.out⟩
 ·obtain rfl := Option.some.inj H
  go_enter Tryz.func138, Tryz.ntmps138
  go_wp2_with (first | ((refine gc_ 139 ?_); refine gl_ (some 8) Tryz.func139 (impl_isVowel.calls a1 false _ A4.out) ?_; rintro e w9 ⟨rfl, hb⟩; refine ⟨_, rfl, ?_⟩; replace HB := bs_ HB hb; (try clear hb); (try clear hb2); (try clear hk); (try clear hi)))
  go_ret
  exact ⟨re_, up_ HB.out⟩

end Go.Proofs.YtkddpilambnicaaGreat.PFnExactDifferencesFor
