/- Walks of Go functions that the law FnExactDifferencesFor uses: written by this session's program out of the kit's printer; each shows that a call comes to the answers of the Lean function beside it. Conditions: each contract's own. -/
import Derived.Test.YtkddpilambnicaaGreatPFnExactDifferencesForx0
import Derived.Test.YtkddpilambnicaaGreatPFnExactDifferencesForx13
import Derived.Test.YtkddpilambnicaaGreatPFnExactDifferencesForx16
namespace Go.Proofs.YtkddpilambnicaaGreat.PFnExactDifferencesFor
open Go.RowKit Go.Proofs.YtkddpilambnicaaGreatW.PrintWords Go.Proofs.YtkddpilambnicaaGreatW.PrintLast Go.Proofs.YtkddpilambnicaaGreatW.PrintMore Go.Proofs.YtkddpilambnicaaGreat.Mac Go.Proofs.YtkddpilambnicaaGreat.Law
attribute [local go_sem] max2_int min2_int max_two min_two max_three min_three max_four min_four   -- for this text's walks alone
set_option linter.unusedVariables false
set_option linter.unusedSimpArgs false

/-! ### v_impl_links__CountDeleted_1: function 149 -/
def v_impl_links__CountDeleted_1.l0 : Nat → Int → List (S70) → Int → Int → List (S70) → Option (Int)
 | 0, _, _, _, _, _ => none
 | k + 1, x5, x9, x10, x11, x413000 => if x11 < x10 then (if 0 ≤ x11 then (if x11 < (x9.length : Int) then ((impl_IsCandidate.f k x413000).bind fun t415 => (if t415 = true then ((impl_CountDeleted_1.f ((rd_T70 x9 x11).f0) ((rd_T70 x9 x11).f1)).bind fun t416 => (if t416 = true then (v_impl_links__CountDeleted_1.l0 k (wrap64 (x5 + 1)) x9 x10 (wrap64 (x11 + 1)) x413000) else (v_impl_links__CountDeleted_1.l0 k x5 x9 x10 (wrap64 (x11 + 1)) x413000))) else (v_impl_links__CountDeleted_1.l0 k x5 x9 x10 (wrap64 (x11 + 1)) x413000))) else (none)) else (none)) else (some x5)
def v_impl_links__CountDeleted_1.f (k : Nat) (l0_0 : List (S70)) : Option (Int) := v_impl_links__CountDeleted_1.l0 k 0 l0_0 (l0_0.length : Int) 0 l0_0
set_option maxHeartbeats 8000000 in
set_option maxRecDepth 100000 in
theorem v_impl_links__CountDeleted_1.calls (k : Nat) (A0_0 : Option Addr) (c0_0 : Nat) (l0_0 : List (S70)) (r : Int) (w : World) (hr0_0 : Kd.C k70 w A0_0 l0_0.length l0_0) (hc0_0 : l0_0.length ≤ c0_0) (h : v_impl_links__CountDeleted_1.f k l0_0 = some r) :
  Calls Tryz.prog 149 #[.agg #[.slice A0_0 l0_0.length c0_0], .func (.func 150) #[] #[]] w fun e w' => e = .returned (.int .i64 r) ∧ Below w.heap.size w w' := by
 have hu50 := Tryz.underlying50
 have hu70 := Tryz.underlying70
 have HR0_0 := Aside0.mk hr0_0
 have HC0_0 := Aside0.mk hc0_0
 clear hr0_0 hc0_0
 have HB := Aside0.mk (Below.refl w.heap.size w)
 have H : (v_impl_links__CountDeleted_1.l0 k 0 l0_0 (l0_0.length : Int) 0 l0_0) = some r := h
 clear h
 have H' := Aside0.mk H
 clear H
 go_enter Tryz.func149, Tryz.ntmps149
 go_wp2_with (first | ((refine gd_ 2 ?_); refine bx_ 2 #[.slice A0_0 l0_0.length c0_0] 50 ?_; intro gb412 hg w2 hbox hb; have BK412 := Aside0.mk (hbox); have GW412 := gw_ HB hg; have GE412 := gw_ HB hg; replace HB := bs_ HB hb; clear hb hbox hg; have hcz3_0 := c1_ BK412; have hfz3_0 := blk_frozen BK412.out 0))
 go_loopg [5, 11] k (fun kq v5 v11 w' => ∃ (x5_1 : Int) (x11_1 : Int), v5 = .int .i64 x5_1 ∧ v11 = .int .i64 x11_1 ∧ Aside0 (v_impl_links__CountDeleted_1.l0 kq x5_1 l0_0 (l0_0.length : Int) x11_1 l0_0 = some r) ∧ Aside0 (kq ≤ k) ∧ Aside0 (w'.heap[gb412]? = some (.cells #[(.slice A0_0 l0_0.length c0_0)] 50 (0, 0))) ∧ Aside0 (Below w.heap.size w w'))
 case atStart => exact ⟨(0), (0), rs_, rs_, H', ⟨Nat.le_refl _⟩, ⟨up_ BK412.out⟩, ⟨up_ HB.out⟩⟩
 case round =>
  clear H'
  try clear p2
  try clear hcz3_0
  try clear hfz3_0
  obtain ⟨x5_1, x11_1, rfl, rfl, HA, HK1, BK412, HB⟩ := hrel
  cases gk with
  | zero => exact absurd HA.out (by simp [v_impl_links__CountDeleted_1.l0])
  | succ k1 =>
   have H := HA.out
   clear HA
   simp only [v_impl_links__CountDeleted_1.l0] at H
   replace H := its_ H; rcases H with ⟨c4b0, H⟩ | ⟨c4b0, H⟩
   ·replace H := its_ H; rcases H with ⟨c5b0, H⟩ | ⟨_, ⟨⟩⟩
    replace H := its_ H; rcases H with ⟨c6b0, H⟩ | ⟨_, ⟨⟩⟩
    replace H := bnd_ H; obtain ⟨t415, A7, H⟩ := H
    replace H := itb_ H; rcases H with ⟨rfl, H⟩ | ⟨rfl, H⟩
    ·replace H := bnd_ H; obtain ⟨t416, A9, H⟩ := H
     replace H := itb_ H; rcases H with ⟨rfl, H⟩ | ⟨rfl, H⟩
     ·have H' := Aside0.mk H
      clear H
      have p413 : 0 ≤ (x11_1 : Int) := od_
      have q413 : x11_1 < (l0_0.length : Int) := od_
      obtain ⟨ad413, e413, hx413_0, hx413_1⟩ := at_T70 HR0_0.out x11_1 p413 q413
      cases e413
      replace hx413_0 := bh_ HB hx413_0
      replace hx413_1 := bh_ HB hx413_1
      replace p413 := eq_true p413
      replace q413 := eq_true q413
      go_wp2_with (first | ((refine gd_ 7 ?_); refine bx_ 7 #[.int .u8 0, .int .u8 0] 70 ?_; intro gb414 hg w11 hbox hb; have BK414 := Aside0.mk (hbox); have GW414 := gw_ HB hg; have GE414 := gw_ HB hg; replace HB := bs_ HB hb; have NB412_414 := Aside0.mk ((by rw [hg]; exact Nat.ne_of_lt (blk_lt (g := gb412) (o := .cells #[.slice (some ad413) l0_0.length c0_0] 50 (0, 0)) (up_ BK412.out)) : gb412 ≠ gb414)); have NB414_412 := Aside0.mk ((by rw [hg]; exact Nat.ne_of_gt (blk_lt (g := gb412) (o := .cells #[.slice (some ad413) l0_0.length c0_0] 50 (0, 0)) (up_ BK412.out)) : gb414 ≠ gb412)); replace BK412 := bb_ BK412 hb; clear hb hbox hg; have hnb12 := NB414_412.out; have hnc12 := NB412_414.out; obtain ⟨hcz13_0, hcz13_1⟩ := c2_ BK414; have hfz13_0 := blk_frozen BK414.out 0; have hfz13_1 := blk_frozen BK414.out 1; have hcz14_0 := c1_ BK412; have hfz14_0 := blk_frozen BK412.out 0) | ((refine gc_ 70 ?_); refine gl_ (some 16) Tryz.func70 (impl_IsCandidate.calls k1 _ _ l0_0 true _ (Kd.C_below HR0_0.out (up_ HB.out)) HC0_0.out A7.out) ?_; rintro e w15 ⟨rfl, hb⟩; refine ⟨_, rfl, ?_⟩; replace BK412 := Aside0.mk (blk_below (g := gb412) (o := .cells #[.slice (some ad413) l0_0.length c0_0] 50 (0, 0)) (by (with_reducible repeat (first | refine blk_drewN ?_ _ | refine blk_drew ?_ | refine blk_alloc ?_ _)); refine blk_far ?_ NB412_414.out _; (with_reducible repeat (first | refine blk_drewN ?_ _ | refine blk_drew ?_ | refine blk_alloc ?_ _)); refine blk_far ?_ NB412_414.out _; (with_reducible repeat (first | refine blk_drewN ?_ _ | refine blk_drew ?_ | refine blk_alloc ?_ _)); exact BK412.out) hb); replace BK414 := Aside0.mk (blk_below (g := gb414) (o := .cells #[.int .u8 ((rd_T70 l0_0 x11_1).f0), .int .u8 ((rd_T70 l0_0 x11_1).f1)] 70 (0, 0)) (by (with_reducible repeat (first | refine blk_drewN ?_ _ | refine blk_drew ?_ | refine blk_alloc ?_ _)); refine blk_put (cs := #[.int .u8 ((rd_T70 l0_0 x11_1).f0), .int .u8 0]) ?_ 1 _ rfl; (with_reducible repeat (first | refine blk_drewN ?_ _ | refine blk_drew ?_ | refine blk_alloc ?_ _)); refine blk_put (cs := #[.int .u8 0, .int .u8 0]) ?_ 0 _ rfl; (with_reducible repeat (first | refine blk_drewN ?_ _ | refine blk_drew ?_ | refine blk_alloc ?_ _)); exact BK414.out) hb); replace HB := bs_ HB hb; (try clear hb); (try clear hb2); (try clear hk); (try clear hi); obtain ⟨hcz16_0, hcz16_1⟩ := c2_ BK414; have hfz16_0 := blk_frozen BK414.out 0; have hfz16_1 := blk_frozen BK414.out 1) | (go_at_call 150; (with_reducible refine (impl_CountDeleted_1.calls ((rd_T70 l0_0 x11_1).f0) ((rd_T70 l0_0 x11_1).f1) true _ A9.out).mono ?_); rintro e w17 ⟨rfl, hb⟩; replace BK412 := bb_ BK412 hb; replace BK414 := bb_ BK414 hb; replace HB := bs_ HB hb; (try clear hb); (try clear hb2); (try clear hk); (try clear hi)))
      go_roundg k1
      case measure => have := HK1.out; omega
      case rel => exact ⟨(wrap64 (x5_1 + 1)), (wrap64 (x11_1 + 1)), rs_, rs_, H', ⟨by have := HK1.out; omega⟩, ⟨up_ BK412.out⟩, ⟨up_ HB.out⟩⟩
     ·have H' := Aside0.mk H
      clear H
      have p413 : 0 ≤ (x11_1 : Int) := od_
      have q413 : x11_1 < (l0_0.length : Int) := od_
      obtain ⟨ad413, e413, hx413_0, hx413_1⟩ := at_T70 HR0_0.out x11_1 p413 q413
      cases e413
      replace hx413_0 := bh_ HB hx413_0
      replace hx413_1 := bh_ HB hx413_1
      replace p413 := eq_true p413
      replace q413 := eq_true q413
      go_wp2_with (first | ((refine gd_ 7 ?_); refine bx_ 7 #[.int .u8 0, .int .u8 0] 70 ?_; intro gb414 hg w18 hbox hb; have BK414 := Aside0.mk (hbox); have GW414 := gw_ HB hg; have GE414 := gw_ HB hg; replace HB := bs_ HB hb; have NB412_414 := Aside0.mk ((by rw [hg]; exact Nat.ne_of_lt (blk_lt (g := gb412) (o := .cells #[.slice (some ad413) l0_0.length c0_0] 50 (0, 0)) (up_ BK412.out)) : gb412 ≠ gb414)); have NB414_412 := Aside0.mk ((by rw [hg]; exact Nat.ne_of_gt (blk_lt (g := gb412) (o := .cells #[.slice (some ad413) l0_0.length c0_0] 50 (0, 0)) (up_ BK412.out)) : gb414 ≠ gb412)); replace BK412 := bb_ BK412 hb; clear hb hbox hg; have hnb19 := NB414_412.out; have hnc19 := NB412_414.out; obtain ⟨hcz20_0, hcz20_1⟩ := c2_ BK414; have hfz20_0 := blk_frozen BK414.out 0; have hfz20_1 := blk_frozen BK414.out 1; have hcz21_0 := c1_ BK412; have hfz21_0 := blk_frozen BK412.out 0) | ((refine gc_ 70 ?_); refine gl_ (some 16) Tryz.func70 (impl_IsCandidate.calls k1 _ _ l0_0 true _ (Kd.C_below HR0_0.out (up_ HB.out)) HC0_0.out A7.out) ?_; rintro e w22 ⟨rfl, hb⟩; refine ⟨_, rfl, ?_⟩; replace BK412 := Aside0.mk (blk_below (g := gb412) (o := .cells #[.slice (some ad413) l0_0.length c0_0] 50 (0, 0)) (by (with_reducible repeat (first | refine blk_drewN ?_ _ | refine blk_drew ?_ | refine blk_alloc ?_ _)); refine blk_far ?_ NB412_414.out _; (with_reducible repeat (first | refine blk_drewN ?_ _ | refine blk_drew ?_ | refine blk_alloc ?_ _)); refine blk_far ?_ NB412_414.out _; (with_reducible repeat (first | refine blk_drewN ?_ _ | refine blk_drew ?_ | refine blk_alloc ?_ _)); exact BK412.out) hb); replace BK414 := Aside0.mk (blk_below (g := gb414) (o := .cells #[.int .u8 ((rd_T70 l0_0 x11_1).f0), .int .u8 ((rd_T70 l0_0 x11_1).f1)] 70 (0, 0)) (by (with_reducible repeat (first | refine blk_drewN ?_ _ | refine blk_drew ?_ | refine blk_alloc ?_ _)); refine blk_put (cs := #[.int .u8 ((rd_T70 l0_0 x11_1).f0), .int .u8 0]) ?_ 1 _ rfl; (with_reducible repeat (first | refine blk_drewN ?_ _ | refine blk_drew ?_ | refine blk_alloc ?_ _)); refine blk_put (cs := #[.int .u8 0, .int .u8 0]) ?_ 0 _ rfl; (with_reducible repeat (first | refine blk_drewN ?_ _ | refine blk_drew ?_ | refine blk_alloc ?_ _)); exact BK414.out) hb); replace HB := bs_ HB hb; (try clear hb); (try clear hb2); (try clear hk); (try clear hi); obtain ⟨hcz23_0, hcz23_1⟩ := c2_ BK414; have hfz23_0 := blk_frozen BK414.out 0; have hfz23_1 := blk_frozen BK414.out 1) | (go_at_call 150; (with_reducible refine (impl_CountDeleted_1.calls ((rd_T70 l0_0 x11_1).f0) ((rd_T70 l0_0 x11_1).f1) false _ A9.out).mono ?_); rintro e w24 ⟨rfl, hb⟩; replace BK412 := bb_ BK412 hb; replace BK414 := bb_ BK414 hb; replace HB := bs_ HB hb; (try clear hb); (try clear hb2); (try clear hk); (try clear hi)))
      go_roundg k1
      case measure => have := HK1.out; omega
      case rel => exact ⟨(x5_1), (wrap64 (x11_1 + 1)), rs_, rs_, H', ⟨by have := HK1.out; omega⟩, ⟨up_ BK412.out⟩, ⟨up_ HB.out⟩⟩
    ·have H' := Aside0.mk H
     clear H
     have p413 : 0 ≤ (x11_1 : Int) := od_
     have q413 : x11_1 < (l0_0.length : Int) := od_
     obtain ⟨ad413, e413, hx413_0, hx413_1⟩ := at_T70 HR0_0.out x11_1 p413 q413
     cases e413
     replace hx413_0 := bh_ HB hx413_0
     replace hx413_1 := bh_ HB hx413_1
     replace p413 := eq_true p413
     replace q413 := eq_true q413
     go_wp2_with (first | ((refine gd_ 7 ?_); refine bx_ 7 #[.int .u8 0, .int .u8 0] 70 ?_; intro gb414 hg w25 hbox hb; have BK414 := Aside0.mk (hbox); have GW414 := gw_ HB hg; have GE414 := gw_ HB hg; replace HB := bs_ HB hb; have NB412_414 := Aside0.mk ((by rw [hg]; exact Nat.ne_of_lt (blk_lt (g := gb412) (o := .cells #[.slice (some ad413) l0_0.length c0_0] 50 (0, 0)) (up_ BK412.out)) : gb412 ≠ gb414)); have NB414_412 := Aside0.mk ((by rw [hg]; exact Nat.ne_of_gt (blk_lt (g := gb412) (o := .cells #[.slice (some ad413) l0_0.length c0_0] 50 (0, 0)) (up_ BK412.out)) : gb414 ≠ gb412)); replace BK412 := bb_ BK412 hb; clear hb hbox hg; have hnb26 := NB414_412.out; have hnc26 := NB412_414.out; obtain ⟨hcz27_0, hcz27_1⟩ := c2_ BK414; have hfz27_0 := blk_frozen BK414.out 0; have hfz27_1 := blk_frozen BK414.out 1; have hcz28_0 := c1_ BK412; have hfz28_0 := blk_frozen BK412.out 0) | ((refine gc_ 70 ?_); refine gl_ (some 16) Tryz.func70 (impl_IsCandidate.calls k1 _ _ l0_0 false _ (Kd.C_below HR0_0.out (up_ HB.out)) HC0_0.out A7.out) ?_; rintro e w29 ⟨rfl, hb⟩; refine ⟨_, rfl, ?_⟩; replace BK412 := Aside0.mk (blk_below (g := gb412) (o := .cells #[.slice (some ad413) l0_0.length c0_0] 50 (0, 0)) (by (with_reducible repeat (first | refine blk_drewN ?_ _ | refine blk_drew ?_ | refine blk_alloc ?_ _)); refine blk_far ?_ NB412_414.out _; (with_reducible repeat (first | refine blk_drewN ?_ _ | refine blk_drew ?_ | refine blk_alloc ?_ _)); refine blk_far ?_ NB412_414.out _; (with_reducible repeat (first | refine blk_drewN ?_ _ | refine blk_drew ?_ | refine blk_alloc ?_ _)); exact BK412.out) hb); replace BK414 := Aside0.mk (blk_below (g := gb414) (o := .cells #[.int .u8 ((rd_T70 l0_0 x11_1).f0), .int .u8 ((rd_T70 l0_0 x11_1).f1)] 70 (0, 0)) (by (with_reducible repeat (first | refine blk_drewN ?_ _ | refine blk_drew ?_ | refine blk_alloc ?_ _)); refine blk_put (cs := #[.int .u8 ((rd_T70 l0_0 x11_1).f0), .int .u8 0]) ?_ 1 _ rfl; (with_reducible repeat (first | refine blk_drewN ?_ _ | refine blk_drew ?_ | refine blk_alloc ?_ _)); refine blk_put (cs := #[.int .u8 0, .int .u8 0]) ?_ 0 _ rfl; (with_reducible repeat (first | refine blk_drewN ?_ _ | refine blk_drew ?_ | refine blk_alloc ?_ _)); exact BK414.out) hb); replace HB := bs_ HB hb; (try clear hb); (try clear hb2); (try clear hk); (try clear hi)))
     go_roundg k1
     case measure => have := HK1.out; omega
     case rel => exact ⟨(x5_1), (wrap64 (x11_1 + 1)), rs_, rs_, H', ⟨by have := HK1.out; omega⟩, ⟨up_ BK412.out⟩, ⟨up_ HB.out⟩⟩
   ·obtain rfl := Option.some.inj H
    go_wp2
    go_ret
    exact ⟨re_, up_ HB.out⟩

/-! ### impl_CountDeleted: function 124 -/
def impl_CountDeleted.f (k : Nat) (l0_0 : List (S70)) : Option (Int) := (v_impl_links__CountDeleted_1.f k l0_0).bind fun t418 => (some t418)
set_option maxHeartbeats 8000000 in
set_option maxRecDepth 100000 in
theorem impl_CountDeleted.calls (k : Nat) (A0_0 : Option Addr) (c0_0 : Nat) (l0_0 : List (S70)) (r : Int) (w : World) (hr0_0 : Kd.C k70 w A0_0 l0_0.length l0_0) (hc0_0 : l0_0.length ≤ c0_0) (h : impl_CountDeleted.f k l0_0 = some r) :
  Calls Tryz.prog 124 #[.agg #[.slice A0_0 l0_0.length c0_0]] w fun e w' => e = .returned (.int .i64 r) ∧ Below w.heap.size w w' := by
 have hu50 := Tryz.underlying50
 have HR0_0 := Aside0.mk hr0_0
 have HC0_0 := Aside0.mk hc0_0
 clear hr0_0 hc0_0
 have HB := Aside0.mk (Below.refl w.heap.size w)
 have H : ((v_impl_links__CountDeleted_1.f k l0_0).bind fun t418 => (some t418)) = some r := h
 clear h
 replace H := bnd_ H; obtain ⟨t418, A2, H⟩ := H
 obtain rfl := Option.some.inj H
 go_enter Tryz.func124, Tryz.ntmps124
 go_wp2_with (first | ((refine gd_ 1 ?_); refine bx_ 1 #[.slice A0_0 l0_0.length c0_0] 50 ?_; intro gb417 hg w3 hbox hb; have BK417 := Aside0.mk (hbox); have GW417 := gw_ HB hg; have GE417 := gw_ HB hg; replace HB := bs_ HB hb; clear hb hbox hg; have hcz4_0 := c1_ BK417; have hfz4_0 := blk_frozen BK417.out 0) | ((refine gc_ 149 ?_); refine gl_ (some 4) Tryz.func149 (v_impl_links__CountDeleted_1.calls k _ _ l0_0 t418 _ (Kd.C_below HR0_0.out (up_ HB.out)) HC0_0.out A2.out) ?_; rintro e w5 ⟨rfl, hb⟩; refine ⟨_, rfl, ?_⟩; replace BK417 := bb_ BK417 hb; replace HB := bs_ HB hb; (try clear hb); (try clear hb2); (try clear hk); (try clear hi)))
 go_ret
 exact ⟨re_, up_ HB.out⟩

/-! ### impl_CountInserted_1: function 151 -/
def impl_CountInserted_1.f (a0_0 : Int) (a0_1 : Int) : Option (Bool) := some (a0_0 == 0)
set_option maxHeartbeats 8000000 in
set_option maxRecDepth 100000 in
theorem impl_CountInserted_1.calls (a0_0 : Int) (a0_1 : Int) (r : Bool) (w : World) (h : impl_CountInserted_1.f a0_0 a0_1 = some r) :
  Calls Tryz.prog 151 #[.agg #[.int .u8 a0_0, .int .u8 a0_1]] w fun e w' => e = .returned (.bool r) ∧ Below w.heap.size w w' := by
 have hu70 := Tryz.underlying70
 have HB := Aside0.mk (Below.refl w.heap.size w)
 have H : (some (a0_0 == 0)) = some r := h
 clear h
 obtain rfl := Option.some.inj H
 go_enter Tryz.func151, Tryz.ntmps151
 go_wp2_with (first | ((refine gd_ 1 ?_); refine bx_ 1 #[.int .u8 a0_0, .int .u8 a0_1] 70 ?_; intro gb419 hg w2 hbox hb; have BK419 := Aside0.mk (hbox); have GW419 := gw_ HB hg; have GE419 := gw_ HB hg; replace HB := bs_ HB hb; clear hb hbox hg; obtain ⟨hcz3_0, hcz3_1⟩ := c2_ BK419; have hfz3_0 := blk_frozen BK419.out 0; have hfz3_1 := blk_frozen BK419.out 1))
 go_ret
 exact ⟨re_, up_ HB.out⟩

/-! ### v_impl_links__CountInserted_1: function 149 -/
def v_impl_links__CountInserted_1.l0 : Nat → Int → List (S70) → Int → Int → List (S70) → Option (Int)
 | 0, _, _, _, _, _ => none
 | k + 1, x5, x9, x10, x11, x421000 => if x11 < x10 then (if 0 ≤ x11 then (if x11 < (x9.length : Int) then ((impl_IsCandidate.f k x421000).bind fun t423 => (if t423 = true then ((impl_CountInserted_1.f ((rd_T70 x9 x11).f0) ((rd_T70 x9 x11).f1)).bind fun t424 => (if t424 = true then (v_impl_links__CountInserted_1.l0 k (wrap64 (x5 + 1)) x9 x10 (wrap64 (x11 + 1)) x421000) else (v_impl_links__CountInserted_1.l0 k x5 x9 x10 (wrap64 (x11 + 1)) x421000))) else (v_impl_links__CountInserted_1.l0 k x5 x9 x10 (wrap64 (x11 + 1)) x421000))) else (none)) else (none)) else (some x5)
def v_impl_links__CountInserted_1.f (k : Nat) (l0_0 : List (S70)) : Option (Int) := v_impl_links__CountInserted_1.l0 k 0 l0_0 (l0_0.length : Int) 0 l0_0
set_option maxHeartbeats 8000000 in
set_option maxRecDepth 100000 in
theorem v_impl_links__CountInserted_1.calls (k : Nat) (A0_0 : Option Addr) (c0_0 : Nat) (l0_0 : List (S70)) (r : Int) (w : World) (hr0_0 : Kd.C k70 w A0_0 l0_0.length l0_0) (hc0_0 : l0_0.length ≤ c0_0) (h : v_impl_links__CountInserted_1.f k l0_0 = some r) :
  Calls Tryz.prog 149 #[.agg #[.slice A0_0 l0_0.length c0_0], .func (.func 151) #[] #[]] w fun e w' => e = .returned (.int .i64 r) ∧ Below w.heap.size w w' := by
 have hu50 := Tryz.underlying50
 have hu70 := Tryz.underlying70
 have HR0_0 := Aside0.mk hr0_0
 have HC0_0 := Aside0.mk hc0_0
 clear hr0_0 hc0_0
 have HB := Aside0.mk (Below.refl w.heap.size w)
 have H : (v_impl_links__CountInserted_1.l0 k 0 l0_0 (l0_0.length : Int) 0 l0_0) = some r := h
 clear h
 have H' := Aside0.mk H
 clear H
 go_enter Tryz.func149, Tryz.ntmps149
 go_wp2_with (first | ((refine gd_ 2 ?_); refine bx_ 2 #[.slice A0_0 l0_0.length c0_0] 50 ?_; intro gb420 hg w2 hbox hb; have BK420 := Aside0.mk (hbox); have GW420 := gw_ HB hg; have GE420 := gw_ HB hg; replace HB := bs_ HB hb; clear hb hbox hg; have hcz3_0 := c1_ BK420; have hfz3_0 := blk_frozen BK420.out 0))
 go_loopg [5, 11] k (fun kq v5 v11 w' => ∃ (x5_1 : Int) (x11_1 : Int), v5 = .int .i64 x5_1 ∧ v11 = .int .i64 x11_1 ∧ Aside0 (v_impl_links__CountInserted_1.l0 kq x5_1 l0_0 (l0_0.length : Int) x11_1 l0_0 = some r) ∧ Aside0 (kq ≤ k) ∧ Aside0 (w'.heap[gb420]? = some (.cells #[(.slice A0_0 l0_0.length c0_0)] 50 (0, 0))) ∧ Aside0 (Below w.heap.size w w'))
 case atStart => exact ⟨(0), (0), rs_, rs_, H', ⟨Nat.le_refl _⟩, ⟨up_ BK420.out⟩, ⟨up_ HB.out⟩⟩
 case round =>
  clear H'
  try clear p2
  try clear hcz3_0
  try clear hfz3_0
  obtain ⟨x5_1, x11_1, rfl, rfl, HA, HK1, BK420, HB⟩ := hrel
  cases gk with
  | zero => exact absurd HA.out (by simp [v_impl_links__CountInserted_1.l0])
  | succ k1 =>
   have H := HA.out
   clear HA
   simp only [v_impl_links__CountInserted_1.l0] at H
   replace H := its_ H; rcases H with ⟨c4b0, H⟩ | ⟨c4b0, H⟩
   ·replace H := its_ H; rcases H with ⟨c5b0, H⟩ | ⟨_, ⟨⟩⟩
    replace H := its_ H; rcases H with ⟨c6b0, H⟩ | ⟨_, ⟨⟩⟩
    replace H := bnd_ H; obtain ⟨t423, A7, H⟩ := H
    replace H := itb_ H; rcases H with ⟨rfl, H⟩ | ⟨rfl, H⟩
    ·replace H := bnd_ H; obtain ⟨t424, A9, H⟩ := H
     replace H := itb_ H; rcases H with ⟨rfl, H⟩ | ⟨rfl, H⟩
     ·have H' := Aside0.mk H
      clear H
      have p421 : 0 ≤ (x11_1 : Int) := od_
      have q421 : x11_1 < (l0_0.length : Int) := od_
      obtain ⟨ad421, e421, hx421_0, hx421_1⟩ := at_T70 HR0_0.out x11_1 p421 q421
      cases e421
      replace hx421_0 := bh_ HB hx421_0
      replace hx421_1 := bh_ HB hx421_1
      replace p421 := eq_true p421
      replace q421 := eq_true q421
      go_wp2_with (first | ((refine gd_ 7 ?_); refine bx_ 7 #[.int .u8 0, .int .u8 0] 70 ?_; intro gb422 hg w11 hbox hb; have BK422 := Aside0.mk (hbox); have GW422 := gw_ HB hg; have GE422 := gw_ HB hg; replace HB := bs_ HB hb; have NB420_422 := Aside0.mk ((by rw [hg]; exact Nat.ne_of_lt (blk_lt (g := gb420) (o := .cells #[.slice (some ad421) l0_0.length c0_0] 50 (0, 0)) (up_ BK420.out)) : gb420 ≠ gb422)); have NB422_420 := Aside0.mk ((by rw [hg]; exact Nat.ne_of_gt (blk_lt (g := gb420) (o := .cells #[.slice (some ad421) l0_0.length c0_0] 50 (0, 0)) (up_ BK420.out)) : gb422 ≠ gb420)); replace BK420 := bb_ BK420 hb; clear hb hbox hg; have hnb12 := NB422_420.out; have hnc12 := NB420_422.out; obtain ⟨hcz13_0, hcz13_1⟩ := c2_ BK422; have hfz13_0 := blk_frozen BK422.out 0; have hfz13_1 := blk_frozen BK422.out 1; have hcz14_0 := c1_ BK420; have hfz14_0 := blk_frozen BK420.out 0) | ((refine gc_ 70 ?_); refine gl_ (some 16) Tryz.func70 (impl_IsCandidate.calls k1 _ _ l0_0 true _ (Kd.C_below HR0_0.out (up_ HB.out)) HC0_0.out A7.out) ?_; rintro e w15 ⟨rfl, hb⟩; refine ⟨_, rfl, ?_⟩; replace BK420 := Aside0.mk (blk_below (g := gb420) (o := .cells #[.slice (some ad421) l0_0.length c0_0] 50 (0, 0)) (by (with_reducible repeat (first | refine blk_drewN ?_ _ | refine blk_drew ?_ | refine blk_alloc ?_ _)); refine blk_far ?_ NB420_422.out _; (with_reducible repeat (first | refine blk_drewN ?_ _ | refine blk_drew ?_ | refine blk_alloc ?_ _)); refine blk_far ?_ NB420_422.out _; (with_reducible repeat (first | refine blk_drewN ?_ _ | refine blk_drew ?_ | refine blk_alloc ?_ _)); exact BK420.out) hb); replace BK422 := Aside0.mk (blk_below (g := gb422) (o := .cells #[.int .u8 ((rd_T70 l0_0 x11_1).f0), .int .u8 ((rd_T70 l0_0 x11_1).f1)] 70 (0, 0)) (by (with_reducible repeat (first | refine blk_drewN ?_ _ | refine blk_drew ?_ | refine blk_alloc ?_ _)); refine blk_put (cs := #[.int .u8 ((rd_T70 l0_0 x11_1).f0), .int .u8 0]) ?_ 1 _ rfl; (with_reducible repeat (first | refine blk_drewN ?_ _ | refine blk_drew ?_ | refine blk_alloc ?_ _)); refine blk_put (cs := #[.int .u8 0, .int .u8 0]) ?_ 0 _ rfl; (with_reducible repeat (first | refine blk_drewN ?_ _ | refine blk_drew ?_ | refine blk_alloc ?_ _)); exact BK422.out) hb); replace HB := bs_ HB hb; (try clear hb); (try clear hb2); (try clear hk); (try clear hi); obtain ⟨hcz16_0, hcz16_1⟩ := c2_ BK422; have hfz16_0 := blk_frozen BK422.out 0; have hfz16_1 := blk_frozen BK422.out 1) | (go_at_call 151; (with_reducible refine (impl_CountInserted_1.calls ((rd_T70 l0_0 x11_1).f0) ((rd_T70 l0_0 x11_1).f1) true _ A9.out).mono ?_); rintro e w17 ⟨rfl, hb⟩; replace BK420 := bb_ BK420 hb; replace BK422 := bb_ BK422 hb; replace HB := bs_ HB hb; (try clear hb); (try clear hb2); (try clear hk); (try clear hi)))
      go_roundg k1
      case measure => have := HK1.out; omega
      case rel => exact ⟨(wrap64 (x5_1 + 1)), (wrap64 (x11_1 + 1)), rs_, rs_, H', ⟨by have := HK1.out; omega⟩, ⟨up_ BK420.out⟩, ⟨up_ HB.out⟩⟩
     ·have H' := Aside0.mk H
      clear H
      have p421 : 0 ≤ (x11_1 : Int) := od_
      have q421 : x11_1 < (l0_0.length : Int) := od_
      obtain ⟨ad421, e421, hx421_0, hx421_1⟩ := at_T70 HR0_0.out x11_1 p421 q421
      cases e421
      replace hx421_0 := bh_ HB hx421_0
      replace hx421_1 := bh_ HB hx421_1
      replace p421 := eq_true p421
      replace q421 := eq_true q421
      go_wp2_with (first | ((refine gd_ 7 ?_); refine bx_ 7 #[.int .u8 0, .int .u8 0] 70 ?_; intro gb422 hg w18 hbox hb; have BK422 := Aside0.mk (hbox); have GW422 := gw_ HB hg; have GE422 := gw_ HB hg; replace HB := bs_ HB hb; have NB420_422 := Aside0.mk ((by rw [hg]; exact Nat.ne_of_lt (blk_lt (g := gb420) (o := .cells #[.slice (some ad421) l0_0.length c0_0] 50 (0, 0)) (up_ BK420.out)) : gb420 ≠ gb422)); have NB422_420 := Aside0.mk ((by rw [hg]; exact Nat.ne_of_gt (blk_lt (g := gb420) (o := .cells #[.slice (some ad421) l0_0.length c0_0] 50 (0, 0)) (up_ BK420.out)) : gb422 ≠ gb420)); replace BK420 := bb_ BK420 hb; clear hb hbox hg; have hnb19 := NB422_420.out; have hnc19 := NB420_422.out; obtain ⟨hcz20_0, hcz20_1⟩ := c2_ BK422; have hfz20_0 := blk_frozen BK422.out 0; have hfz20_1 := blk_frozen BK422.out 1; have hcz21_0 := c1_ BK420; have hfz21_0 := blk_frozen BK420.out 0) | ((refine gc_ 70 ?_); refine gl_ (some 16) Tryz.func70 (impl_IsCandidate.calls k1 _ _ l0_0 true _ (Kd.C_below HR0_0.out (up_ HB.out)) HC0_0.out A7.out) ?_; rintro e w22 ⟨rfl, hb⟩; refine ⟨_, rfl, ?_⟩; replace BK420 := Aside0.mk (blk_below (g := gb420) (o := .cells #[.slice (some ad421) l0_0.length c0_0] 50 (0, 0)) (by (with_reducible repeat (first | refine blk_drewN ?_ _ | refine blk_drew ?_ | refine blk_alloc ?_ _)); refine blk_far ?_ NB420_422.out _; (with_reducible repeat (first | refine blk_drewN ?_ _ | refine blk_drew ?_ | refine blk_alloc ?_ _)); refine blk_far ?_ NB420_422.out _; (with_reducible repeat (first | refine blk_drewN ?_ _ | refine blk_drew ?_ | refine blk_alloc ?_ _)); exact BK420.out) hb); replace BK422 := Aside0.mk (blk_below (g := gb422) (o := .cells #[.int .u8 ((rd_T70 l0_0 x11_1).f0), .int .u8 ((rd_T70 l0_0 x11_1).f1)] 70 (0, 0)) (by (with_reducible repeat (first | refine blk_drewN ?_ _ | refine blk_drew ?_ | refine blk_alloc ?_ _)); refine blk_put (cs := #[.int .u8 ((rd_T70 l0_0 x11_1).f0), .int .u8 0]) ?_ 1 _ rfl; (with_reducible repeat (first | refine blk_drewN ?_ _ | refine blk_drew ?_ | refine blk_alloc ?_ _)); refine blk_put (cs := #[.int .u8 0, .int .u8 0]) ?_ 0 _ rfl; (with_reducible repeat (first | refine blk_drewN ?_ _ | refine blk_drew ?_ | refine blk_alloc ?_ _)); exact BK422.out) hb); replace HB := bs_ HB hb; (try clear hb); (try clear hb2); (try clear hk); (try clear hi); obtain ⟨hcz23_0, hcz23_1⟩ := c2_ BK422; have hfz23_0 := blk_frozen BK422.out 0; have hfz23_1 := blk_frozen BK422.out 1) | (go_at_call 151; (with_reducible refine (impl_CountInserted_1.calls ((rd_T70 l0_0 x11_1).f0) ((rd_T70 l0_0 x11_1).f1) false _ A9.out).mono ?_); rintro e w24 ⟨rfl, hb⟩; replace BK420 := bb_ BK420 hb; replace BK422 := bb_ BK422 hb; replace HB := bs_ HB hb; (try clear hb); (try clear hb2); (try clear hk); (try clear hi)))
      go_roundg k1
      case measure => have := HK1.out; omega
      case rel => exact ⟨(x5_1), (wrap64 (x11_1 + 1)), rs_, rs_, H', ⟨by have := HK1.out; omega⟩, ⟨up_ BK420.out⟩, ⟨up_ HB.out⟩⟩
    ·have H' := Aside0.mk H
     clear H
     have p421 : 0 ≤ (x11_1 : Int) := od_
     have q421 : x11_1 < (l0_0.length : Int) := od_
     obtain ⟨ad421, e421, hx421_0, hx421_1⟩ := at_T70 HR0_0.out x11_1 p421 q421
     cases e421
     replace hx421_0 := bh_ HB hx421_0
     replace hx421_1 := bh_ HB hx421_1
     replace p421 := eq_true p421
     replace q421 := eq_true q421
     go_wp2_with (first | ((refine gd_ 7 ?_); refine bx_ 7 #[.int .u8 0, .int .u8 0] 70 ?_; intro gb422 hg w25 hbox hb; have BK422 := Aside0.mk (hbox); have GW422 := gw_ HB hg; have GE422 := gw_ HB hg; replace HB := bs_ HB hb; have NB420_422 := Aside0.mk ((by rw [hg]; exact Nat.ne_of_lt (blk_lt (g := gb420) (o := .cells #[.slice (some ad421) l0_0.length c0_0] 50 (0, 0)) (up_ BK420.out)) : gb420 ≠ gb422)); have NB422_420 := Aside0.mk ((by rw [hg]; exact Nat.ne_of_gt (blk_lt (g := gb420) (o := .cells #[.slice (some ad421) l0_0.length c0_0] 50 (0, 0)) (up_ BK420.out)) : gb422 ≠ gb420)); replace BK420 := bb_ BK420 hb; clear hb hbox hg; have hnb26 := NB422_420.out; have hnc26 := NB420_422.out; obtain ⟨hcz27_0, hcz27_1⟩ := c2_ BK422; have hfz27_0 := blk_frozen BK422.out 0; have hfz27_1 := blk_frozen BK422.out 1; have hcz28_0 := c1_ BK420; have hfz28_0 := blk_frozen BK420.out 0) | ((refine gc_ 70 ?_); refine gl_ (some 16) Tryz.func70 (impl_IsCandidate.calls k1 _ _ l0_0 false _ (Kd.C_below HR0_0.out (up_ HB.out)) HC0_0.out A7.out) ?_; rintro e w29 ⟨rfl, hb⟩; refine ⟨_, rfl, ?_⟩; replace BK420 := Aside0.mk (blk_below (g := gb420) (o := .cells #[.slice (some ad421) l0_0.length c0_0] 50 (0, 0)) (by (with_reducible repeat (first | refine blk_drewN ?_ _ | refine blk_drew ?_ | refine blk_alloc ?_ _)); refine blk_far ?_ NB420_422.out _; (with_reducible repeat (first | refine blk_drewN ?_ _ | refine blk_drew ?_ | refine blk_alloc ?_ _)); refine blk_far ?_ NB420_422.out _; (with_reducible repeat (first | refine blk_drewN ?_ _ | refine blk_drew ?_ | refine blk_alloc ?_ _)); exact BK420.out) hb); replace BK422 := Aside0.mk (blk_below (g := gb422) (o := .cells #[.int .u8 ((rd_T70 l0_0 x11_1).f0), .int .u8 ((rd_T70 l0_0 x11_1).f1)] 70 (0, 0)) (by (with_reducible repeat (first | refine blk_drewN ?_ _ | refine blk_drew ?_ | refine blk_alloc ?_ _)); refine blk_put (cs := #[.int .u8 ((rd_T70 l0_0 x11_1).f0), .int .u8 0]) ?_ 1 _ rfl; (with_reducible repeat (first | refine blk_drewN ?_ _ | refine blk_drew ?_ | refine blk_alloc ?_ _)); refine blk_put (cs := #[.int .u8 0, .int .u8 0]) ?_ 0 _ rfl; (with_reducible repeat (first | refine blk_drewN ?_ _ | refine blk_drew ?_ | refine blk_alloc ?_ _)); exact BK422.out) hb); replace HB := bs_ HB hb; (try clear hb); (try clear hb2); (try clear hk); (try clear hi)))
     go_roundg k1
     case measure => have := HK1.out; omega
     case rel => exact ⟨(x5_1), (wrap64 (x11_1 + 1)), rs_, rs_, H', ⟨by have := HK1.out; omega⟩, ⟨up_ BK420.out⟩, ⟨up_ HB.out⟩⟩
   ·obtain rfl := Option.some.inj H
    go_wp2
    go_ret
    exact ⟨re_, up_ HB.out⟩

/-! ### impl_CountInserted: function 125 -/
def impl_CountInserted.f (k : Nat) (l0_0 : List (S70)) : Option (Int) := (v_impl_links__CountInserted_1.f k l0_0).bind fun t426 => (some t426)
set_option maxHeartbeats 8000000 in
set_option maxRecDepth 100000 in
theorem impl_CountInserted.calls (k : Nat) (A0_0 : Option Addr) (c0_0 : Nat) (l0_0 : List (S70)) (r : Int) (w : World) (hr0_0 : Kd.C k70 w A0_0 l0_0.length l0_0) (hc0_0 : l0_0.length ≤ c0_0) (h : impl_CountInserted.f k l0_0 = some r) :
  Calls Tryz.prog 125 #[.agg #[.slice A0_0 l0_0.length c0_0]] w fun e w' => e = .returned (.int .i64 r) ∧ Below w.heap.size w w' := by
 have hu50 := Tryz.underlying50
 have HR0_0 := Aside0.mk hr0_0
 have HC0_0 := Aside0.mk hc0_0
 clear hr0_0 hc0_0
 have HB := Aside0.mk (Below.refl w.heap.size w)
 have H : ((v_impl_links__CountInserted_1.f k l0_0).bind fun t426 => (some t426)) = some r := h
 clear h
 replace H := bnd_ H; obtain ⟨t426, A2, H⟩ := H
 obtain rfl := Option.some.inj H
 go_enter Tryz.func125, Tryz.ntmps125
 go_wp2_with (first | ((refine gd_ 1 ?_); refine bx_ 1 #[.slice A0_0 l0_0.length c0_0] 50 ?_; intro gb425 hg w3 hbox hb; have BK425 := Aside0.mk (hbox); have GW425 := gw_ HB hg; have GE425 := gw_ HB hg; replace HB := bs_ HB hb; clear hb hbox hg; have hcz4_0 := c1_ BK425; have hfz4_0 := blk_frozen BK425.out 0) | ((refine gc_ 149 ?_); refine gl_ (some 4) Tryz.func149 (v_impl_links__CountInserted_1.calls k _ _ l0_0 t426 _ (Kd.C_below HR0_0.out (up_ HB.out)) HC0_0.out A2.out) ?_; rintro e w5 ⟨rfl, hb⟩; refine ⟨_, rfl, ?_⟩; replace BK425 := bb_ BK425 hb; replace HB := bs_ HB hb; (try clear hb); (try clear hb2); (try clear hk); (try clear hi)))
 go_ret
 exact ⟨re_, up_ HB.out⟩

/-! ### impl_CountVoiceChanged_1: function 152 -/
def impl_CountVoiceChanged_1.f (a0_0 : Int) (a0_1 : Int) : Option (Bool) := if a0_0 = 0 then (some false) else (if a0_1 = 0 then (some false) else (some (a0_0 != a0_1)))
set_option maxHeartbeats 8000000 in
set_option maxRecDepth 100000 in
theorem impl_CountVoiceChanged_1.calls (a0_0 : Int) (a0_1 : Int) (r : Bool) (w : World) (h : impl_CountVoiceChanged_1.f a0_0 a0_1 = some r) :
  Calls Tryz.prog 152 #[.agg #[.int .u8 a0_0, .int .u8 a0_1]] w fun e w' => e = .returned (.bool r) ∧ Below w.heap.size w w' := by
 have hu70 := Tryz.underlying70
 have HB := Aside0.mk (Below.refl w.heap.size w)
 have H : (if a0_0 = 0 then (some false) else (if a0_1 = 0 then (some false) else (some (a0_0 != a0_1)))) = some r := h
 clear h
 replace H := ieq_ H; rcases H with ⟨-, c2b0, c2b1, H⟩ | ⟨c2, c2b0, c2b1, H⟩
 ·obtain rfl := Option.some.inj H
  go_enter Tryz.func152, Tryz.ntmps152
  go_wp2_with (first | ((refine gd_ 1 ?_); refine bx_ 1 #[.int .u8 a0_0, .int .u8 a0_1] 70 ?_; intro gb427 hg w3 hbox hb; have BK427 := Aside0.mk (hbox); have GW427 := gw_ HB hg; have GE427 := gw_ HB hg; replace HB := bs_ HB hb; clear hb hbox hg; obtain ⟨hcz4_0, hcz4_1⟩ := c2_ BK427; have hfz4_0 := blk_frozen BK427.out 0; have hfz4_1 := blk_frozen BK427.out 1))
  go_ret
  exact ⟨re_, up_ HB.out⟩
 ·replace H := ieq_ H; rcases H with ⟨-, c5b0, c5b1, H⟩ | ⟨c5, c5b0, c5b1, H⟩
  ·obtain rfl := Option.some.inj H
   go_enter Tryz.func152, Tryz.ntmps152
   go_wp2_with (first | ((refine gd_ 1 ?_); refine bx_ 1 #[.int .u8 a0_0, .int .u8 a0_1] 70 ?_; intro gb427 hg w6 hbox hb; have BK427 := Aside0.mk (hbox); have GW427 := gw_ HB hg; have GE427 := gw_ HB hg; replace HB := bs_ HB hb; clear hb hbox hg; obtain ⟨hcz7_0, hcz7_1⟩ := c2_ BK427; have hfz7_0 := blk_frozen BK427.out 0; have hfz7_1 := blk_frozen BK427.out 1))
   go_ret
   exact ⟨re_, up_ HB.out⟩
  ·obtain rfl := Option.some.inj H
   go_enter Tryz.func152, Tryz.ntmps152
   go_wp2_with (first | ((refine gd_ 1 ?_); refine bx_ 1 #[.int .u8 a0_0, .int .u8 a0_1] 70 ?_; intro gb427 hg w8 hbox hb; have BK427 := Aside0.mk (hbox); have GW427 := gw_ HB hg; have GE427 := gw_ HB hg; replace HB := bs_ HB hb; clear hb hbox hg; obtain ⟨hcz9_0, hcz9_1⟩ := c2_ BK427; have hfz9_0 := blk_frozen BK427.out 0; have hfz9_1 := blk_frozen BK427.out 1))
   go_ret
   exact ⟨re_, up_ HB.out⟩

/-! ### v_impl_links__CountVoiceChanged_1: function 149 -/
def v_impl_links__CountVoiceChanged_1.l0 : Nat → Int → List (S70) → Int → Int → List (S70) → Option (Int)
 | 0, _, _, _, _, _ => none
 | k + 1, x5, x9, x10, x11, x429000 => if x11 < x10 then (if 0 ≤ x11 then (if x11 < (x9.length : Int) then ((impl_IsCandidate.f k x429000).bind fun t431 => (if t431 = true then ((impl_CountVoiceChanged_1.f ((rd_T70 x9 x11).f0) ((rd_T70 x9 x11).f1)).bind fun t432 => (if t432 = true then (v_impl_links__CountVoiceChanged_1.l0 k (wrap64 (x5 + 1)) x9 x10 (wrap64 (x11 + 1)) x429000) else (v_impl_links__CountVoiceChanged_1.l0 k x5 x9 x10 (wrap64 (x11 + 1)) x429000))) else (v_impl_links__CountVoiceChanged_1.l0 k x5 x9 x10 (wrap64 (x11 + 1)) x429000))) else (none)) else (none)) else (some x5)
def v_impl_links__CountVoiceChanged_1.f (k : Nat) (l0_0 : List (S70)) : Option (Int) := v_impl_links__CountVoiceChanged_1.l0 k 0 l0_0 (l0_0.length : Int) 0 l0_0
set_option maxHeartbeats 8000000 in
set_option maxRecDepth 100000 in
theorem v_impl_links__CountVoiceChanged_1.calls (k : Nat) (A0_0 : Option Addr) (c0_0 : Nat) (l0_0 : List (S70)) (r : Int) (w : World) (hr0_0 : Kd.C k70 w A0_0 l0_0.length l0_0) (hc0_0 : l0_0.length ≤ c0_0) (h : v_impl_links__CountVoiceChanged_1.f k l0_0 = some r) :
  Calls Tryz.prog 149 #[.agg #[.slice A0_0 l0_0.length c0_0], .func (.func 152) #[] #[]] w fun e w' => e = .returned (.int .i64 r) ∧ Below w.heap.size w w' := by
 have hu50 := Tryz.underlying50
 have hu70 := Tryz.underlying70
 have HR0_0 := Aside0.mk hr0_0
 have HC0_0 := Aside0.mk hc0_0
 clear hr0_0 hc0_0
 have HB := Aside0.mk (Below.refl w.heap.size w)
 have H : (v_impl_links__CountVoiceChanged_1.l0 k 0 l0_0 (l0_0.length : Int) 0 l0_0) = some r := h
 clear h
 have H' := Aside0.mk H
 clear H
 go_enter Tryz.func149, Tryz.ntmps149
 go_wp2_with (first | ((refine gd_ 2 ?_); refine bx_ 2 #[.slice A0_0 l0_0.length c0_0] 50 ?_; intro gb428 hg w2 hbox hb; have BK428 := Aside0.mk (hbox); have GW428 := gw_ HB hg; have GE428 := gw_ HB hg; replace HB := bs_ HB hb; clear hb hbox hg; have hcz3_0 := c1_ BK428; have hfz3_0 := blk_frozen BK428.out 0))
 go_loopg [5, 11] k (fun kq v5 v11 w' => ∃ (x5_1 : Int) (x11_1 : Int), v5 = .int .i64 x5_1 ∧ v11 = .int .i64 x11_1 ∧ Aside0 (v_impl_links__CountVoiceChanged_1.l0 kq x5_1 l0_0 (l0_0.length : Int) x11_1 l0_0 = some r) ∧ Aside0 (kq ≤ k) ∧ Aside0 (w'.heap[gb428]? = some (.cells #[(.slice A0_0 l0_0.length c0_0)] 50 (0, 0))) ∧ Aside0 (Below w.heap.size w w'))
 case atStart => exact ⟨(0), (0), rs_, rs_, H', ⟨Nat.le_refl _⟩, ⟨up_ BK428.out⟩, ⟨up_ HB.out⟩⟩
 case round =>
  clear H'
  try clear p2
  try clear hcz3_0
  try clear hfz3_0
  obtain ⟨x5_1, x11_1, rfl, rfl, HA, HK1, BK428, HB⟩ := hrel
  cases gk with
  | zero => exact absurd HA.out (by simp [v_impl_links__CountVoiceChanged_1.l0])
  | succ k1 =>
   have H := HA.out
   clear HA
   simp only [v_impl_links__CountVoiceChanged_1.l0] at H
   replace H := its_ H; rcases H with ⟨c4b0, H⟩ | ⟨c4b0, H⟩
   ·replace H := its_ H; rcases H with ⟨c5b0, H⟩ | ⟨_, ⟨⟩⟩
    replace H := its_ H; rcases H with ⟨c6b0, H⟩ | ⟨_, ⟨⟩⟩
    replace H := bnd_ H; obtain ⟨t431, A7, H⟩ := H
    replace H := itb_ H; rcases H with ⟨rfl, H⟩ | ⟨rfl, H⟩
    ·replace H := bnd_ H; obtain ⟨t432, A9, H⟩ := H
     replace H := itb_ H; rcases H with ⟨rfl, H⟩ | ⟨rfl, H⟩
     ·have H' := Aside0.mk H
      clear H
      have p429 : 0 ≤ (x11_1 : Int) := od_
      have q429 : x11_1 < (l0_0.length : Int) := od_
      obtain ⟨ad429, e429, hx429_0, hx429_1⟩ := at_T70 HR0_0.out x11_1 p429 q429
      cases e429
      replace hx429_0 := bh_ HB hx429_0
      replace hx429_1 := bh_ HB hx429_1
      replace p429 := eq_true p429
      replace q429 := eq_true q429
      go_wp2_with (first | ((refine gd_ 7 ?_); refine bx_ 7 #[.int .u8 0, .int .u8 0] 70 ?_; intro gb430 hg w11 hbox hb; have BK430 := Aside0.mk (hbox); have GW430 := gw_ HB hg; have GE430 := gw_ HB hg; replace HB := bs_ HB hb; have NB428_430 := Aside0.mk ((by rw [hg]; exact Nat.ne_of_lt (blk_lt (g := gb428) (o := .cells #[.slice (some ad429) l0_0.length c0_0] 50 (0, 0)) (up_ BK428.out)) : gb428 ≠ gb430)); have NB430_428 := Aside0.mk ((by rw [hg]; exact Nat.ne_of_gt (blk_lt (g := gb428) (o := .cells #[.slice (some ad429) l0_0.length c0_0] 50 (0, 0)) (up_ BK428.out)) : gb430 ≠ gb428)); replace BK428 := bb_ BK428 hb; clear hb hbox hg; have hnb12 := NB430_428.out; have hnc12 := NB428_430.out; obtain ⟨hcz13_0, hcz13_1⟩ := c2_ BK430; have hfz13_0 := blk_frozen BK430.out 0; have hfz13_1 := blk_frozen BK430.out 1; have hcz14_0 := c1_ BK428; have hfz14_0 := blk_frozen BK428.out 0) | ((refine gc_ 70 ?_); refine gl_ (some 16) Tryz.func70 (impl_IsCandidate.calls k1 _ _ l0_0 true _ (Kd.C_below HR0_0.out (up_ HB.out)) HC0_0.out A7.out) ?_; rintro e w15 ⟨rfl, hb⟩; refine ⟨_, rfl, ?_⟩; replace BK428 := Aside0.mk (blk_below (g := gb428) (o := .cells #[.slice (some ad429) l0_0.length c0_0] 50 (0, 0)) (by (with_reducible repeat (first | refine blk_drewN ?_ _ | refine blk_drew ?_ | refine blk_alloc ?_ _)); refine blk_far ?_ NB428_430.out _; (with_reducible repeat (first | refine blk_drewN ?_ _ | refine blk_drew ?_ | refine blk_alloc ?_ _)); refine blk_far ?_ NB428_430.out _; (with_reducible repeat (first | refine blk_drewN ?_ _ | refine blk_drew ?_ | refine blk_alloc ?_ _)); exact BK428.out) hb); replace BK430 := Aside0.mk (blk_below (g := gb430) (o := .cells #[.int .u8 ((rd_T70 l0_0 x11_1).f0), .int .u8 ((rd_T70 l0_0 x11_1).f1)] 70 (0, 0)) (by (with_reducible repeat (first | refine blk_drewN ?_ _ | refine blk_drew ?_ | refine blk_alloc ?_ _)); refine blk_put (cs := #[.int .u8 ((rd_T70 l0_0 x11_1).f0), .int .u8 0]) ?_ 1 _ rfl; (with_reducible repeat (first | refine blk_drewN ?_ _ | refine blk_drew ?_ | refine blk_alloc ?_ _)); refine blk_put (cs := #[.int .u8 0, .int .u8 0]) ?_ 0 _ rfl; (with_reducible repeat (first | refine blk_drewN ?_ _ | refine blk_drew ?_ | refine blk_alloc ?_ _)); exact BK430.out) hb); replace HB := bs_ HB hb; (try clear hb); (try clear hb2); (try clear hk); (try clear hi); obtain ⟨hcz16_0, hcz16_1⟩ := c2_ BK430; have hfz16_0 := blk_frozen BK430.out 0; have hfz16_1 := blk_frozen BK430.out 1) | (go_at_call 152; (with_reducible refine (impl_CountVoiceChanged_1.calls ((rd_T70 l0_0 x11_1).f0) ((rd_T70 l0_0 x11_1).f1) true _ A9.out).mono ?_); rintro e w17 ⟨rfl, hb⟩; replace BK428 := bb_ BK428 hb; replace BK430 := bb_ BK430 hb; replace HB := bs_ HB hb; (try clear hb); (try clear hb2); (try clear hk); (try clear hi)))
      go_roundg k1
      case measure => have := HK1.out; omega
      case rel => exact ⟨(wrap64 (x5_1 + 1)), (wrap64 (x11_1 + 1)), rs_, rs_, H', ⟨by have := HK1.out; omega⟩, ⟨up_ BK428.out⟩, ⟨up_ HB.out⟩⟩
     ·have H' := Aside0.mk H
      clear H
      have p429 : 0 ≤ (x11_1 : Int) := od_
      have q429 : x11_1 < (l0_0.length : Int) := od_
      obtain ⟨ad429, e429, hx429_0, hx429_1⟩ := at_T70 HR0_0.out x11_1 p429 q429
      cases e429
      replace hx429_0 := bh_ HB hx429_0
      replace hx429_1 := bh_ HB hx429_1
      replace p429 := eq_true p429
      replace q429 := eq_true q429
      go_wp2_with (first | ((refine gd_ 7 ?_); refine bx_ 7 #[.int .u8 0, .int .u8 0] 70 ?_; intro gb430 hg w18 hbox hb; have BK430 := Aside0.mk (hbox); have GW430 := gw_ HB hg; have GE430 := gw_ HB hg; replace HB := bs_ HB hb; have NB428_430 := Aside0.mk ((by rw [hg]; exact Nat.ne_of_lt (blk_lt (g := gb428) (o := .cells #[.slice (some ad429) l0_0.length c0_0] 50 (0, 0)) (up_ BK428.out)) : gb428 ≠ gb430)); have NB430_428 := Aside0.mk ((by rw [hg]; exact Nat.ne_of_gt (blk_lt (g := gb428) (o := .cells #[.slice (some ad429) l0_0.length c0_0] 50 (0, 0)) (up_ BK428.out)) : gb430 ≠ gb428)); replace BK428 := bb_ BK428 hb; clear hb hbox hg; have hnb19 := NB430_428.out; have hnc19 := NB428_430.out; obtain ⟨hcz20_0, hcz20_1⟩ := c2_ BK430; have hfz20_0 := blk_frozen BK430.out 0; have hfz20_1 := blk_frozen BK430.out 1; have hcz21_0 := c1_ BK428; have hfz21_0 := blk_frozen BK428.out 0) | ((refine gc_ 70 ?_); refine gl_ (some 16) Tryz.func70 (impl_IsCandidate.calls k1 _ _ l0_0 true _ (Kd.C_below HR0_0.out (up_ HB.out)) HC0_0.out A7.out) ?_; rintro e w22 ⟨rfl, hb⟩; refine ⟨_, rfl, ?_⟩; replace BK428 := Aside0.mk (blk_below (g := gb428) (o := .cells #[.slice (some ad429) l0_0.length c0_0] 50 (0, 0)) (by (with_reducible repeat (first | refine blk_drewN ?_ _ | refine blk_drew ?_ | refine blk_alloc ?_ _)); refine blk_far ?_ NB428_430.out _; (with_reducible repeat (first | refine blk_drewN ?_ _ | refine blk_drew ?_ | refine blk_alloc ?_ _)); refine blk_far ?_ NB428_430.out _; (with_reducible repeat (first | refine blk_drewN ?_ _ | refine blk_drew ?_ | refine blk_alloc ?_ _)); exact BK428.out) hb); replace BK430 := Aside0.mk (blk_below (g := gb430) (o := .cells #[.int .u8 ((rd_T70 l0_0 x11_1).f0), .int .u8 ((rd_T70 l0_0 x11_1).f1)] 70 (0, 0)) (by (with_reducible repeat (first | refine blk_drewN ?_ _ | refine blk_drew ?_ | refine blk_alloc ?_ _)); refine blk_put (cs := #[.int .u8 ((rd_T70 l0_0 x11_1).f0), .int .u8 0]) ?_ 1 _ rfl; (with_reducible repeat (first | refine blk_drewN ?_ _ | refine blk_drew ?_ | refine blk_alloc ?_ _)); refine blk_put (cs := #[.int .u8 0, .int .u8 0]) ?_ 0 _ rfl; (with_reducible repeat (first | refine blk_drewN ?_ _ | refine blk_drew ?_ | refine blk_alloc ?_ _)); exact BK430.out) hb); replace HB := bs_ HB hb; (try clear hb); (try clear hb2); (try clear hk); (try clear hi); obtain ⟨hcz23_0, hcz23_1⟩ := c2_ BK430; have hfz23_0 := blk_frozen BK430.out 0; have hfz23_1 := blk_frozen BK430.out 1) | (go_at_call 152; (with_reducible refine (impl_CountVoiceChanged_1.calls ((rd_T70 l0_0 x11_1).f0) ((rd_T70 l0_0 x11_1).f1) false _ A9.out).mono ?_); rintro e w24 ⟨rfl, hb⟩; replace BK428 := bb_ BK428 hb; replace BK430 := bb_ BK430 hb; replace HB := bs_ HB hb; (try clear hb); (try clear hb2); (try clear hk); (try clear hi)))
      go_roundg k1
      case measure => have := HK1.out; omega
      case rel => exact ⟨(x5_1), (wrap64 (x11_1 + 1)), rs_, rs_, H', ⟨by have := HK1.out; omega⟩, ⟨up_ BK428.out⟩, ⟨up_ HB.out⟩⟩
    ·have H' := Aside0.mk H
     clear H
     have p429 : 0 ≤ (x11_1 : Int) := od_
     have q429 : x11_1 < (l0_0.length : Int) := od_
     obtain ⟨ad429, e429, hx429_0, hx429_1⟩ := at_T70 HR0_0.out x11_1 p429 q429
     cases e429
     replace hx429_0 := bh_ HB hx429_0
     replace hx429_1 := bh_ HB hx429_1
     replace p429 := eq_true p429
     replace q429 := eq_true q429
     go_wp2_with (first | ((refine gd_ 7 ?_); refine bx_ 7 #[.int .u8 0, .int .u8 0] 70 ?_; intro gb430 hg w25 hbox hb; have BK430 := Aside0.mk (hbox); have GW430 := gw_ HB hg; have GE430 := gw_ HB hg; replace HB := bs_ HB hb; have NB428_430 := Aside0.mk ((by rw [hg]; exact Nat.ne_of_lt (blk_lt (g := gb428) (o := .cells #[.slice (some ad429) l0_0.length c0_0] 50 (0, 0)) (up_ BK428.out)) : gb428 ≠ gb430)); have NB430_428 := Aside0.mk ((by rw [hg]; exact Nat.ne_of_gt (blk_lt (g := gb428) (o := .cells #[.slice (some ad429) l0_0.length c0_0] 50 (0, 0)) (up_ BK428.out)) : gb430 ≠ gb428)); replace BK428 := bb_ BK428 hb; clear hb hbox hg; have hnb26 := NB430_428.out; have hnc26 := NB428_430.out; obtain ⟨hcz27_0, hcz27_1⟩ := c2_ BK430; have hfz27_0 := blk_frozen BK430.out 0; have hfz27_1 := blk_frozen BK430.out 1; have hcz28_0 := c1_ BK428; have hfz28_0 := blk_frozen BK428.out 0) | ((refine gc_ 70 ?_); refine gl_ (some 16) Tryz.func70 (impl_IsCandidate.calls k1 _ _ l0_0 false _ (Kd.C_below HR0_0.out (up_ HB.out)) HC0_0.out A7.out) ?_; rintro e w29 ⟨rfl, hb⟩; refine ⟨_, rfl, ?_⟩; replace BK428 := Aside0.mk (blk_below (g := gb428) (o := .cells #[.slice (some ad429) l0_0.length c0_0] 50 (0, 0)) (by (with_reducible repeat (first | refine blk_drewN ?_ _ | refine blk_drew ?_ | refine blk_alloc ?_ _)); refine blk_far ?_ NB428_430.out _; (with_reducible repeat (first | refine blk_drewN ?_ _ | refine blk_drew ?_ | refine blk_alloc ?_ _)); refine blk_far ?_ NB428_430.out _; (with_reducible repeat (first | refine blk_drewN ?_ _ | refine blk_drew ?_ | refine blk_alloc ?_ _)); exact BK428.out) hb); replace BK430 := Aside0.mk (blk_below (g := gb430) (o := .cells #[.int .u8 ((rd_T70 l0_0 x11_1).f0), .int .u8 ((rd_T70 l0_0 x11_1).f1)] 70 (0, 0)) (by (with_reducible repeat (first | refine blk_drewN ?_ _ | refine blk_drew ?_ | refine blk_alloc ?_ _)); refine blk_put (cs := #[.int .u8 ((rd_T70 l0_0 x11_1).f0), .int .u8 0]) ?_ 1 _ rfl; (with_reducible repeat (first | refine blk_drewN ?_ _ | refine blk_drew ?_ | refine blk_alloc ?_ _)); refine blk_put (cs := #[.int .u8 0, .int .u8 0]) ?_ 0 _ rfl; (with_reducible repeat (first | refine blk_drewN ?_ _ | refine blk_drew ?_ | refine blk_alloc ?_ _)); exact BK430.out) hb); replace HB := bs_ HB hb; (try clear hb); (try clear hb2); (try clear hk); (try clear hi)))
     go_roundg k1
     case measure => have := HK1.out; omega
     case rel => exact ⟨(x5_1), (wrap64 (x11_1 + 1)), rs_, rs_, H', ⟨by have := HK1.out; omega⟩, ⟨up_ BK428.out⟩, ⟨up_ HB.out⟩⟩
   ·obtain rfl := Option.some.inj H
    go_wp2
    go_ret
    exact ⟨re_, up_ HB.out⟩

/-! ### impl_CountVoiceChanged: function 126 -/
def impl_CountVoiceChanged.f (k : Nat) (l0_0 : List (S70)) : Option (Int) := (v_impl_links__CountVoiceChanged_1.f k l0_0).bind fun t434 => (some t434)
set_option maxHeartbeats 8000000 in
set_option maxRecDepth 100000 in
theorem impl_CountVoiceChanged.calls (k : Nat) (A0_0 : Option Addr) (c0_0 : Nat) (l0_0 : List (S70)) (r : Int) (w : World) (hr0_0 : Kd.C k70 w A0_0 l0_0.length l0_0) (hc0_0 : l0_0.length ≤ c0_0) (h : impl_CountVoiceChanged.f k l0_0 = some r) :
  Calls Tryz.prog 126 #[.agg #[.slice A0_0 l0_0.length c0_0]] w fun e w' => e = .returned (.int .i64 r) ∧ Below w.heap.size w w' := by
 have hu50 := Tryz.underlying50
 have HR0_0 := Aside0.mk hr0_0
 have HC0_0 := Aside0.mk hc0_0
 clear hr0_0 hc0_0
 have HB := Aside0.mk (Below.refl w.heap.size w)
 have H : ((v_impl_links__CountVoiceChanged_1.f k l0_0).bind fun t434 => (some t434)) = some r := h
 clear h
 replace H := bnd_ H; obtain ⟨t434, A2, H⟩ := H
 obtain rfl := Option.some.inj H
 go_enter Tryz.func126, Tryz.ntmps126
 go_wp2_with (first | ((refine gd_ 1 ?_); refine bx_ 1 #[.slice A0_0 l0_0.length c0_0] 50 ?_; intro gb433 hg w3 hbox hb; have BK433 := Aside0.mk (hbox); have GW433 := gw_ HB hg; have GE433 := gw_ HB hg; replace HB := bs_ HB hb; clear hb hbox hg; have hcz4_0 := c1_ BK433; have hfz4_0 := blk_frozen BK433.out 0) | ((refine gc_ 149 ?_); refine gl_ (some 4) Tryz.func149 (v_impl_links__CountVoiceChanged_1.calls k _ _ l0_0 t434 _ (Kd.C_below HR0_0.out (up_ HB.out)) HC0_0.out A2.out) ?_; rintro e w5 ⟨rfl, hb⟩; refine ⟨_, rfl, ?_⟩; replace BK433 := bb_ BK433 hb; replace HB := bs_ HB hb; (try clear hb); (try clear hb2); (try clear hk); (try clear hi)))
 go_ret
 exact ⟨re_, up_ HB.out⟩

end Go.Proofs.YtkddpilambnicaaGreat.PFnExactDifferencesFor
