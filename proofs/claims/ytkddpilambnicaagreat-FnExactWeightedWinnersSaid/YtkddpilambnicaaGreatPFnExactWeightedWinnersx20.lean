/- Walks of Go functions that the law FnExactWeightedWinners uses: written by this session's program out of the kit's printer; each shows that a call comes to the answers of the Lean function beside it. Conditions: each contract's own. -/
import Derived.Test.YtkddpilambnicaaGreatPFnExactWeightedWinnersx0
import Derived.Test.YtkddpilambnicaaGreatPFnExactWeightedWinnersx16
import Derived.Test.YtkddpilambnicaaGreatPFnExactWeightedWinnersx19
namespace Go.Proofs.YtkddpilambnicaaGreat.PFnExactWeightedWinners
open Go.RowKit Go.Proofs.YtkddpilambnicaaGreatW.PrintWords Go.Proofs.YtkddpilambnicaaGreatW.PrintLast Go.Proofs.YtkddpilambnicaaGreatW.PrintMore Go.Proofs.YtkddpilambnicaaGreat.Mac Go.Proofs.YtkddpilambnicaaGreat.Law
attribute [local go_sem] max2_int min2_int max_two min_two max_three min_three max_four min_four   -- for this text's walks alone
set_option linter.unusedVariables false
set_option linter.unusedSimpArgs false

/-! ### v_impl_links__CountDeleted_1: function 149 -/
def v_impl_links__CountDeleted_1.l0 : Nat → Int → List (S70) → Int → Int → List (S70) → Option (Int)
 | 0, _, _, _, _, _ => none
 | k + 1, x5, x9, x10, x11, x446000 => if x11 < x10 then (if 0 ≤ x11 then (if x11 < (x9.length : Int) then ((impl_IsCandidate.f k x446000).bind fun t448 => (if t448 = true then ((impl_CountDeleted_1.f ((rd_T70 x9 x11).f0) ((rd_T70 x9 x11).f1)).bind fun t449 => (if t449 = true then (v_impl_links__CountDeleted_1.l0 k (wrap64 (x5 + 1)) x9 x10 (wrap64 (x11 + 1)) x446000) else (v_impl_links__CountDeleted_1.l0 k x5 x9 x10 (wrap64 (x11 + 1)) x446000))) else (v_impl_links__CountDeleted_1.l0 k x5 x9 x10 (wrap64 (x11 + 1)) x446000))) else (none)) else (none)) else (some x5)
def v_impl_links__CountDeleted_1.f (k : Nat) (l0_0 : List (S70)) : Option (Int) := v_impl_links__CountDeleted_1.l0 k 0 l0_0 (l0_0.length : Int) 0 l0_0
set_option maxHeartbeats 8000000 in
set_option maxRecDepth 100000 in
theorem v_impl_links__CountDeleted_1.calls (k : Nat) (A0_0 : Option Addr) (c0_0 : Nat) (l0_0 : List (S70)) (r : Int) (w : World) (hr0_0 : Kd.C k70 w A0_0 l0_0.length l0_0) (hc0_0 : l0_0.length ≤ c0_0) (h : v_impl_links__CountDeleted_1.f k l0_0 = some r) :
  Calls Tryz.prog 149 #[.agg #[.slice A0_0 l0_0.length c0_0], .func (.func 150) #[] #[]] w fun e w' => e = .returned (.int .i64 r) ∧ Below w.heap.size w w' := by
 have hu50 := Tryz.underlying50
 have hu70 := Tryz.underlying70
 have HR0_0 := Aside0.mk hr0_0
 have HC0_0 := Aside0.mk hc0_0
 clear hr0_0 hc0_0
 have HB := Aside0.mk (Below.refl w.heap.size w)
 have H : (v_impl_links__CountDeleted_1.l0 k 0 l0_0 (l0_0.length : Int) 0 l0_0) = some r := h
 clear h
 have H' := Aside0.mk H
 clear H
 go_enter Tryz.func149, Tryz.ntmps149
 go_wp2_with (first | ((refine gd_ 2 ?_); refine bx_ 2 #[.slice A0_0 l0_0.length c0_0] 50 ?_; intro gb445 hg w2 hbox hb; have BK445 := Aside0.mk (hbox); have GW445 := gw_ HB hg; have GE445 := gw_ HB hg; replace HB := bs_ HB hb; clear hb hbox hg; have hcz3_0 := c1_ BK445; have hfz3_0 := blk_frozen BK445.out 0))
 go_loopg [5, 11] k (fun kq v5 v11 w' => ∃ (x5_1 : Int) (x11_1 : Int), v5 = .int .i64 x5_1 ∧ v11 = .int .i64 x11_1 ∧ Aside0 (v_impl_links__CountDeleted_1.l0 kq x5_1 l0_0 (l0_0.length : Int) x11_1 l0_0 = some r) ∧ Aside0 (kq ≤ k) ∧ Aside0 (w'.heap[gb445]? = some (.cells #[(.slice A0_0 l0_0.length c0_0)] 50 (0, 0))) ∧ Aside0 (Below w.heap.size w w'))
 case atStart => exact ⟨(0), (0), rs_, rs_, H', ⟨Nat.le_refl _⟩, ⟨up_ BK445.out⟩, ⟨up_ HB.out⟩⟩
 case round =>
  clear H'
  try clear p2
  try clear hcz3_0
  try clear hfz3_0
  obtain ⟨x5_1, x11_1, rfl, rfl, HA, HK1, BK445, HB⟩ := hrel
  cases gk with
  | zero => exact absurd HA.out (by simp [v_impl_links__CountDeleted_1.l0])
  | succ k1 =>
   have H := HA.out
   clear HA
   simp only [v_impl_links__CountDeleted_1.l0] at H
   replace H := its_ H; rcases H with ⟨c4b0, H⟩ | ⟨c4b0, H⟩
   ·replace H := its_ H; rcases H with ⟨c5b0, H⟩ | ⟨_, ⟨⟩⟩
    replace H := its_ H; rcases H with ⟨c6b0, H⟩ | ⟨_, ⟨⟩⟩
    replace H := bnd_ H; obtain ⟨t448, A7, H⟩ := H
    replace H := itb_ H; rcases H with ⟨rfl, H⟩ | ⟨rfl, H⟩
    ·replace H := bnd_ H; obtain ⟨t449, A9, H⟩ := H
     replace H := itb_ H; rcases H with ⟨rfl, H⟩ | ⟨rfl, H⟩
     ·have H' := Aside0.mk H
      clear H
      have p446 : 0 ≤ (x11_1 : Int) := od_
      have q446 : x11_1 < (l0_0.length : Int) := od_
      obtain ⟨ad446, e446, hx446_0, hx446_1⟩ := at_T70 HR0_0.out x11_1 p446 q446
      cases e446
      replace hx446_0 := bh_ HB hx446_0
      replace hx446_1 := bh_ HB hx446_1
      replace p446 := eq_true p446
      replace q446 := eq_true q446
      go_wp2_with (first | ((refine gd_ 7 ?_); refine bx_ 7 #[.int .u8 0, .int .u8 0] 70 ?_; intro gb447 hg w11 hbox hb; have BK447 := Aside0.mk (hbox); have GW447 := gw_ HB hg; have GE447 := gw_ HB hg; replace HB := bs_ HB hb; have NB445_447 := Aside0.mk ((by rw [hg]; exact Nat.ne_of_lt (blk_lt (g := gb445) (o := .cells #[.slice (some ad446) l0_0.length c0_0] 50 (0, 0)) (up_ BK445.out)) : gb445 ≠ gb447)); have NB447_445 := Aside0.mk ((by rw [hg]; exact Nat.ne_of_gt (blk_lt (g := gb445) (o := .cells #[.slice (some ad446) l0_0.length c0_0] 50 (0, 0)) (up_ BK445.out)) : gb447 ≠ gb445)); replace BK445 := bb_ BK445 hb; clear hb hbox hg; have hnb12 := NB447_445.out; have hnc12 := NB445_447.out; obtain ⟨hcz13_0, hcz13_1⟩ := c2_ BK447; have hfz13_0 := blk_frozen BK447.out 0; have hfz13_1 := blk_frozen BK447.out 1; have hcz14_0 := c1_ BK445; have hfz14_0 := blk_frozen BK445.out 0) | ((refine gc_ 70 ?_); refine gl_ (some 16) Tryz.func70 (impl_IsCandidate.calls k1 _ _ l0_0 true _ (Kd.C_below HR0_0.out (up_ HB.out)) HC0_0.out A7.out) ?_; rintro e w15 ⟨rfl, hb⟩; refine ⟨_, rfl, ?_⟩; replace BK445 := Aside0.mk (blk_below (g := gb445) (o := .cells #[.slice (some ad446) l0_0.length c0_0] 50 (0, 0)) (by (with_reducible repeat (first | refine blk_drewN ?_ _ | refine blk_drew ?_ | refine blk_alloc ?_ _)); refine blk_far ?_ NB445_447.out _; (with_reducible repeat (first | refine blk_drewN ?_ _ | refine blk_drew ?_ | refine blk_alloc ?_ _)); refine blk_far ?_ NB445_447.out _; (with_reducible repeat (first | refine blk_drewN ?_ _ | refine blk_drew ?_ | refine blk_alloc ?_ _)); exact BK445.out) hb); replace BK447 := Aside0.mk (blk_below (g := gb447) (o := .cells #[.int .u8 ((rd_T70 l0_0 x11_1).f0), .int .u8 ((rd_T70 l0_0 x11_1).f1)] 70 (0, 0)) (by (with_reducible repeat (first | refine blk_drewN ?_ _ | refine blk_drew ?_ | refine blk_alloc ?_ _)); refine blk_put (cs := #[.int .u8 ((rd_T70 l0_0 x11_1).f0), .int .u8 0]) ?_ 1 _ rfl; (with_reducible repeat (first | refine blk_drewN ?_ _ | refine blk_drew ?_ | refine blk_alloc ?_ _)); refine blk_put (cs := #[.int .u8 0, .int .u8 0]) ?_ 0 _ rfl; (with_reducible repeat (first | refine blk_drewN ?_ _ | refine blk_drew ?_ | refine blk_alloc ?_ _)); exact BK447.out) hb); replace HB := bs_ HB hb; (try clear hb); (try clear hb2); (try clear hk); (try clear hi); obtain ⟨hcz16_0, hcz16_1⟩ := c2_ BK447; have hfz16_0 := blk_frozen BK447.out 0; have hfz16_1 := blk_frozen BK447.out 1) | (go_at_call 150; (with_reducible refine (impl_CountDeleted_1.calls ((rd_T70 l0_0 x11_1).f0) ((rd_T70 l0_0 x11_1).f1) true _ A9.out).mono ?_); rintro e w17 ⟨rfl, hb⟩; replace BK445 := bb_ BK445 hb; replace BK447 := bb_ BK447 hb; replace HB := bs_ HB hb; (try clear hb); (try clear hb2); (try clear hk); (try clear hi)))
      go_roundg k1
      case measure => have := HK1.out; omega
      case rel => exact ⟨(wrap64 (x5_1 + 1)), (wrap64 (x11_1 + 1)), rs_, rs_, H', ⟨by have := HK1.out; omega⟩, ⟨up_ BK445.out⟩, ⟨up_ HB.out⟩⟩
     ·have H' := Aside0.mk H
      clear H
      have p446 : 0 ≤ (x11_1 : Int) := od_
      have q446 : x11_1 < (l0_0.length : Int) := od_
      obtain ⟨ad446, e446, hx446_0, hx446_1⟩ := at_T70 HR0_0.out x11_1 p446 q446
      cases e446
      replace hx446_0 := bh_ HB hx446_0
      replace hx446_1 := bh_ HB hx446_1
      replace p446 := eq_true p446
      replace q446 := eq_true q446
      go_wp2_with (first | ((refine gd_ 7 ?_); refine bx_ 7 #[.int .u8 0, .int .u8 0] 70 ?_; intro gb447 hg w18 hbox hb; have BK447 := Aside0.mk (hbox); have GW447 := gw_ HB hg; have GE447 := gw_ HB hg; replace HB := bs_ HB hb; have NB445_447 := Aside0.mk ((by rw [hg]; exact Nat.ne_of_lt (blk_lt (g := gb445) (o := .cells #[.slice (some ad446) l0_0.length c0_0] 50 (0, 0)) (up_ BK445.out)) : gb445 ≠ gb447)); have NB447_445 := Aside0.mk ((by rw [hg]; exact Nat.ne_of_gt (blk_lt (g := gb445) (o := .cells #[.slice (some ad446) l0_0.length c0_0] 50 (0, 0)) (up_ BK445.out)) : gb447 ≠ gb445)); replace BK445 := bb_ BK445 hb; clear hb hbox hg; have hnb19 := NB447_445.out; have hnc19 := NB445_447.out; obtain ⟨hcz20_0, hcz20_1⟩ := c2_ BK447; have hfz20_0 := blk_frozen BK447.out 0; have hfz20_1 := blk_frozen BK447.out 1; have hcz21_0 := c1_ BK445; have hfz21_0 := blk_frozen BK445.out 0) | ((refine gc_ 70 ?_); refine gl_ (some 16) Tryz.func70 (impl_IsCandidate.calls k1 _ _ l0_0 true _ (Kd.C_below HR0_0.out (up_ HB.out)) HC0_0.out A7.out) ?_; rintro e w22 ⟨rfl, hb⟩; refine ⟨_, rfl, ?_⟩; replace BK445 := Aside0.mk (blk_below (g := gb445) (o := .cells #[.slice (some ad446) l0_0.length c0_0] 50 (0, 0)) (by (with_reducible repeat (first | refine blk_drewN ?_ _ | refine blk_drew ?_ | refine blk_alloc ?_ _)); refine blk_far ?_ NB445_447.out _; (with_reducible repeat (first | refine blk_drewN ?_ _ | refine blk_drew ?_ | refine blk_alloc ?_ _)); refine blk_far ?_ NB445_447.out _; (with_reducible repeat (first | refine blk_drewN ?_ _ | refine blk_drew ?_ | refine blk_alloc ?_ _)); exact BK445.out) hb); replace BK447 := Aside0.mk (blk_below (g := gb447) (o := .cells #[.int .u8 ((rd_T70 l0_0 x11_1).f0), .int .u8 ((rd_T70 l0_0 x11_1).f1)] 70 (0, 0)) (by (with_reducible repeat (first | refine blk_drewN ?_ _ | refine blk_drew ?_ | refine blk_alloc ?_ _)); refine blk_put (cs := #[.int .u8 ((rd_T70 l0_0 x11_1).f0), .int .u8 0]) ?_ 1 _ rfl; (with_reducible repeat (first | refine blk_drewN ?_ _ | refine blk_drew ?_ | refine blk_alloc ?_ _)); refine blk_put (cs := #[.int .u8 0, .int .u8 0]) ?_ 0 _ rfl; (with_reducible repeat (first | refine blk_drewN ?_ _ | refine blk_drew ?_ | refine blk_alloc ?_ _)); exact BK447.out) hb); replace HB := bs_ HB hb; (try clear hb); (try clear hb2); (try clear hk); (try clear hi); obtain ⟨hcz23_0, hcz23_1⟩ := c2_ BK447; have hfz23_0 := blk_frozen BK447.out 0; have hfz23_1 := blk_frozen BK447.out 1) | (go_at_call 150; (with_reducible refine (impl_CountDeleted_1.calls ((rd_T70 l0_0 x11_1).f0) ((rd_T70 l0_0 x11_1).f1) false _ A9.out).mono ?_); rintro e w24 ⟨rfl, hb⟩; replace BK445 := bb_ BK445 hb; replace BK447 := bb_ BK447 hb; replace HB := bs_ HB hb; (try clear hb); (try clear hb2); (try clear hk); (try clear hi)))
      go_roundg k1
      case measure => have := HK1.out; omega
      case rel => exact ⟨(x5_1), (wrap64 (x11_1 + 1)), rs_, rs_, H', ⟨by have := HK1.out; omega⟩, ⟨up_ BK445.out⟩, ⟨up_ HB.out⟩⟩
    ·have H' := Aside0.mk H
     clear H
     have p446 : 0 ≤ (x11_1 : Int) := od_
     have q446 : x11_1 < (l0_0.length : Int) := od_
     obtain ⟨ad446, e446, hx446_0, hx446_1⟩ := at_T70 HR0_0.out x11_1 p446 q446
     cases e446
     replace hx446_0 := bh_ HB hx446_0
     replace hx446_1 := bh_ HB hx446_1
     replace p446 := eq_true p446
     replace q446 := eq_true q446
     go_wp2_with (first | ((refine gd_ 7 ?_); refine bx_ 7 #[.int .u8 0, .int .u8 0] 70 ?_; intro gb447 hg w25 hbox hb; have BK447 := Aside0.mk (hbox); have GW447 := gw_ HB hg; have GE447 := gw_ HB hg; replace HB := bs_ HB hb; have NB445_447 := Aside0.mk ((by rw [hg]; exact Nat.ne_of_lt (blk_lt (g := gb445) (o := .cells #[.slice (some ad446) l0_0.length c0_0] 50 (0, 0)) (up_ BK445.out)) : gb445 ≠ gb447)); have NB447_445 := Aside0.mk ((by rw [hg]; exact Nat.ne_of_gt (blk_lt (g := gb445) (o := .cells #[.slice (some ad446) l0_0.length c0_0] 50 (0, 0)) (up_ BK445.out)) : gb447 ≠ gb445)); replace BK445 := bb_ BK445 hb; clear hb hbox hg; have hnb26 := NB447_445.out; have hnc26 := NB445_447.out; obtain ⟨hcz27_0, hcz27_1⟩ := c2_ BK447; have hfz27_0 := blk_frozen BK447.out 0; have hfz27_1 := blk_frozen BK447.out 1; have hcz28_0 := c1_ BK445; have hfz28_0 := blk_frozen BK445.out 0) | ((refine gc_ 70 ?_); refine gl_ (some 16) Tryz.func70 (impl_IsCandidate.calls k1 _ _ l0_0 false _ (Kd.C_below HR0_0.out (up_ HB.out)) HC0_0.out A7.out) ?_; rintro e w29 ⟨rfl, hb⟩; refine ⟨_, rfl, ?_⟩; replace BK445 := Aside0.mk (blk_below (g := gb445) (o := .cells #[.slice (some ad446) l0_0.length c0_0] 50 (0, 0)) (by (with_reducible repeat (first | refine blk_drewN ?_ _ | refine blk_drew ?_ | refine blk_alloc ?_ _)); refine blk_far ?_ NB445_447.out _; (with_reducible repeat (first | refine blk_drewN ?_ _ | refine blk_drew ?_ | refine blk_alloc ?_ _)); refine blk_far ?_ NB445_447.out _; (with_reducible repeat (first | refine blk_drewN ?_ _ | refine blk_drew ?_ | refine blk_alloc ?_ _)); exact BK445.out) hb); replace BK447 := Aside0.mk (blk_below (g := gb447) (o := .cells #[.int .u8 ((rd_T70 l0_0 x11_1).f0), .int .u8 ((rd_T70 l0_0 x11_1).f1)] 70 (0, 0)) (by (with_reducible repeat (first | refine blk_drewN ?_ _ | refine blk_drew ?_ | refine blk_alloc ?_ _)); refine blk_put (cs := #[.int .u8 ((rd_T70 l0_0 x11_1).f0), .int .u8 0]) ?_ 1 _ rfl; (with_reducible repeat (first | refine blk_drewN ?_ _ | refine blk_drew ?_ | refine blk_alloc ?_ _)); refine blk_put (cs := #[.int .u8 0, .int .u8 0]) ?_ 0 _ rfl; (with_reducible repeat (first | refine blk_drewN ?_ _ | refine blk_drew ?_ | refine blk_alloc ?_ _)); exact BK447.out) hb); replace HB := bs_ HB hb; (try clear hb); (try clear hb2); (try clear hk); (try clear hi)))
     go_roundg k1
     case measure => have := HK1.out; omega
     case rel => exact ⟨(x5_1), (wrap64 (x11_1 + 1)), rs_, rs_, H', ⟨by have := HK1.out; omega⟩, ⟨up_ BK445.out⟩, ⟨up_ HB.out⟩⟩
   ·obtain rfl := Option.some.inj H
    go_wp2
    go_ret
    exact ⟨re_, up_ HB.out⟩

/-! ### impl_CountDeleted: function 124 -/
def impl_CountDeleted.f (k : Nat) (l0_0 : List (S70)) : Option (Int) := (v_impl_links__CountDeleted_1.f k l0_0).bind fun t451 => (some t451)
set_option maxHeartbeats 8000000 in
set_option maxRecDepth 100000 in
theorem impl_CountDeleted.calls (k : Nat) (A0_0 : Option Addr) (c0_0 : Nat) (l0_0 : List (S70)) (r : Int) (w : World) (hr0_0 : Kd.C k70 w A0_0 l0_0.length l0_0) (hc0_0 : l0_0.length ≤ c0_0) (h : impl_CountDeleted.f k l0_0 = some r) :
  Calls Tryz.prog 124 #[.agg #[.slice A0_0 l0_0.length c0_0]] w fun e w' => e = .returned (.int .i64 r) ∧ Below w.heap.size w w' := by
 have hu50 := Tryz.underlying50
 have HR0_0 := Aside0.mk hr0_0
 have HC0_0 := Aside0.mk hc0_0
 clear hr0_0 hc0_0
 have HB := Aside0.mk (Below.refl w.heap.size w)
 have H : ((v_impl_links__CountDeleted_1.f k l0_0).bind fun t451 => (some t451)) = some r := h
 clear h
 replace H := bnd_ H; obtain ⟨t451, A2, H⟩ := H
 obtain rfl := Option.some.inj H
 go_enter Tryz.func124, Tryz.ntmps124
 go_wp2_with (first | ((refine gd_ 1 ?_); refine bx_ 1 #[.slice A0_0 l0_0.length c0_0] 50 ?_; intro gb450 hg w3 hbox hb; have BK450 := Aside0.mk (hbox); have GW450 := gw_ HB hg; have GE450 := gw_ HB hg; replace HB := bs_ HB hb; clear hb hbox hg; have hcz4_0 := c1_ BK450; have hfz4_0 := blk_frozen BK450.out 0) | ((refine gc_ 149 ?_); refine gl_ (some 4) Tryz.func149 (v_impl_links__CountDeleted_1.calls k _ _ l0_0 t451 _ (Kd.C_below HR0_0.out (up_ HB.out)) HC0_0.out A2.out) ?_; rintro e w5 ⟨rfl, hb⟩; refine ⟨_, rfl, ?_⟩; replace BK450 := bb_ BK450 hb; replace HB := bs_ HB hb; (try clear hb); (try clear hb2); (try clear hk); (try clear hi)))
 go_ret
 exact ⟨re_, up_ HB.out⟩

/-! ### impl_CountInserted_1: function 151 -/
def impl_CountInserted_1.f (a0_0 : Int) (a0_1 : Int) : Option (Bool) := some (a0_0 == 0)
set_option maxHeartbeats 8000000 in
set_option maxRecDepth 100000 in
theorem impl_CountInserted_1.calls (a0_0 : Int) (a0_1 : Int) (r : Bool) (w : World) (h : impl_CountInserted_1.f a0_0 a0_1 = some r) :
  Calls Tryz.prog 151 #[.agg #[.int .u8 a0_0, .int .u8 a0_1]] w fun e w' => e = .returned (.bool r) ∧ Below w.heap.size w w' := by
 have hu70 := Tryz.underlying70
 have HB := Aside0.mk (Below.refl w.heap.size w)
 have H : (some (a0_0 == 0)) = some r := h
 clear h
 obtain rfl := Option.some.inj H
 go_enter Tryz.func151, Tryz.ntmps151
 go_wp2_with (first | ((refine gd_ 1 ?_); refine bx_ 1 #[.int .u8 a0_0, .int .u8 a0_1] 70 ?_; intro gb452 hg w2 hbox hb; have BK452 := Aside0.mk (hbox); have GW452 := gw_ HB hg; have GE452 := gw_ HB hg; replace HB := bs_ HB hb; clear hb hbox hg; obtain ⟨hcz3_0, hcz3_1⟩ := c2_ BK452; have hfz3_0 := blk_frozen BK452.out 0; have hfz3_1 := blk_frozen BK452.out 1))
 go_ret
 exact ⟨re_, up_ HB.out⟩

/-! ### v_impl_links__CountInserted_1: function 149 -/
def v_impl_links__CountInserted_1.l0 : Nat → Int → List (S70) → Int → Int → List (S70) → Option (Int)
 | 0, _, _, _, _, _ => none
 | k + 1, x5, x9, x10, x11, x454000 => if x11 < x10 then (if 0 ≤ x11 then (if x11 < (x9.length : Int) then ((impl_IsCandidate.f k x454000).bind fun t456 => (if t456 = true then ((impl_CountInserted_1.f ((rd_T70 x9 x11).f0) ((rd_T70 x9 x11).f1)).bind fun t457 => (if t457 = true then (v_impl_links__CountInserted_1.l0 k (wrap64 (x5 + 1)) x9 x10 (wrap64 (x11 + 1)) x454000) else (v_impl_links__CountInserted_1.l0 k x5 x9 x10 (wrap64 (x11 + 1)) x454000))) else (v_impl_links__CountInserted_1.l0 k x5 x9 x10 (wrap64 (x11 + 1)) x454000))) else (none)) else (none)) else (some x5)
def v_impl_links__CountInserted_1.f (k : Nat) (l0_0 : List (S70)) : Option (Int) := v_impl_links__CountInserted_1.l0 k 0 l0_0 (l0_0.length : Int) 0 l0_0
set_option maxHeartbeats 8000000 in
set_option maxRecDepth 100000 in
theorem v_impl_links__CountInserted_1.calls (k : Nat) (A0_0 : Option Addr) (c0_0 : Nat) (l0_0 : List (S70)) (r : Int) (w : World) (hr0_0 : Kd.C k70 w A0_0 l0_0.length l0_0) (hc0_0 : l0_0.length ≤ c0_0) (h : v_impl_links__CountInserted_1.f k l0_0 = some r) :
  Calls Tryz.prog 149 #[.agg #[.slice A0_0 l0_0.length c0_0], .func (.func 151) #[] #[]] w fun e w' => e = .returned (.int .i64 r) ∧ Below w.heap.size w w' := by
 have hu50 := Tryz.underlying50
 have hu70 := Tryz.underlying70
 have HR0_0 := Aside0.mk hr0_0
 have HC0_0 := Aside0.mk hc0_0
 clear hr0_0 hc0_0
 have HB := Aside0.mk (Below.refl w.heap.size w)
 have H : (v_impl_links__CountInserted_1.l0 k 0 l0_0 (l0_0.length : Int) 0 l0_0) = some r := h
 clear h
 have H' := Aside0.mk H
 clear H
 go_enter Tryz.func149, Tryz.ntmps149
 go_wp2_with (first | ((refine gd_ 2 ?_); refine bx_ 2 #[.slice A0_0 l0_0.length c0_0] 50 ?_; intro gb453 hg w2 hbox hb; have BK453 := Aside0.mk (hbox); have GW453 := gw_ HB hg; have GE453 := gw_ HB hg; replace HB := bs_ HB hb; clear hb hbox hg; have hcz3_0 := c1_ BK453; have hfz3_0 := blk_frozen BK453.out 0))
 go_loopg [5, 11] k (fun kq v5 v11 w' => ∃ (x5_1 : Int) (x11_1 : Int), v5 = .int .i64 x5_1 ∧ v11 = .int .i64 x11_1 ∧ Aside0 (v_impl_links__CountInserted_1.l0 kq x5_1 l0_0 (l0_0.length : Int) x11_1 l0_0 = some r) ∧ Aside0 (kq ≤ k) ∧ Aside0 (w'.heap[gb453]? = some (.cells #[(.slice A0_0 l0_0.length c0_0)] 50 (0, 0))) ∧ Aside0 (Below w.heap.size w w'))
 case atStart => exact ⟨(0), (0), rs_, rs_, H', ⟨Nat.le_refl _⟩, ⟨up_ BK453.out⟩, ⟨up_ HB.out⟩⟩
 case round =>
  clear H'
  try clear p2
  try clear hcz3_0
  try clear hfz3_0
  obtain ⟨x5_1, x11_1, rfl, rfl, HA, HK1, BK453, HB⟩ := hrel
  cases gk with
  | zero => exact absurd HA.out (by simp [v_impl_links__CountInserted_1.l0])
  | succ k1 =>
   have H := HA.out
   clear HA
   simp only [v_impl_links__CountInserted_1.l0] at H
   replace H := its_ H; rcases H with ⟨c4b0, H⟩ | ⟨c4b0, H⟩
   ·replace H := its_ H; rcases H with ⟨c5b0, H⟩ | ⟨_, ⟨⟩⟩
    replace H := its_ H; rcases H with ⟨c6b0, H⟩ | ⟨_, ⟨⟩⟩
    replace H := bnd_ H; obtain ⟨t456, A7, H⟩ := H
    replace H := itb_ H; rcases H with ⟨rfl, H⟩ | ⟨rfl, H⟩
    ·replace H := bnd_ H; obtain ⟨t457, A9, H⟩ := H
     replace H := itb_ H; rcases H with ⟨rfl, H⟩ | ⟨rfl, H⟩
     ·have H' := Aside0.mk H
      clear H
      have p454 : 0 ≤ (x11_1 : Int) := od_
      have q454 : x11_1 < (l0_0.length : Int) := od_
      obtain ⟨ad454, e454, hx454_0, hx454_1⟩ := at_T70 HR0_0.out x11_1 p454 q454
      cases e454
      replace hx454_0 := bh_ HB hx454_0
      replace hx454_1 := bh_ HB hx454_1
      replace p454 := eq_true p454
      replace q454 := eq_true q454
      go_wp2_with (first | ((refine gd_ 7 ?_); refine bx_ 7 #[.int .u8 0, .int .u8 0] 70 ?_; intro gb455 hg w11 hbox hb; have BK455 := Aside0.mk (hbox); have GW455 := gw_ HB hg; have GE455 := gw_ HB hg; replace HB := bs_ HB hb; have NB453_455 := Aside0.mk ((by rw [hg]; exact Nat.ne_of_lt (blk_lt (g := gb453) (o := .cells #[.slice (some ad454) l0_0.length c0_0] 50 (0, 0)) (up_ BK453.out)) : gb453 ≠ gb455)); have NB455_453 := Aside0.mk ((by rw [hg]; exact Nat.ne_of_gt (blk_lt (g := gb453) (o := .cells #[.slice (some ad454) l0_0.length c0_0] 50 (0, 0)) (up_ BK453.out)) : gb455 ≠ gb453)); replace BK453 := bb_ BK453 hb; clear hb hbox hg; have hnb12 := NB455_453.out; have hnc12 := NB453_455.out; obtain ⟨hcz13_0, hcz13_1⟩ := c2_ BK455; have hfz13_0 := blk_frozen BK455.out 0; have hfz13_1 := blk_frozen BK455.out 1; have hcz14_0 := c1_ BK453; have hfz14_0 := blk_frozen BK453.out 0) | ((refine gc_ 70 ?_); refine gl_ (some 16) Tryz.func70 (impl_IsCandidate.calls k1 _ _ l0_0 true _ (Kd.C_below HR0_0.out (up_ HB.out)) HC0_0.out A7.out) ?_; rintro e w15 ⟨rfl, hb⟩; refine ⟨_, rfl, ?_⟩; replace BK453 := Aside0.mk (blk_below (g := gb453) (o := .cells #[.slice (some ad454) l0_0.length c0_0] 50 (0, 0)) (by (with_reducible repeat (first | refine blk_drewN ?_ _ | refine blk_drew ?_ | refine blk_alloc ?_ _)); refine blk_far ?_ NB453_455.out _; (with_reducible repeat (first | refine blk_drewN ?_ _ | refine blk_drew ?_ | refine blk_alloc ?_ _)); refine blk_far ?_ NB453_455.out _; (with_reducible repeat (first | refine blk_drewN ?_ _ | refine blk_drew ?_ | refine blk_alloc ?_ _)); exact BK453.out) hb); replace BK455 := Aside0.mk (blk_below (g := gb455) (o := .cells #[.int .u8 ((rd_T70 l0_0 x11_1).f0), .int .u8 ((rd_T70 l0_0 x11_1).f1)] 70 (0, 0)) (by (with_reducible repeat (first | refine blk_drewN ?_ _ | refine blk_drew ?_ | refine blk_alloc ?_ _)); refine blk_put (cs := #[.int .u8 ((rd_T70 l0_0 x11_1).f0), .int .u8 0]) ?_ 1 _ rfl; (with_reducible repeat (first | refine blk_drewN ?_ _ | refine blk_drew ?_ | refine blk_alloc ?_ _)); refine blk_put (cs := #[.int .u8 0, .int .u8 0]) ?_ 0 _ rfl; (with_reducible repeat (first | refine blk_drewN ?_ _ | refine blk_drew ?_ | refine blk_alloc ?_ _)); exact BK455.out) hb); replace HB := bs_ HB hb; (try clear hb); (try clear hb2); (try clear hk); (try clear hi); obtain ⟨hcz16_0, hcz16_1⟩ := c2_ BK455; have hfz16_0 := blk_frozen BK455.out 0; have hfz16_1 := blk_frozen BK455.out 1) | (go_at_call 151; (with_reducible refine (impl_CountInserted_1.calls ((rd_T70 l0_0 x11_1).f0) ((rd_T70 l0_0 x11_1).f1) true _ A9.out).mono ?_); rintro e w17 ⟨rfl, hb⟩; replace BK453 := bb_ BK453 hb; replace BK455 := bb_ BK455 hb; replace HB := bs_ HB hb; (try clear hb); (try clear hb2); (try clear hk); (try clear hi)))
      go_roundg k1
      case measure => have := HK1.out; omega
      case rel => exact ⟨(wrap64 (x5_1 + 1)), (wrap64 (x11_1 + 1)), rs_, rs_, H', ⟨by have := HK1.out; omega⟩, ⟨up_ BK453.out⟩, ⟨up_ HB.out⟩⟩
     ·have H' := Aside0.mk H
      clear H
      have p454 : 0 ≤ (x11_1 : Int) := od_
      have q454 : x11_1 < (l0_0.length : Int) := od_
      obtain ⟨ad454, e454, hx454_0, hx454_1⟩ := at_T70 HR0_0.out x11_1 p454 q454
      cases e454
      replace hx454_0 := bh_ HB hx454_0
      replace hx454_1 := bh_ HB hx454_1
      replace p454 := eq_true p454
      replace q454 := eq_true q454
      go_wp2_with (first | ((refine gd_ 7 ?_); refine bx_ 7 #[.int .u8 0, .int .u8 0] 70 ?_; intro gb455 hg w18 hbox hb; have BK455 := Aside0.mk (hbox); have GW455 := gw_ HB hg; have GE455 := gw_ HB hg; replace HB := bs_ HB hb; have NB453_455 := Aside0.mk ((by rw [hg]; exact Nat.ne_of_lt (blk_lt (g := gb453) (o := .cells #[.slice (some ad454) l0_0.length c0_0] 50 (0, 0)) (up_ BK453.out)) : gb453 ≠ gb455)); have NB455_453 := Aside0.mk ((by rw [hg]; exact Nat.ne_of_gt (blk_lt (g := gb453) (o := .cells #[.slice (some ad454) l0_0.length c0_0] 50 (0, 0)) (up_ BK453.out)) : gb455 ≠ gb453)); replace BK453 := bb_ BK453 hb; clear hb hbox hg; have hnb19 := NB455_453.out; have hnc19 := NB453_455.out; obtain ⟨hcz20_0, hcz20_1⟩ := c2_ BK455; have hfz20_0 := blk_frozen BK455.out 0; have hfz20_1 := blk_frozen BK455.out 1; have hcz21_0 := c1_ BK453; have hfz21_0 := blk_frozen BK453.out 0) | ((refine gc_ 70 ?_); refine gl_ (some 16) Tryz.func70 (impl_IsCandidate.calls k1 _ _ l0_0 true _ (Kd.C_below HR0_0.out (up_ HB.out)) HC0_0.out A7.out) ?_; rintro e w22 ⟨rfl, hb⟩; refine ⟨_, rfl, ?_⟩; replace BK453 := Aside0.mk (blk_below (g := gb453) (o := .cells #[.slice (some ad454) l0_0.length c0_0] 50 (0, 0)) (by (with_reducible repeat (first | refine blk_drewN ?_ _ | refine blk_drew ?_ | refine blk_alloc ?_ _)); refine blk_far ?_ NB453_455.out _; (with_reducible repeat (first | refine blk_drewN ?_ _ | refine blk_drew ?_ | refine blk_alloc ?_ _)); refine blk_far ?_ NB453_455.out _; (with_reducible repeat (first | refine blk_drewN ?_ _ | refine blk_drew ?_ | refine blk_alloc ?_ _)); exact BK453.out) hb); replace BK455 := Aside0.mk (blk_below (g := gb455) (o := .cells #[.int .u8 ((rd_T70 l0_0 x11_1).f0), .int .u8 ((rd_T70 l0_0 x11_1).f1)] 70 (0, 0)) (by (with_reducible repeat (first | refine blk_drewN ?_ _ | refine blk_drew ?_ | refine blk_alloc ?_ _)); refine blk_put (cs := #[.int .u8 ((rd_T70 l0_0 x11_1).f0), .int .u8 0]) ?_ 1 _ rfl; (with_reducible repeat (first | refine blk_drewN ?_ _ | refine blk_drew ?_ | refine blk_alloc ?_ _)); refine blk_put (cs := #[.int .u8 0, .int .u8 0]) ?_ 0 _ rfl; (with_reducible repeat (first | refine blk_drewN ?_ _ | refine blk_drew ?_ | refine blk_alloc ?_ _)); exact BK455.out) hb); replace HB := bs_ HB hb; (try clear hb); (try clear hb2); (try clear hk); (try clear hi); obtain ⟨hcz23_0, hcz23_1⟩ := c2_ BK455; have hfz23_0 := blk_frozen BK455.out 0; have hfz23_1 := blk_frozen BK455.out 1) | (go_at_call 151; (with_reducible refine (impl_CountInserted_1.calls ((rd_T70 l0_0 x11_1).f0) ((rd_T70 l0_0 x11_1).f1) false _ A9.out).mono ?_); rintro e w24 ⟨rfl, hb⟩; replace BK453 := bb_ BK453 hb; replace BK455 := bb_ BK455 hb; replace HB := bs_ HB hb; (try clear hb); (try clear hb2); (try clear hk); (try clear hi)))
      go_roundg k1
      case measure => have := HK1.out; omega
      case rel => exact ⟨(x5_1), (wrap64 (x11_1 + 1)), rs_, rs_, H', ⟨by have := HK1.out; omega⟩, ⟨up_ BK453.out⟩, ⟨up_ HB.out⟩⟩
    ·have H' := Aside0.mk H
     clear H
     have p454 : 0 ≤ (x11_1 : Int) := od_
     have q454 : x11_1 < (l0_0.length : Int) := od_
     obtain ⟨ad454, e454, hx454_0, hx454_1⟩ := at_T70 HR0_0.out x11_1 p454 q454
     cases e454
     replace hx454_0 := bh_ HB hx454_0
     replace hx454_1 := bh_ HB hx454_1
     replace p454 := eq_true p454
     replace q454 := eq_true q454
     go_wp2_with (first | ((refine gd_ 7 ?_); refine bx_ 7 #[.int .u8 0, .int .u8 0] 70 ?_; intro gb455 hg w25 hbox hb; have BK455 := Aside0.mk (hbox); have GW455 := gw_ HB hg; have GE455 := gw_ HB hg; replace HB := bs_ HB hb; have NB453_455 := Aside0.mk ((by rw [hg]; exact Nat.ne_of_lt (blk_lt (g := gb453) (o := .cells #[.slice (some ad454) l0_0.length c0_0] 50 (0, 0)) (up_ BK453.out)) : gb453 ≠ gb455)); have NB455_453 := Aside0.mk ((by rw [hg]; exact Nat.ne_of_gt (blk_lt (g := gb453) (o := .cells #[.slice (some ad454) l0_0.length c0_0] 50 (0, 0)) (up_ BK453.out)) : gb455 ≠ gb453)); replace BK453 := bb_ BK453 hb; clear hb hbox hg; have hnb26 := NB455_453.out; have hnc26 := NB453_455.out; obtain ⟨hcz27_0, hcz27_1⟩ := c2_ BK455; have hfz27_0 := blk_frozen BK455.out 0; have hfz27_1 := blk_frozen BK455.out 1; have hcz28_0 := c1_ BK453; have hfz28_0 := blk_frozen BK453.out 0) | ((refine gc_ 70 ?_); refine gl_ (some 16) Tryz.func70 (impl_IsCandidate.calls k1 _ _ l0_0 false _ (Kd.C_below HR0_0.out (up_ HB.out)) HC0_0.out A7.out) ?_; rintro e w29 ⟨rfl, hb⟩; refine ⟨_, rfl, ?_⟩; replace BK453 := Aside0.mk (blk_below (g := gb453) (o := .cells #[.slice (some ad454) l0_0.length c0_0] 50 (0, 0)) (by (with_reducible repeat (first | refine blk_drewN ?_ _ | refine blk_drew ?_ | refine blk_alloc ?_ _)); refine blk_far ?_ NB453_455.out _; (with_reducible repeat (first | refine blk_drewN ?_ _ | refine blk_drew ?_ | refine blk_alloc ?_ _)); refine blk_far ?_ NB453_455.out _; (with_reducible repeat (first | refine blk_drewN ?_ _ | refine blk_drew ?_ | refine blk_alloc ?_ _)); exact BK453.out) hb); replace BK455 := Aside0.mk (blk_below (g := gb455) (o := .cells #[.int .u8 ((rd_T70 l0_0 x11_1).f0), .int .u8 ((rd_T70 l0_0 x11_1).f1)] 70 (0, 0)) (by (with_reducible repeat (first | refine blk_drewN ?_ _ | refine blk_drew ?_ | refine blk_alloc ?_ _)); refine blk_put (cs := #[.int .u8 ((rd_T70 l0_0 x11_1).f0), .int .u8 0]) ?_ 1 _ rfl; (with_reducible repeat (first | refine blk_drewN ?_ _ | refine blk_drew ?_ | refine blk_alloc ?_ _)); refine blk_put (cs := #[.int .u8 0, .int .u8 0]) ?_ 0 _ rfl; (with_reducible repeat (first | refine blk_drewN ?_ _ | refine blk_drew ?_ | refine blk_alloc ?_ _)); exact BK455.out) hb); replace HB := bs_ HB hb; (try clear hb); (try clear hb2); (try clear hk); (try clear hi)))
     go_roundg k1
     case measure => have := HK1.out; omega
     case rel => exact ⟨(x5_1), (wrap64 (x11_1 + 1)), rs_, rs_, H', ⟨by have := HK1.out; omega⟩, ⟨up_ BK453.out⟩, ⟨up_ HB.out⟩⟩
   ·obtain rfl := Option.some.inj H
    go_wp2
    go_ret
    exact ⟨re_, up_ HB.out⟩

/-! ### impl_CountInserted: function 125 -/
def impl_CountInserted.f (k : Nat) (l0_0 : List (S70)) : Option (Int) := (v_impl_links__CountInserted_1.f k l0_0).bind fun t459 => (some t459)
set_option maxHeartbeats 8000000 in
set_option maxRecDepth 100000 in
theorem impl_CountInserted.calls (k : Nat) (A0_0 : Option Addr) (c0_0 : Nat) (l0_0 : List (S70)) (r : Int) (w : World) (hr0_0 : Kd.C k70 w A0_0 l0_0.length l0_0) (hc0_0 : l0_0.length ≤ c0_0) (h : impl_CountInserted.f k l0_0 = some r) :
  Calls Tryz.prog 125 #[.agg #[.slice A0_0 l0_0.length c0_0]] w fun e w' => e = .returned (.int .i64 r) ∧ Below w.heap.size w w' := by
 have hu50 := Tryz.underlying50
 have HR0_0 := Aside0.mk hr0_0
 have HC0_0 := Aside0.mk hc0_0
 clear hr0_0 hc0_0
 have HB := Aside0.mk (Below.refl w.heap.size w)
 have H : ((v_impl_links__CountInserted_1.f k l0_0).bind fun t459 => (some t459)) = some r := h
 clear h
 replace H := bnd_ H; obtain ⟨t459, A2, H⟩ := H
 obtain rfl := Option.some.inj H
 go_enter Tryz.func125, Tryz.ntmps125
 go_wp2_with (first | ((refine gd_ 1 ?_); refine bx_ 1 #[.slice A0_0 l0_0.length c0_0] 50 ?_; intro gb458 hg w3 hbox hb; have BK458 := Aside0.mk (hbox); have GW458 := gw_ HB hg; have GE458 := gw_ HB hg; replace HB := bs_ HB hb; clear hb hbox hg; have hcz4_0 := c1_ BK458; have hfz4_0 := blk_frozen BK458.out 0) | ((refine gc_ 149 ?_); refine gl_ (some 4) Tryz.func149 (v_impl_links__CountInserted_1.calls k _ _ l0_0 t459 _ (Kd.C_below HR0_0.out (up_ HB.out)) HC0_0.out A2.out) ?_; rintro e w5 ⟨rfl, hb⟩; refine ⟨_, rfl, ?_⟩; replace BK458 := bb_ BK458 hb; replace HB := bs_ HB hb; (try clear hb); (try clear hb2); (try clear hk); (try clear hi)))
 go_ret
 exact ⟨re_, up_ HB.out⟩

/-! ### impl_CountVoiceChanged_1: function 152 -/
def impl_CountVoiceChanged_1.f (a0_0 : Int) (a0_1 : Int) : Option (Bool) := if a0_0 = 0 then (some false) else (if a0_1 = 0 then (some false) else (some (a0_0 != a0_1)))
set_option maxHeartbeats 8000000 in
set_option maxRecDepth 100000 in
theorem impl_CountVoiceChanged_1.calls (a0_0 : Int) (a0_1 : Int) (r : Bool) (w : World) (h : impl_CountVoiceChanged_1.f a0_0 a0_1 = some r) :
  Calls Tryz.prog 152 #[.agg #[.int .u8 a0_0, .int .u8 a0_1]] w fun e w' => e = .returned (.bool r) ∧ Below w.heap.size w w' := by
 have hu70 := Tryz.underlying70
 have HB := Aside0.mk (Below.refl w.heap.size w)
 have H : (if a0_0 = 0 then (some false) else (if a0_1 = 0 then (some false) else (some (a0_0 != a0_1)))) = some r := h
 clear h
 replace H := ieq_ H; rcases H with ⟨-, c2b0, c2b1, H⟩ | ⟨c2, c2b0, c2b1, H⟩
 ·obtain rfl := Option.some.inj H
  go_enter Tryz.func152, Tryz.ntmps152
  go_wp2_with (first | ((refine gd_ 1 ?_); refine bx_ 1 #[.int .u8 a0_0, .int .u8 a0_1] 70 ?_; intro gb460 hg w3 hbox hb; have BK460 := Aside0.mk (hbox); have GW460 := gw_ HB hg; have GE460 := gw_ HB hg; replace HB := bs_ HB hb; clear hb hbox hg; obtain ⟨hcz4_0, hcz4_1⟩ := c2_ BK460; have hfz4_0 := blk_frozen BK460.out 0; have hfz4_1 := blk_frozen BK460.out 1))
  go_ret
  exact ⟨re_, up_ HB.out⟩
 ·replace H := ieq_ H; rcases H with ⟨-, c5b0, c5b1, H⟩ | ⟨c5, c5b0, c5b1, H⟩
  ·obtain rfl := Option.some.inj H
   go_enter Tryz.func152, Tryz.ntmps152
   go_wp2_with (first | ((refine gd_ 1 ?_); refine bx_ 1 #[.int .u8 a0_0, .int .u8 a0_1] 70 ?_; intro gb460 hg w6 hbox hb; have BK460 := Aside0.mk (hbox); have GW460 := gw_ HB hg; have GE460 := gw_ HB hg; replace HB := bs_ HB hb; clear hb hbox hg; obtain ⟨hcz7_0, hcz7_1⟩ := c2_ BK460; have hfz7_0 := blk_frozen BK460.out 0; have hfz7_1 := blk_frozen BK460.out 1))
   go_ret
   exact ⟨re_, up_ HB.out⟩
  ·obtain rfl := Option.some.inj H
   go_enter Tryz.func152, Tryz.ntmps152
   go_wp2_with (first | ((refine gd_ 1 ?_); refine bx_ 1 #[.int .u8 a0_0, .int .u8 a0_1] 70 ?_; intro gb460 hg w8 hbox hb; have BK460 := Aside0.mk (hbox); have GW460 := gw_ HB hg; have GE460 := gw_ HB hg; replace HB := bs_ HB hb; clear hb hbox hg; obtain ⟨hcz9_0, hcz9_1⟩ := c2_ BK460; have hfz9_0 := blk_frozen BK460.out 0; have hfz9_1 := blk_frozen BK460.out 1))
   go_ret
   exact ⟨re_, up_ HB.out⟩

/-! ### v_impl_links__CountVoiceChanged_1: function 149 -/
def v_impl_links__CountVoiceChanged_1.l0 : Nat → Int → List (S70) → Int → Int → List (S70) → Option (Int)
 | 0, _, _, _, _, _ => none
 | k + 1, x5, x9, x10, x11, x462000 => if x11 < x10 then (if 0 ≤ x11 then (if x11 < (x9.length : Int) then ((impl_IsCandidate.f k x462000).bind fun t464 => (if t464 = true then ((impl_CountVoiceChanged_1.f ((rd_T70 x9 x11).f0) ((rd_T70 x9 x11).f1)).bind fun t465 => (if t465 = true then (v_impl_links__CountVoiceChanged_1.l0 k (wrap64 (x5 + 1)) x9 x10 (wrap64 (x11 + 1)) x462000) else (v_impl_links__CountVoiceChanged_1.l0 k x5 x9 x10 (wrap64 (x11 + 1)) x462000))) else (v_impl_links__CountVoiceChanged_1.l0 k x5 x9 x10 (wrap64 (x11 + 1)) x462000))) else (none)) else (none)) else (some x5)
def v_impl_links__CountVoiceChanged_1.f (k : Nat) (l0_0 : List (S70)) : Option (Int) := v_impl_links__CountVoiceChanged_1.l0 k 0 l0_0 (l0_0.length : Int) 0 l0_0
set_option maxHeartbeats 8000000 in
set_option maxRecDepth 100000 in
theorem v_impl_links__CountVoiceChanged_1.calls (k : Nat) (A0_0 : Option Addr) (c0_0 : Nat) (l0_0 : List (S70)) (r : Int) (w : World) (hr0_0 : Kd.C k70 w A0_0 l0_0.length l0_0) (hc0_0 : l0_0.length ≤ c0_0) (h : v_impl_links__CountVoiceChanged_1.f k l0_0 = some r) :
  Calls Tryz.prog 149 #[.agg #[.slice A0_0 l0_0.length c0_0], .func (.func 152) #[] #[]] w fun e w' => e = .returned (.int .i64 r) ∧ Below w.heap.size w w' := by
 have hu50 := Tryz.underlying50
 have hu70 := Tryz.underlying70
 have HR0_0 := Aside0.mk hr0_0
 have HC0_0 := Aside0.mk hc0_0
 clear hr0_0 hc0_0
 have HB := Aside0.mk (Below.refl w.heap.size w)
 have H : (v_impl_links__CountVoiceChanged_1.l0 k 0 l0_0 (l0_0.length : Int) 0 l0_0) = some r := h
 clear h
 have H' := Aside0.mk H
 clear H
 go_enter Tryz.func149, Tryz.ntmps149
 go_wp2_with (first | ((refine gd_ 2 ?_); refine bx_ 2 #[.slice A0_0 l0_0.length c0_0] 50 ?_; intro gb461 hg w2 hbox hb; have BK461 := Aside0.mk (hbox); have GW461 := gw_ HB hg; have GE461 := gw_ HB hg; replace HB := bs_ HB hb; clear hb hbox hg; have hcz3_0 := c1_ BK461; have hfz3_0 := blk_frozen BK461.out 0))
 go_loopg [5, 11] k (fun kq v5 v11 w' => ∃ (x5_1 : Int) (x11_1 : Int), v5 = .int .i64 x5_1 ∧ v11 = .int .i64 x11_1 ∧ Aside0 (v_impl_links__CountVoiceChanged_1.l0 kq x5_1 l0_0 (l0_0.length : Int) x11_1 l0_0 = some r) ∧ Aside0 (kq ≤ k) ∧ Aside0 (w'.heap[gb461]? = some (.cells #[(.slice A0_0 l0_0.length c0_0)] 50 (0, 0))) ∧ Aside0 (Below w.heap.size w w'))
 case atStart => exact ⟨(0), (0), rs_, rs_, H', ⟨Nat.le_refl _⟩, ⟨up_ BK461.out⟩, ⟨up_ HB.out⟩⟩
 case round =>
  clear H'
  try clear p2
  try clear hcz3_0
  try clear hfz3_0
  obtain ⟨x5_1, x11_1, rfl, rfl, HA, HK1, BK461, HB⟩ := hrel
  cases gk with
  | zero => exact absurd HA.out (by simp [v_impl_links__CountVoiceChanged_1.l0])
  | succ k1 =>
   have H := HA.out
   clear HA
   simp only [v_impl_links__CountVoiceChanged_1.l0] at H
   replace H := its_ H; rcases H with ⟨c4b0, H⟩ | ⟨c4b0, H⟩
   ·replace H := its_ H; rcases H with ⟨c5b0, H⟩ | ⟨_, ⟨⟩⟩
    replace H := its_ H; rcases H with ⟨c6b0, H⟩ | ⟨_, ⟨⟩⟩
    replace H := bnd_ H; obtain ⟨t464, A7, H⟩ := H
    replace H := itb_ H; rcases H with ⟨rfl, H⟩ | ⟨rfl, H⟩
    ·replace H := bnd_ H; obtain ⟨t465, A9, H⟩ := H
     replace H := itb_ H; rcases H with ⟨rfl, H⟩ | ⟨rfl, H⟩
     ·have H' := Aside0.mk H
      clear H
      have p462 : 0 ≤ (x11_1 : Int) := od_
      have q462 : x11_1 < (l0_0.length : Int) := od_
      obtain ⟨ad462, e462, hx462_0, hx462_1⟩ := at_T70 HR0_0.out x11_1 p462 q462
      cases e462
      replace hx462_0 := bh_ HB hx462_0
      replace hx462_1 := bh_ HB hx462_1
      replace p462 := eq_true p462
      replace q462 := eq_true q462
      go_wp2_with (first | ((refine gd_ 7 ?_); refine bx_ 7 #[.int .u8 0, .int .u8 0] 70 ?_; intro gb463 hg w11 hbox hb; have BK463 := Aside0.mk (hbox); have GW463 := gw_ HB hg; have GE463 := gw_ HB hg; replace HB := bs_ HB hb; have NB461_463 := Aside0.mk ((by rw [hg]; exact Nat.ne_of_lt (blk_lt (g := gb461) (o := .cells #[.slice (some ad462) l0_0.length c0_0] 50 (0, 0)) (up_ BK461.out)) : gb461 ≠ gb463)); have NB463_461 := Aside0.mk ((by rw [hg]; exact Nat.ne_of_gt (blk_lt (g := gb461) (o := .cells #[.slice (some ad462) l0_0.length c0_0] 50 (0, 0)) (up_ BK461.out)) : gb463 ≠ gb461)); replace BK461 := bb_ BK461 hb; clear hb hbox hg; have hnb12 := NB463_461.out; have hnc12 := NB461_463.out; obtain ⟨hcz13_0, hcz13_1⟩ := c2_ BK463; have hfz13_0 := blk_frozen BK463.out 0; have hfz13_1 := blk_frozen BK463.out 1; have hcz14_0 := c1_ BK461; have hfz14_0 := blk_frozen BK461.out 0) | ((refine gc_ 70 ?_); refine gl_ (some 16) Tryz.func70 (impl_IsCandidate.calls k1 _ _ l0_0 true _ (Kd.C_below HR0_0.out (up_ HB.out)) HC0_0.out A7.out) ?_; rintro e w15 ⟨rfl, hb⟩; refine ⟨_, rfl, ?_⟩; replace BK461 := Aside0.mk (blk_below (g := gb461) (o := .cells #[.slice (some ad462) l0_0.length c0_0] 50 (0, 0)) (by (with_reducible repeat (first | refine blk_drewN ?_ _ | refine blk_drew ?_ | refine blk_alloc ?_ _)); refine blk_far ?_ NB461_463.out _; (with_reducible repeat (first | refine blk_drewN ?_ _ | refine blk_drew ?_ | refine blk_alloc ?_ _)); refine blk_far ?_ NB461_463.out _; (with_reducible repeat (first | refine blk_drewN ?_ _ | refine blk_drew ?_ | refine blk_alloc ?_ _)); exact BK461.out) hb); replace BK463 := Aside0.mk (blk_below (g := gb463) (o := .cells #[.int .u8 ((rd_T70 l0_0 x11_1).f0), .int .u8 ((rd_T70 l0_0 x11_1).f1)] 70 (0, 0)) (by (with_reducible repeat (first | refine blk_drewN ?_ _ | refine blk_drew ?_ | refine blk_alloc ?_ _)); refine blk_put (cs := #[.int .u8 ((rd_T70 l0_0 x11_1).f0), .int .u8 0]) ?_ 1 _ rfl; (with_reducible repeat (first | refine blk_drewN ?_ _ | refine blk_drew ?_ | refine blk_alloc ?_ _)); refine blk_put (cs := #[.int .u8 0, .int .u8 0]) ?_ 0 _ rfl; (with_reducible repeat (first | refine blk_drewN ?_ _ | refine blk_drew ?_ | refine blk_alloc ?_ _)); exact BK463.out) hb); replace HB := bs_ HB hb; (try clear hb); (try clear hb2); (try clear hk); (try clear hi); obtain ⟨hcz16_0, hcz16_1⟩ := c2_ BK463; have hfz16_0 := blk_frozen BK463.out 0; have hfz16_1 := blk_frozen BK463.out 1) | (go_at_call 152; (with_reducible refine (impl_CountVoiceChanged_1.calls ((rd_T70 l0_0 x11_1).f0) ((rd_T70 l0_0 x11_1).f1) true _ A9.out).mono ?_); rintro e w17 ⟨rfl, hb⟩; replace BK461 := bb_ BK461 hb; replace BK463 := bb_ BK463 hb; replace HB := bs_ HB hb; (try clear hb); (try clear hb2); (try clear hk); (try clear hi)))
      go_roundg k1
      case measure => have := HK1.out; omega
      case rel => exact ⟨(wrap64 (x5_1 + 1)), (wrap64 (x11_1 + 1)), rs_, rs_, H', ⟨by have := HK1.out; omega⟩, ⟨up_ BK461.out⟩, ⟨up_ HB.out⟩⟩
     ·have H' := Aside0.mk H
      clear H
      have p462 : 0 ≤ (x11_1 : Int) := od_
      have q462 : x11_1 < (l0_0.length : Int) := od_
      obtain ⟨ad462, e462, hx462_0, hx462_1⟩ := at_T70 HR0_0.out x11_1 p462 q462
      cases e462
      replace hx462_0 := bh_ HB hx462_0
      replace hx462_1 := bh_ HB hx462_1
      replace p462 := eq_true p462
      replace q462 := eq_true q462
      go_wp2_with (first | ((refine gd_ 7 ?_); refine bx_ 7 #[.int .u8 0, .int .u8 0] 70 ?_; intro gb463 hg w18 hbox hb; have BK463 := Aside0.mk (hbox); have GW463 := gw_ HB hg; have GE463 := gw_ HB hg; replace HB := bs_ HB hb; have NB461_463 := Aside0.mk ((by rw [hg]; exact Nat.ne_of_lt (blk_lt (g := gb461) (o := .cells #[.slice (some ad462) l0_0.length c0_0] 50 (0, 0)) (up_ BK461.out)) : gb461 ≠ gb463)); have NB463_461 := Aside0.mk ((by rw [hg]; exact Nat.ne_of_gt (blk_lt (g := gb461) (o := .cells #[.slice (some ad462) l0_0.length c0_0] 50 (0, 0)) (up_ BK461.out)) : gb463 ≠ gb461)); replace BK461 := bb_ BK461 hb; clear hb hbox hg; have hnb19 := NB463_461.out; have hnc19 := NB461_463.out; obtain ⟨hcz20_0, hcz20_1⟩ := c2_ BK463; have hfz20_0 := blk_frozen BK463.out 0; have hfz20_1 := blk_frozen BK463.out 1; have hcz21_0 := c1_ BK461; have hfz21_0 := blk_frozen BK461.out 0) | ((refine gc_ 70 ?_); refine gl_ (some 16) Tryz.func70 (impl_IsCandidate.calls k1 _ _ l0_0 true _ (Kd.C_below HR0_0.out (up_ HB.out)) HC0_0.out A7.out) ?_; rintro e w22 ⟨rfl, hb⟩; refine ⟨_, rfl, ?_⟩; replace BK461 := Aside0.mk (blk_below (g := gb461) (o := .cells #[.slice (some ad462) l0_0.length c0_0] 50 (0, 0)) (by (with_reducible repeat (first | refine blk_drewN ?_ _ | refine blk_drew ?_ | refine blk_alloc ?_ _)); refine blk_far ?_ NB461_463.out _; (with_reducible repeat (first | refine blk_drewN ?_ _ | refine blk_drew ?_ | refine blk_alloc ?_ _)); refine blk_far ?_ NB461_463.out _; (with_reducible repeat (first | refine blk_drewN ?_ _ | refine blk_drew ?_ | refine blk_alloc ?_ _)); exact BK461.out) hb); replace BK463 := Aside0.mk (blk_below (g := gb463) (o := .cells #[.int .u8 ((rd_T70 l0_0 x11_1).f0), .int .u8 ((rd_T70 l0_0 x11_1).f1)] 70 (0, 0)) (by (with_reducible repeat (first | refine blk_drewN ?_ _ | refine blk_drew ?_ | refine blk_alloc ?_ _)); refine blk_put (cs := #[.int .u8 ((rd_T70 l0_0 x11_1).f0), .int .u8 0]) ?_ 1 _ rfl; (with_reducible repeat (first | refine blk_drewN ?_ _ | refine blk_drew ?_ | refine blk_alloc ?_ _)); refine blk_put (cs := #[.int .u8 0, .int .u8 0]) ?_ 0 _ rfl; (with_reducible repeat (first | refine blk_drewN ?_ _ | refine blk_drew ?_ | refine blk_alloc ?_ _)); exact BK463.out) hb); replace HB := bs_ HB hb; (try clear hb); (try clear hb2); (try clear hk); (try clear hi); obtain ⟨hcz23_0, hcz23_1⟩ := c2_ BK463; have hfz23_0 := blk_frozen BK463.out 0; have hfz23_1 := blk_frozen BK463.out 1) | (go_at_call 152; (with_reducible refine (impl_CountVoiceChanged_1.calls ((rd_T70 l0_0 x11_1).f0) ((rd_T70 l0_0 x11_1).f1) false _ A9.out).mono ?_); rintro e w24 ⟨rfl, hb⟩; replace BK461 := bb_ BK461 hb; replace BK463 := bb_ BK463 hb; replace HB := bs_ HB hb; (try clear hb); (try clear hb2); (try clear hk); (try clear hi)))
      go_roundg k1
      case measure => have := HK1.out; omega
      case rel => exact ⟨(x5_1), (wrap64 (x11_1 + 1)), rs_, rs_, H', ⟨by have := HK1.out; omega⟩, ⟨up_ BK461.out⟩, ⟨up_ HB.out⟩⟩
    ·have H' := Aside0.mk H
     clear H
     have p462 : 0 ≤ (x11_1 : Int) := od_
     have q462 : x11_1 < (l0_0.length : Int) := od_
     obtain ⟨ad462, e462, hx462_0, hx462_1⟩ := at_T70 HR0_0.out x11_1 p462 q462
     cases e462
     replace hx462_0 := bh_ HB hx462_0
     replace hx462_1 := bh_ HB hx462_1
     replace p462 := eq_true p462
     replace q462 := eq_true q462
     go_wp2_with (first | ((refine gd_ 7 ?_); refine bx_ 7 #[.int .u8 0, .int .u8 0] 70 ?_; intro gb463 hg w25 hbox hb; have BK463 := Aside0.mk (hbox); have GW463 := gw_ HB hg; have GE463 := gw_ HB hg; replace HB := bs_ HB hb; have NB461_463 := Aside0.mk ((by rw [hg]; exact Nat.ne_of_lt (blk_lt (g := gb461) (o := .cells #[.slice (some ad462) l0_0.length c0_0] 50 (0, 0)) (up_ BK461.out)) : gb461 ≠ gb463)); have NB463_461 := Aside0.mk ((by rw [hg]; exact Nat.ne_of_gt (blk_lt (g := gb461) (o := .cells #[.slice (some ad462) l0_0.length c0_0] 50 (0, 0)) (up_ BK461.out)) : gb463 ≠ gb461)); replace BK461 := bb_ BK461 hb; clear hb hbox hg; have hnb26 := NB463_461.out; have hnc26 := NB461_463.out; obtain ⟨hcz27_0, hcz27_1⟩ := c2_ BK463; have hfz27_0 := blk_frozen BK463.out 0; have hfz27_1 := blk_frozen BK463.out 1; have hcz28_0 := c1_ BK461; have hfz28_0 := blk_frozen BK461.out 0) | ((refine gc_ 70 ?_); refine gl_ (some 16) Tryz.func70 (impl_IsCandidate.calls k1 _ _ l0_0 false _ (Kd.C_below HR0_0.out (up_ HB.out)) HC0_0.out A7.out) ?_; rintro e w29 ⟨rfl, hb⟩; refine ⟨_, rfl, ?_⟩; replace BK461 := Aside0.mk (blk_below (g := gb461) (o := .cells #[.slice (some ad462) l0_0.length c0_0] 50 (0, 0)) (by (with_reducible repeat (first | refine blk_drewN ?_ _ | refine blk_drew ?_ | refine blk_alloc ?_ _)); refine blk_far ?_ NB461_463.out _; (with_reducible repeat (first | refine blk_drewN ?_ _ | refine blk_drew ?_ | refine blk_alloc ?_ _)); refine blk_far ?_ NB461_463.out _; (with_reducible repeat (first | refine blk_drewN ?_ _ | refine blk_drew ?_ | refine blk_alloc ?_ _)); exact BK461.out) hb); replace BK463 := Aside0.mk (blk_below (g := gb463) (o := .cells #[.int .u8 ((rd_T70 l0_0 x11_1).f0), .int .u8 ((rd_T70 l0_0 x11_1).f1)] 70 (0, 0)) (by (with_reducible repeat (first | refine blk_drewN ?_ _ | refine blk_drew ?_ | refine blk_alloc ?_ _)); refine blk_put (cs := #[.int .u8 ((rd_T70 l0_0 x11_1).f0), .int .u8 0]) ?_ 1 _ rfl; (with_reducible repeat (first | refine blk_drewN ?_ _ | refine blk_drew ?_ | refine blk_alloc ?_ _)); refine blk_put (cs := #[.int .u8 0, .int .u8 0]) ?_ 0 _ rfl; (with_reducible repeat (first | refine blk_drewN ?_ _ | refine blk_drew ?_ | refine blk_alloc ?_ _)); exact BK463.out) hb); replace HB := bs_ HB hb; (try clear hb); (try clear hb2); (try clear hk); (try clear hi)))
     go_roundg k1
     case measure => have := HK1.out; omega
     case rel => exact ⟨(x5_1), (wrap64 (x11_1 + 1)), rs_, rs_, H', ⟨by have := HK1.out; omega⟩, ⟨up_ BK461.out⟩, ⟨up_ HB.out⟩⟩
   ·obtain rfl := Option.some.inj H
    go_wp2
    go_ret
    exact ⟨re_, up_ HB.out⟩

/-! ### impl_CountVoiceChanged: function 126 -/
def impl_CountVoiceChanged.f (k : Nat) (l0_0 : List (S70)) : Option (Int) := (v_impl_links__CountVoiceChanged_1.f k l0_0).bind fun t467 => (some t467)
set_option maxHeartbeats 8000000 in
set_option maxRecDepth 100000 in
theorem impl_CountVoiceChanged.calls (k : Nat) (A0_0 : Option Addr) (c0_0 : Nat) (l0_0 : List (S70)) (r : Int) (w : World) (hr0_0 : Kd.C k70 w A0_0 l0_0.length l0_0) (hc0_0 : l0_0.length ≤ c0_0) (h : impl_CountVoiceChanged.f k l0_0 = some r) :
  Calls Tryz.prog 126 #[.agg #[.slice A0_0 l0_0.length c0_0]] w fun e w' => e = .returned (.int .i64 r) ∧ Below w.heap.size w w' := by
 have hu50 := Tryz.underlying50
 have HR0_0 := Aside0.mk hr0_0
 have HC0_0 := Aside0.mk hc0_0
 clear hr0_0 hc0_0
 have HB := Aside0.mk (Below.refl w.heap.size w)
 have H : ((v_impl_links__CountVoiceChanged_1.f k l0_0).bind fun t467 => (some t467)) = some r := h
 clear h
 replace H := bnd_ H; obtain ⟨t467, A2, H⟩ := H
 obtain rfl := Option.some.inj H
 go_enter Tryz.func126, Tryz.ntmps126
 go_wp2_with (first | ((refine gd_ 1 ?_); refine bx_ 1 #[.slice A0_0 l0_0.length c0_0] 50 ?_; intro gb466 hg w3 hbox hb; have BK466 := Aside0.mk (hbox); have GW466 := gw_ HB hg; have GE466 := gw_ HB hg; replace HB := bs_ HB hb; clear hb hbox hg; have hcz4_0 := c1_ BK466; have hfz4_0 := blk_frozen BK466.out 0) | ((refine gc_ 149 ?_); refine gl_ (some 4) Tryz.func149 (v_impl_links__CountVoiceChanged_1.calls k _ _ l0_0 t467 _ (Kd.C_below HR0_0.out (up_ HB.out)) HC0_0.out A2.out) ?_; rintro e w5 ⟨rfl, hb⟩; refine ⟨_, rfl, ?_⟩; replace BK466 := bb_ BK466 hb; replace HB := bs_ HB hb; (try clear hb); (try clear hb2); (try clear hk); (try clear hi)))
 go_ret
 exact ⟨re_, up_ HB.out⟩

end Go.Proofs.YtkddpilambnicaaGreat.PFnExactWeightedWinners
