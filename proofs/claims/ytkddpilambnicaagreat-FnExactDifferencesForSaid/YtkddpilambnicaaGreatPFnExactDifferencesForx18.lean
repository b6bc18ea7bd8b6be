/- Walks of Go functions that the law FnExactDifferencesFor uses: written by this session's program out of the kit's printer; each shows that a call comes to the answers of the Lean function beside it. Conditions: each contract's own. -/
import Derived.Test.YtkddpilambnicaaGreatPFnExactDifferencesForx0
import Derived.Test.YtkddpilambnicaaGreatPFnExactDifferencesForx12
import Derived.Test.YtkddpilambnicaaGreatPFnExactDifferencesForx13
import Derived.Test.YtkddpilambnicaaGreatPFnExactDifferencesForx14
import Derived.Test.YtkddpilambnicaaGreatPFnExactDifferencesForx15
import Derived.Test.YtkddpilambnicaaGreatPFnExactDifferencesForx16
import Derived.Test.YtkddpilambnicaaGreatPFnExactDifferencesForx17
namespace Go.Proofs.YtkddpilambnicaaGreat.PFnExactDifferencesFor
open Go.RowKit Go.Proofs.YtkddpilambnicaaGreatW.PrintWords Go.Proofs.YtkddpilambnicaaGreatW.PrintLast Go.Proofs.YtkddpilambnicaaGreatW.PrintMore Go.Proofs.YtkddpilambnicaaGreat.Mac Go.Proofs.YtkddpilambnicaaGreat.Law
attribute [local go_sem] max2_int min2_int max_two min_two max_three min_three max_four min_four   -- for this text's walks alone
set_option linter.unusedVariables false
set_option linter.unusedSimpArgs false

/-! ### impl_CountBreaks: function 127 -/
mutual
def impl_CountBreaks.l0 : Nat → Int → Int → Bool → List (S70) → Int → Int → List (S70) → Option (Int)
 | 0, _, _, _, _, _, _, _ => none
 | k + 1, x3, x4, x5, x9, x10, x11, x436000 => if x11 < x10 then (if 0 ≤ x11 then (if x11 < (x9.length : Int) then ((impl_IsCandidate.f k x436000).bind fun t438 => (if t438 = true then (if ((rd_T70 x9 x11).f0) = 0 then (impl_CountBreaks.j1 k x3 x4 x5 x9 x10 x11 false x436000) else (impl_CountBreaks.j1 k x3 x4 x5 x9 x10 x11 (((rd_T70 x9 x11).f1) != 0) x436000)) else (impl_CountBreaks.l0 k x3 x4 x5 x9 x10 (wrap64 (x11 + 1)) x436000))) else (none)) else (none)) else (some x3)
def impl_CountBreaks.j1 : Nat → Int → Int → Bool → List (S70) → Int → Int → Bool → List (S70) → Option (Int)
 | 0, _, _, _, _, _, _, _, _ => none
 | k + 1, x3, x4, x5, x9, x10, x11, x19, x436000 => if x19 = true then (impl_CountBreaks.l0 k (wrap64 (x3 + x4)) 0 true x9 x10 (wrap64 (x11 + 1)) x436000) else (if x5 = true then (impl_CountBreaks.l0 k x3 (wrap64 (x4 + 1)) x5 x9 x10 (wrap64 (x11 + 1)) x436000) else (impl_CountBreaks.l0 k x3 x4 x5 x9 x10 (wrap64 (x11 + 1)) x436000))
end
def impl_CountBreaks.f (k : Nat) (l0_0 : List (S70)) : Option (Int) := impl_CountBreaks.l0 k 0 0 false l0_0 (l0_0.length : Int) 0 l0_0
set_option maxHeartbeats 8000000 in
set_option maxRecDepth 100000 in
theorem impl_CountBreaks.calls (k : Nat) (A0_0 : Option Addr) (c0_0 : Nat) (l0_0 : List (S70)) (r : Int) (w : World) (hr0_0 : Kd.C k70 w A0_0 l0_0.length l0_0) (hc0_0 : l0_0.length ≤ c0_0) (h : impl_CountBreaks.f k l0_0 = some r) :
  Calls Tryz.prog 127 #[.agg #[.slice A0_0 l0_0.length c0_0]] w fun e w' => e = .returned (.int .i64 r) ∧ Below w.heap.size w w' := by
 have hu50 := Tryz.underlying50
 have hu70 := Tryz.underlying70
 have HR0_0 := Aside0.mk hr0_0
 have HC0_0 := Aside0.mk hc0_0
 clear hr0_0 hc0_0
 have HB := Aside0.mk (Below.refl w.heap.size w)
 have H : (impl_CountBreaks.l0 k 0 0 false l0_0 (l0_0.length : Int) 0 l0_0) = some r := h
 clear h
 have H' := Aside0.mk H
 clear H
 go_enter Tryz.func127, Tryz.ntmps127
 go_wp2_with (first | ((refine gd_ 1 ?_); refine bx_ 1 #[.slice A0_0 l0_0.length c0_0] 50 ?_; intro gb435 hg w2 hbox hb; have BK435 := Aside0.mk (hbox); have GW435 := gw_ HB hg; have GE435 := gw_ HB hg; replace HB := bs_ HB hb; clear hb hbox hg; have hcz3_0 := c1_ BK435; have hfz3_0 := blk_frozen BK435.out 0))
 go_loopg [3, 4, 5, 11] k (fun kq v3 v4 v5 v11 w' => ∃ (x3_1 : Int) (x4_1 : Int) (x5_1 : Bool) (x11_1 : Int), v3 = .int .i64 x3_1 ∧ v4 = .int .i64 x4_1 ∧ v5 = .bool x5_1 ∧ v11 = .int .i64 x11_1 ∧ Aside0 (impl_CountBreaks.l0 kq x3_1 x4_1 x5_1 l0_0 (l0_0.length : Int) x11_1 l0_0 = some r) ∧ Aside0 (kq ≤ k) ∧ Aside0 (w'.heap[gb435]? = some (.cells #[(.slice A0_0 l0_0.length c0_0)] 50 (0, 0))) ∧ Aside0 (Below w.heap.size w w'))
 case atStart => exact ⟨(0), (0), (false), (0), rs_, rs_, rs_, rs_, H', ⟨Nat.le_refl _⟩, ⟨up_ BK435.out⟩, ⟨up_ HB.out⟩⟩
 case round =>
  clear H'
  try clear c1
  try clear p2
  try clear hcz3_0
  try clear hfz3_0
  obtain ⟨x3_1, x4_1, x5_1, x11_1, rfl, rfl, rfl, rfl, HA, HK1, BK435, HB⟩ := hrel
  cases gk with
  | zero => exact absurd HA.out (by simp [impl_CountBreaks.l0])
  | succ k1 =>
   have H := HA.out
   clear HA
   simp only [impl_CountBreaks.l0] at H
   replace H := its_ H; rcases H with ⟨c4b0, H⟩ | ⟨c4b0, H⟩
   ·replace H := its_ H; rcases H with ⟨c5b0, H⟩ | ⟨_, ⟨⟩⟩
    replace H := its_ H; rcases H with ⟨c6b0, H⟩ | ⟨_, ⟨⟩⟩
    replace H := bnd_ H; obtain ⟨t438, A7, H⟩ := H
    replace H := itb_ H; rcases H with ⟨rfl, H⟩ | ⟨rfl, H⟩
    ·have HC9 := Aside0.mk H
     clear H
     have p436 : 0 ≤ (x11_1 : Int) := od_
     have q436 : x11_1 < (l0_0.length : Int) := od_
     obtain ⟨ad436, e436, hx436_0, hx436_1⟩ := at_T70 HR0_0.out x11_1 p436 q436
     cases e436
     replace hx436_0 := bh_ HB hx436_0
     replace hx436_1 := bh_ HB hx436_1
     replace p436 := eq_true p436
     replace q436 := eq_true q436
     go_upto_region 6 with (first | ((refine gd_ 7 ?_); refine bx_ 7 #[.int .u8 0, .int .u8 0] 70 ?_; intro gb437 hg w10 hbox hb; have BK437 := Aside0.mk (hbox); have GW437 := gw_ HB hg; have GE437 := gw_ HB hg; replace HB := bs_ HB hb; have NB435_437 := Aside0.mk ((by rw [hg]; exact Nat.ne_of_lt (blk_lt (g := gb435) (o := .cells #[.slice (some ad436) l0_0.length c0_0] 50 (0, 0)) (up_ BK435.out)) : gb435 ≠ gb437)); have NB437_435 := Aside0.mk ((by rw [hg]; exact Nat.ne_of_gt (blk_lt (g := gb435) (o := .cells #[.slice (some ad436) l0_0.length c0_0] 50 (0, 0)) (up_ BK435.out)) : gb437 ≠ gb435)); replace BK435 := bb_ BK435 hb; clear hb hbox hg; have hnb11 := NB437_435.out; have hnc11 := NB435_437.out; obtain ⟨hcz12_0, hcz12_1⟩ := c2_ BK437; have hfz12_0 := blk_frozen BK437.out 0; have hfz12_1 := blk_frozen BK437.out 1; have hcz13_0 := c1_ BK435; have hfz13_0 := blk_frozen BK435.out 0) | ((refine gc_ 70 ?_); refine gl_ (some 17) Tryz.func70 (impl_IsCandidate.calls k1 _ _ l0_0 true _ (Kd.C_below HR0_0.out (up_ HB.out)) HC0_0.out A7.out) ?_; rintro e w14 ⟨rfl, hb⟩; refine ⟨_, rfl, ?_⟩; replace BK435 := Aside0.mk (blk_below (g := gb435) (o := .cells #[.slice (some ad436) l0_0.length c0_0] 50 (0, 0)) (by (with_reducible repeat (first | refine blk_drewN ?_ _ | refine blk_drew ?_ | refine blk_alloc ?_ _)); refine blk_far ?_ NB435_437.out _; (with_reducible repeat (first | refine blk_drewN ?_ _ | refine blk_drew ?_ | refine blk_alloc ?_ _)); refine blk_far ?_ NB435_437.out _; (with_reducible repeat (first | refine blk_drewN ?_ _ | refine blk_drew ?_ | refine blk_alloc ?_ _)); exact BK435.out) hb); replace BK437 := Aside0.mk (blk_below (g := gb437) (o := .cells #[.int .u8 ((rd_T70 l0_0 x11_1).f0), .int .u8 ((rd_T70 l0_0 x11_1).f1)] 70 (0, 0)) (by (with_reducible repeat (first | refine blk_drewN ?_ _ | refine blk_drew ?_ | refine blk_alloc ?_ _)); refine blk_put (cs := #[.int .u8 ((rd_T70 l0_0 x11_1).f0), .int .u8 0]) ?_ 1 _ rfl; (with_reducible repeat (first | refine blk_drewN ?_ _ | refine blk_drew ?_ | refine blk_alloc ?_ _)); refine blk_put (cs := #[.int .u8 0, .int .u8 0]) ?_ 0 _ rfl; (with_reducible repeat (first | refine blk_drewN ?_ _ | refine blk_drew ?_ | refine blk_alloc ?_ _)); exact BK437.out) hb); replace HB := bs_ HB hb; (try clear hb); (try clear hb2); (try clear hk); (try clear hi)))
     (try simp only [Act.put, List.setIfInBounds_toArray, List.set_cons_zero, List.set_cons_succ])
     go_cut [19] (fun v19 wc => ∃ (kq : Nat) (x19_8 : Bool), v19 = .bool x19_8 ∧ Aside0 (impl_CountBreaks.j1 kq x3_1 x4_1 x5_1 l0_0 (l0_0.length : Int) x11_1 x19_8 l0_0 = some r) ∧ Aside0 (kq ≤ k1) ∧ Aside0 (wc.heap[gb435]? = some (.cells #[(.slice (some ad436) l0_0.length c0_0)] 50 (0, 0))) ∧ Aside0 (wc.heap[gb437]? = some (.cells #[.int .u8 ((rd_T70 l0_0 x11_1).f0), .int .u8 ((rd_T70 l0_0 x11_1).f1)] 70 (0, 0))) ∧ Aside0 (Below w.heap.size w wc))
     case first =>
      have H := HC9.out
      clear HC9
      replace H := ieq_ H; rcases H with ⟨-, c15b0, c15b1, H⟩ | ⟨c15, c15b0, c15b1, H⟩
      ·(first | rw [c15b0] | (simp only [i64_w, i32_w]; rw [c15b0]) | skip)
       have H' := Aside0.mk H
       clear H
       have hnb16 := NB437_435.out
       have hnc16 := NB435_437.out
       obtain ⟨hcz17_0, hcz17_1⟩ := c2_ BK437
       have hfz17_0 := blk_frozen BK437.out 0
       have hfz17_1 := blk_frozen BK437.out 1
       go_wp2
       go_meet
       case rel => exact ⟨_, (false), rs_, H', ⟨by have := HK1.out; first | omega | exact Nat.le_refl _⟩, ⟨up_ BK435.out⟩, ⟨up_ BK437.out⟩, ⟨up_ HB.out⟩⟩
      ·(first | rw [c15b0] | (simp only [i64_w, i32_w]; rw [c15b0]) | skip)
       have H' := Aside0.mk H
       clear H
       have hnb18 := NB437_435.out
       have hnc18 := NB435_437.out
       obtain ⟨hcz19_0, hcz19_1⟩ := c2_ BK437
       have hfz19_0 := blk_frozen BK437.out 0
       have hfz19_1 := blk_frozen BK437.out 1
       go_wp2
       go_meet
       case rel => exact ⟨_, ((((rd_T70 l0_0 x11_1).f1) != 0)), rs_, H', ⟨by have := HK1.out; first | omega | exact Nat.le_refl _⟩, ⟨up_ BK435.out⟩, ⟨up_ BK437.out⟩, ⟨up_ HB.out⟩⟩
     case rest =>
      clear HC9
      try clear c1
      try clear p2
      try clear c4
      try clear c4b0
      try clear p4
      try clear q4
      try clear hx4
      try clear c5
      try clear c5b0
      try clear c6
      try clear c6b0
      try clear p6
      try clear c7
      try clear c8
      try clear c11
      try clear c12
      try clear c15
      try clear c15b0
      try clear c15b1
      try clear c16
      try clear c18
      try clear hcz12_0
      try clear hcz12_1
      try clear hcz13_0
      try clear hcz17_0
      try clear hcz17_1
      try clear hcz19_0
      try clear hcz19_1
      try clear hcz3_0
      try clear hfz12_0
      try clear hfz12_1
      try clear hfz13_0
      try clear hfz17_0
      try clear hfz17_1
      try clear hfz19_0
      try clear hfz19_1
      try clear hfz3_0
      try clear hx436_0
      try clear hx436_1
      try clear p2
      try clear p436
      try clear q436
      obtain ⟨kq, x19_8, rfl, HA, HJ8, BK435, BK437, HB⟩ := hcut
      cases kq with
      | zero => exact absurd HA.out (by simp [impl_CountBreaks.j1])
      | succ kj8 =>
       have H := HA.out
       clear HA
       simp only [impl_CountBreaks.j1] at H
       replace H := itb_ H; rcases H with ⟨rfl, H⟩ | ⟨rfl, H⟩
       ·have H' := Aside0.mk H
        clear H
        go_wp2
        go_roundg kj8
        case measure => have := HK1.out; have := HJ8.out; omega
        case rel => exact ⟨(wrap64 (x3_1 + x4_1)), (0), (true), (wrap64 (x11_1 + 1)), rs_, rs_, rs_, rs_, H', ⟨by have := HK1.out; have := HJ8.out; omega⟩, ⟨up_ BK435.out⟩, ⟨up_ HB.out⟩⟩
       ·replace H := itb_ H; rcases H with ⟨rfl, H⟩ | ⟨rfl, H⟩
        ·have H' := Aside0.mk H
         clear H
         go_wp2
         go_roundg kj8
         case measure => have := HK1.out; have := HJ8.out; omega
         case rel => exact ⟨(x3_1), (wrap64 (x4_1 + 1)), (true), (wrap64 (x11_1 + 1)), rs_, rs_, rs_, rs_, H', ⟨by have := HK1.out; have := HJ8.out; omega⟩, ⟨up_ BK435.out⟩, ⟨up_ HB.out⟩⟩
        ·have H' := Aside0.mk H
         clear H
         go_wp2
         go_roundg kj8
         case measure => have := HK1.out; have := HJ8.out; omega
         case rel => exact ⟨(x3_1), (x4_1), (false), (wrap64 (x11_1 + 1)), rs_, rs_, rs_, rs_, H', ⟨by have := HK1.out; have := HJ8.out; omega⟩, ⟨up_ BK435.out⟩, ⟨up_ HB.out⟩⟩
    ·have H' := Aside0.mk H
     clear H
     have p436 : 0 ≤ (x11_1 : Int) := od_
     have q436 : x11_1 < (l0_0.length : Int) := od_
     obtain ⟨ad436, e436, hx436_0, hx436_1⟩ := at_T70 HR0_0.out x11_1 p436 q436
     cases e436
     replace hx436_0 := bh_ HB hx436_0
     replace hx436_1 := bh_ HB hx436_1
     replace p436 := eq_true p436
     replace q436 := eq_true q436
     go_wp2_with (first | ((refine gd_ 7 ?_); refine bx_ 7 #[.int .u8 0, .int .u8 0] 70 ?_; intro gb437 hg w22 hbox hb; have BK437 := Aside0.mk (hbox); have GW437 := gw_ HB hg; have GE437 := gw_ HB hg; replace HB := bs_ HB hb; have NB435_437 := Aside0.mk ((by rw [hg]; exact Nat.ne_of_lt (blk_lt (g := gb435) (o := .cells #[.slice (some ad436) l0_0.length c0_0] 50 (0, 0)) (up_ BK435.out)) : gb435 ≠ gb437)); have NB437_435 := Aside0.mk ((by rw [hg]; exact Nat.ne_of_gt (blk_lt (g := gb435) (o := .cells #[.slice (some ad436) l0_0.length c0_0] 50 (0, 0)) (up_ BK435.out)) : gb437 ≠ gb435)); replace BK435 := bb_ BK435 hb; clear hb hbox hg; have hnb23 := NB437_435.out; have hnc23 := NB435_437.out; obtain ⟨hcz24_0, hcz24_1⟩ := c2_ BK437; have hfz24_0 := blk_frozen BK437.out 0; have hfz24_1 := blk_frozen BK437.out 1; have hcz25_0 := c1_ BK435; have hfz25_0 := blk_frozen BK435.out 0) | ((refine gc_ 70 ?_); refine gl_ (some 17) Tryz.func70 (impl_IsCandidate.calls k1 _ _ l0_0 false _ (Kd.C_below HR0_0.out (up_ HB.out)) HC0_0.out A7.out) ?_; rintro e w26 ⟨rfl, hb⟩; refine ⟨_, rfl, ?_⟩; replace BK435 := Aside0.mk (blk_below (g := gb435) (o := .cells #[.slice (some ad436) l0_0.length c0_0] 50 (0, 0)) (by (with_reducible repeat (first | refine blk_drewN ?_ _ | refine blk_drew ?_ | refine blk_alloc ?_ _)); refine blk_far ?_ NB435_437.out _; (with_reducible repeat (first | refine blk_drewN ?_ _ | refine blk_drew ?_ | refine blk_alloc ?_ _)); refine blk_far ?_ NB435_437.out _; (with_reducible repeat (first | refine blk_drewN ?_ _ | refine blk_drew ?_ | refine blk_alloc ?_ _)); exact BK435.out) hb); replace BK437 := Aside0.mk (blk_below (g := gb437) (o := .cells #[.int .u8 ((rd_T70 l0_0 x11_1).f0), .int .u8 ((rd_T70 l0_0 x11_1).f1)] 70 (0, 0)) (by (with_reducible repeat (first | refine blk_drewN ?_ _ | refine blk_drew ?_ | refine blk_alloc ?_ _)); refine blk_put (cs := #[.int .u8 ((rd_T70 l0_0 x11_1).f0), .int .u8 0]) ?_ 1 _ rfl; (with_reducible repeat (first | refine blk_drewN ?_ _ | refine blk_drew ?_ | refine blk_alloc ?_ _)); refine blk_put (cs := #[.int .u8 0, .int .u8 0]) ?_ 0 _ rfl; (with_reducible repeat (first | refine blk_drewN ?_ _ | refine blk_drew ?_ | refine blk_alloc ?_ _)); exact BK437.out) hb); replace HB := bs_ HB hb; (try clear hb); (try clear hb2); (try clear hk); (try clear hi)))
     go_roundg k1
     case measure => have := HK1.out; omega
     case rel => exact ⟨(x3_1), (x4_1), (x5_1), (wrap64 (x11_1 + 1)), rs_, rs_, rs_, rs_, H', ⟨by have := HK1.out; omega⟩, ⟨up_ BK435.out⟩, ⟨up_ HB.out⟩⟩
   ·obtain rfl := Option.some.inj H
    go_wp2
    go_ret
    exact ⟨re_, up_ HB.out⟩

/-! ### impl_ViolationsOf: function 95 -/
def impl_ViolationsOf.f (k : Nat) (a0 : ByteArray) (l1_0 : List (S70)) : Option (Int) := (impl_IsCandidate.f k l1_0).bind fun t440 => (if t440 = true then ((impl_OutputOf.f k l1_0).bind fun t441 => (if a0.toList = ([111, 110, 115, 101, 116] : List UInt8) then ((impl_CountOnsetless.f k t441).bind fun t442 => (some t442)) else (if a0.toList = ([110, 111, 99, 111, 100, 97] : List UInt8) then ((impl_CountCodas.f k t441).bind fun t443 => (some t443)) else (if a0.toList = ([99, 108, 117, 115, 116, 101, 114] : List UInt8) then ((impl_CountClusters.f k t441).bind fun t444 => (some t444)) else (if a0.toList = ([118, 111, 105, 99, 101] : List UInt8) then ((impl_CountVoiced.f k t441).bind fun t445 => (some t445)) else (if a0.toList = ([102, 105, 110, 97, 108] : List UInt8) then ((impl_CountFinalVoiced.f k t441).bind fun t446 => (some t446)) else (if a0.toList = ([110, 97, 115, 97, 108] : List UInt8) then ((impl_CountNasalVoiceless.f k t441).bind fun t447 => (some t447)) else (if a0.toList = ([109, 97, 120] : List UInt8) then ((impl_CountDeleted.f k l1_0).bind fun t448 => (some t448)) else (if a0.toList = ([100, 101, 112] : List UInt8) then ((impl_CountInserted.f k l1_0).bind fun t449 => (some t449)) else (if a0.toList = ([105, 100, 101, 110, 116] : List UInt8) then ((impl_CountVoiceChanged.f k l1_0).bind fun t450 => (some t450)) else (if a0.toList = ([99, 111, 110, 116, 105, 103] : List UInt8) then ((impl_CountBreaks.f k l1_0).bind fun t451 => (some t451)) else (some (-1))))))))))))) else (some (-1)))
set_option maxHeartbeats 8000000 in
set_option maxRecDepth 100000 in
theorem impl_ViolationsOf.calls (k : Nat) (a0 : ByteArray) (A1_0 : Option Addr) (c1_0 : Nat) (l1_0 : List (S70)) (r : Int) (w : World) (hr1_0 : Kd.C k70 w A1_0 l1_0.length l1_0) (hc1_0 : l1_0.length ≤ c1_0) (h : impl_ViolationsOf.f k a0 l1_0 = some r) :
  Calls Tryz.prog 95 #[.string a0, .agg #[.slice A1_0 l1_0.length c1_0]] w fun e w' => e = .returned (.int .i64 r) ∧ Below w.heap.size w w' := by
 have hu50 := Tryz.underlying50
 have HR1_0 := Aside0.mk hr1_0
 have HC1_0 := Aside0.mk hc1_0
 clear hr1_0 hc1_0
 have HB := Aside0.mk (Below.refl w.heap.size w)
 have H : ((impl_IsCandidate.f k l1_0).bind fun t440 => (if t440 = true then ((impl_OutputOf.f k l1_0).bind fun t441 => (if a0.toList = ([111, 110, 115, 101, 116] : List UInt8) then ((impl_CountOnsetless.f k t441).bind fun t442 => (some t442)) else (if a0.toList = ([110, 111, 99, 111, 100, 97] : List UInt8) then ((impl_CountCodas.f k t441).bind fun t443 => (some t443)) else (if a0.toList = ([99, 108, 117, 115, 116, 101, 114] : List UInt8) then ((impl_CountClusters.f k t441).bind fun t444 => (some t444)) else (if a0.toList = ([118, 111, 105, 99, 101] : List UInt8) then ((impl_CountVoiced.f k t441).bind fun t445 => (some t445)) else (if a0.toList = ([102, 105, 110, 97, 108] : List UInt8) then ((impl_CountFinalVoiced.f k t441).bind fun t446 => (some t446)) else (if a0.toList = ([110, 97, 115, 97, 108] : List UInt8) then ((impl_CountNasalVoiceless.f k t441).bind fun t447 => (some t447)) else (if a0.toList = ([109, 97, 120] : List UInt8) then ((impl_CountDeleted.f k l1_0).bind fun t448 => (some t448)) else (if a0.toList = ([100, 101, 112] : List UInt8) then ((impl_CountInserted.f k l1_0).bind fun t449 => (some t449)) else (if a0.toList = ([105, 100, 101, 110, 116] : List UInt8) then ((impl_CountVoiceChanged.f k l1_0).bind fun t450 => (some t450)) else (if a0.toList = ([99, 111, 110, 116, 105, 103] : List UInt8) then ((impl_CountBreaks.f k l1_0).bind fun t451 => (some t451)) else (some (-1))))))))))))) else (some (-1)))) = some r := h
 clear h
 replace H := bnd_ H; obtain ⟨t440, A3, H⟩ := H
 replace H := itb_ H; rcases H with ⟨rfl, H⟩ | ⟨rfl, H⟩
 ·replace H := bnd_ H; obtain ⟨t441, A5, H⟩ := H
  replace H := ieq_ H; rcases H with ⟨-, c6b0, c6b1, H⟩ | ⟨c6, c6b0, c6b1, H⟩
  ·replace H := bnd_ H; obtain ⟨t442, A7, H⟩ := H
   obtain rfl := Option.some.inj H
   go_enter Tryz.func95, Tryz.ntmps95
   go_wp2_with (first | ((refine gd_ 3 ?_); refine bx_ 3 #[.slice A1_0 l1_0.length c1_0] 50 ?_; intro gb439 hg w8 hbox hb; have BK439 := Aside0.mk (hbox); have GW439 := gw_ HB hg; have GE439 := gw_ HB hg; replace HB := bs_ HB hb; clear hb hbox hg; have hcz9_0 := c1_ BK439; have hfz9_0 := blk_frozen BK439.out 0) | ((refine gc_ 70 ?_); refine gl_ (some 7) Tryz.func70 (impl_IsCandidate.calls k _ _ l1_0 true _ (Kd.C_below HR1_0.out (up_ HB.out)) HC1_0.out A3.out) ?_; rintro e w10 ⟨rfl, hb⟩; refine ⟨_, rfl, ?_⟩; replace BK439 := bb_ BK439 hb; replace HB := bs_ HB hb; (try clear hb); (try clear hb2); (try clear hk); (try clear hi); have hcz11_0 := c1_ BK439; have hfz11_0 := blk_frozen BK439.out 0) | ((refine gc_ 117 ?_); refine gl_ (some 10) Tryz.func117 (impl_OutputOf.calls k _ _ l1_0 t441 _ (Kd.C_below HR1_0.out (up_ HB.out)) HC1_0.out A5.out) ?_; rintro e w12 ⟨rfl, hb⟩; refine ⟨_, rfl, ?_⟩; replace BK439 := bb_ BK439 hb; replace HB := bs_ HB hb; (try clear hb); (try clear hb2); (try clear hk); (try clear hi)) | ((refine gc_ 118 ?_); refine gl_ (some 15) Tryz.func118 (impl_CountOnsetless.calls k t441 t442 _ A7.out) ?_; rintro e w13 ⟨rfl, hb⟩; refine ⟨_, rfl, ?_⟩; replace BK439 := bb_ BK439 hb; replace HB := bs_ HB hb; (try clear hb); (try clear hb2); (try clear hk); (try clear hi)))
   go_ret
   exact ⟨re_, up_ HB.out⟩
  ·replace H := ieq_ H; rcases H with ⟨-, c14b0, c14b1, H⟩ | ⟨c14, c14b0, c14b1, H⟩
   ·replace H := bnd_ H; obtain ⟨t443, A15, H⟩ := H
    obtain rfl := Option.some.inj H
    go_enter Tryz.func95, Tryz.ntmps95
    go_wp2_with (first | ((refine gd_ 3 ?_); refine bx_ 3 #[.slice A1_0 l1_0.length c1_0] 50 ?_; intro gb439 hg w16 hbox hb; have BK439 := Aside0.mk (hbox); have GW439 := gw_ HB hg; have GE439 := gw_ HB hg; replace HB := bs_ HB hb; clear hb hbox hg; have hcz17_0 := c1_ BK439; have hfz17_0 := blk_frozen BK439.out 0) | ((refine gc_ 70 ?_); refine gl_ (some 7) Tryz.func70 (impl_IsCandidate.calls k _ _ l1_0 true _ (Kd.C_below HR1_0.out (up_ HB.out)) HC1_0.out A3.out) ?_; rintro e w18 ⟨rfl, hb⟩; refine ⟨_, rfl, ?_⟩; replace BK439 := bb_ BK439 hb; replace HB := bs_ HB hb; (try clear hb); (try clear hb2); (try clear hk); (try clear hi); have hcz19_0 := c1_ BK439; have hfz19_0 := blk_frozen BK439.out 0) | ((refine gc_ 117 ?_); refine gl_ (some 10) Tryz.func117 (impl_OutputOf.calls k _ _ l1_0 t441 _ (Kd.C_below HR1_0.out (up_ HB.out)) HC1_0.out A5.out) ?_; rintro e w20 ⟨rfl, hb⟩; refine ⟨_, rfl, ?_⟩; replace BK439 := bb_ BK439 hb; replace HB := bs_ HB hb; (try clear hb); (try clear hb2); (try clear hk); (try clear hi)) | ((refine gc_ 119 ?_); refine gl_ (some 19) Tryz.func119 (impl_CountCodas.calls k t441 t443 _ A15.out) ?_; rintro e w21 ⟨rfl, hb⟩; refine ⟨_, rfl, ?_⟩; replace BK439 := bb_ BK439 hb; replace HB := bs_ HB hb; (try clear hb); (try clear hb2); (try clear hk); (try clear hi)))
    go_ret
    exact ⟨re_, up_ HB.out⟩
   ·replace H := ieq_ H; rcases H with ⟨-, c22b0, c22b1, H⟩ | ⟨c22, c22b0, c22b1, H⟩
    ·replace H := bnd_ H; obtain ⟨t444, A23, H⟩ := H
     obtain rfl := Option.some.inj H
     go_enter Tryz.func95, Tryz.ntmps95
     go_wp2_with (first | ((refine gd_ 3 ?_); refine bx_ 3 #[.slice A1_0 l1_0.length c1_0] 50 ?_; intro gb439 hg w24 hbox hb; have BK439 := Aside0.mk (hbox); have GW439 := gw_ HB hg; have GE439 := gw_ HB hg; replace HB := bs_ HB hb; clear hb hbox hg; have hcz25_0 := c1_ BK439; have hfz25_0 := blk_frozen BK439.out 0) | ((refine gc_ 70 ?_); refine gl_ (some 7) Tryz.func70 (impl_IsCandidate.calls k _ _ l1_0 true _ (Kd.C_below HR1_0.out (up_ HB.out)) HC1_0.out A3.out) ?_; rintro e w26 ⟨rfl, hb⟩; refine ⟨_, rfl, ?_⟩; replace BK439 := bb_ BK439 hb; replace HB := bs_ HB hb; (try clear hb); (try clear hb2); (try clear hk); (try clear hi); have hcz27_0 := c1_ BK439; have hfz27_0 := blk_frozen BK439.out 0) | ((refine gc_ 117 ?_); refine gl_ (some 10) Tryz.func117 (impl_OutputOf.calls k _ _ l1_0 t441 _ (Kd.C_below HR1_0.out (up_ HB.out)) HC1_0.out A5.out) ?_; rintro e w28 ⟨rfl, hb⟩; refine ⟨_, rfl, ?_⟩; replace BK439 := bb_ BK439 hb; replace HB := bs_ HB hb; (try clear hb); (try clear hb2); (try clear hk); (try clear hi)) | ((refine gc_ 120 ?_); refine gl_ (some 23) Tryz.func120 (impl_CountClusters.calls k t441 t444 _ A23.out) ?_; rintro e w29 ⟨rfl, hb⟩; refine ⟨_, rfl, ?_⟩; replace BK439 := bb_ BK439 hb; replace HB := bs_ HB hb; (try clear hb); (try clear hb2); (try clear hk); (try clear hi)))
     go_ret
     exact ⟨re_, up_ HB.out⟩
    ·replace H := ieq_ H; rcases H with ⟨-, c30b0, c30b1, H⟩ | ⟨c30, c30b0, c30b1, H⟩
     ·replace H := bnd_ H; obtain ⟨t445, A31, H⟩ := H
      obtain rfl := Option.some.inj H
      go_enter Tryz.func95, Tryz.ntmps95
      go_wp2_with (first | ((refine gd_ 3 ?_); refine bx_ 3 #[.slice A1_0 l1_0.length c1_0] 50 ?_; intro gb439 hg w32 hbox hb; have BK439 := Aside0.mk (hbox); have GW439 := gw_ HB hg; have GE439 := gw_ HB hg; replace HB := bs_ HB hb; clear hb hbox hg; have hcz33_0 := c1_ BK439; have hfz33_0 := blk_frozen BK439.out 0) | ((refine gc_ 70 ?_); refine gl_ (some 7) Tryz.func70 (impl_IsCandidate.calls k _ _ l1_0 true _ (Kd.C_below HR1_0.out (up_ HB.out)) HC1_0.out A3.out) ?_; rintro e w34 ⟨rfl, hb⟩; refine ⟨_, rfl, ?_⟩; replace BK439 := bb_ BK439 hb; replace HB := bs_ HB hb; (try clear hb); (try clear hb2); (try clear hk); (try clear hi); have hcz35_0 := c1_ BK439; have hfz35_0 := blk_frozen BK439.out 0) | ((refine gc_ 117 ?_); refine gl_ (some 10) Tryz.func117 (impl_OutputOf.calls k _ _ l1_0 t441 _ (Kd.C_below HR1_0.out (up_ HB.out)) HC1_0.out A5.out) ?_; rintro e w36 ⟨rfl, hb⟩; refine ⟨_, rfl, ?_⟩; replace BK439 := bb_ BK439 hb; replace HB := bs_ HB hb; (try clear hb); (try clear hb2); (try clear hk); (try clear hi)) | ((refine gc_ 121 ?_); refine gl_ (some 27) Tryz.func121 (impl_CountVoiced.calls k t441 t445 _ A31.out) ?_; rintro e w37 ⟨rfl, hb⟩; refine ⟨_, rfl, ?_⟩; replace BK439 := bb_ BK439 hb; replace HB := bs_ HB hb; (try clear hb); (try clear hb2); (try clear hk); (try clear hi)))
      go_ret
      exact ⟨re_, up_ HB.out⟩
     ·replace H := ieq_ H; rcases H with ⟨-, c38b0, c38b1, H⟩ | ⟨c38, c38b0, c38b1, H⟩
      ·replace H := bnd_ H; obtain ⟨t446, A39, H⟩ := H
       obtain rfl := Option.some.inj H
       go_enter Tryz.func95, Tryz.ntmps95
       go_wp2_with (first | ((refine gd_ 3 ?_); refine bx_ 3 #[.slice A1_0 l1_0.length c1_0] 50 ?_; intro gb439 hg w40 hbox hb; have BK439 := Aside0.mk (hbox); have GW439 := gw_ HB hg; have GE439 := gw_ HB hg; replace HB := bs_ HB hb; clear hb hbox hg; have hcz41_0 := c1_ BK439; have hfz41_0 := blk_frozen BK439.out 0) | ((refine gc_ 70 ?_); refine gl_ (some 7) Tryz.func70 (impl_IsCandidate.calls k _ _ l1_0 true _ (Kd.C_below HR1_0.out (up_ HB.out)) HC1_0.out A3.out) ?_; rintro e w42 ⟨rfl, hb⟩; refine ⟨_, rfl, ?_⟩; replace BK439 := bb_ BK439 hb; replace HB := bs_ HB hb; (try clear hb); (try clear hb2); (try clear hk); (try clear hi); have hcz43_0 := c1_ BK439; have hfz43_0 := blk_frozen BK439.out 0) | ((refine gc_ 117 ?_); refine gl_ (some 10) Tryz.func117 (impl_OutputOf.calls k _ _ l1_0 t441 _ (Kd.C_below HR1_0.out (up_ HB.out)) HC1_0.out A5.out) ?_; rintro e w44 ⟨rfl, hb⟩; refine ⟨_, rfl, ?_⟩; replace BK439 := bb_ BK439 hb; replace HB := bs_ HB hb; (try clear hb); (try clear hb2); (try clear hk); (try clear hi)) | ((refine gc_ 122 ?_); refine gl_ (some 31) Tryz.func122 (impl_CountFinalVoiced.calls k t441 t446 _ A39.out) ?_; rintro e w45 ⟨rfl, hb⟩; refine ⟨_, rfl, ?_⟩; replace BK439 := bb_ BK439 hb; replace HB := bs_ HB hb; (try clear hb); (try clear hb2); (try clear hk); (try clear hi)))
       go_ret
       exact ⟨re_, up_ HB.out⟩
      ·replace H := ieq_ H; rcases H with ⟨-, c46b0, c46b1, H⟩ | ⟨c46, c46b0, c46b1, H⟩
       ·replace H := bnd_ H; obtain ⟨t447, A47, H⟩ := H
        obtain rfl := Option.some.inj H
        go_enter Tryz.func95, Tryz.ntmps95
        go_wp2_with (first | ((refine gd_ 3 ?_); refine bx_ 3 #[.slice A1_0 l1_0.length c1_0] 50 ?_; intro gb439 hg w48 hbox hb; have BK439 := Aside0.mk (hbox); have GW439 := gw_ HB hg; have GE439 := gw_ HB hg; replace HB := bs_ HB hb; clear hb hbox hg; have hcz49_0 := c1_ BK439; have hfz49_0 := blk_frozen BK439.out 0) | ((refine gc_ 70 ?_); refine gl_ (some 7) Tryz.func70 (impl_IsCandidate.calls k _ _ l1_0 true _ (Kd.C_below HR1_0.out (up_ HB.out)) HC1_0.out A3.out) ?_; rintro e w50 ⟨rfl, hb⟩; refine ⟨_, rfl, ?_⟩; replace BK439 := bb_ BK439 hb; replace HB := bs_ HB hb; (try clear hb); (try clear hb2); (try clear hk); (try clear hi); have hcz51_0 := c1_ BK439; have hfz51_0 := blk_frozen BK439.out 0) | ((refine gc_ 117 ?_); refine gl_ (some 10) Tryz.func117 (impl_OutputOf.calls k _ _ l1_0 t441 _ (Kd.C_below HR1_0.out (up_ HB.out)) HC1_0.out A5.out) ?_; rintro e w52 ⟨rfl, hb⟩; refine ⟨_, rfl, ?_⟩; replace BK439 := bb_ BK439 hb; replace HB := bs_ HB hb; (try clear hb); (try clear hb2); (try clear hk); (try clear hi)) | ((refine gc_ 123 ?_); refine gl_ (some 35) Tryz.func123 (impl_CountNasalVoiceless.calls k t441 t447 _ A47.out) ?_; rintro e w53 ⟨rfl, hb⟩; refine ⟨_, rfl, ?_⟩; replace BK439 := bb_ BK439 hb; replace HB := bs_ HB hb; (try clear hb); (try clear hb2); (try clear hk); (try clear hi)))
        go_ret
        exact ⟨re_, up_ HB.out⟩
       ·replace H := ieq_ H; rcases H with ⟨-, c54b0, c54b1, H⟩ | ⟨c54, c54b0, c54b1, H⟩
        ·replace H := bnd_ H; obtain ⟨t448, A55, H⟩ := H
         obtain rfl := Option.some.inj H
         go_enter Tryz.func95, Tryz.ntmps95
         go_wp2_with (first | ((refine gd_ 3 ?_); refine bx_ 3 #[.slice A1_0 l1_0.length c1_0] 50 ?_; intro gb439 hg w56 hbox hb; have BK439 := Aside0.mk (hbox); have GW439 := gw_ HB hg; have GE439 := gw_ HB hg; replace HB := bs_ HB hb; clear hb hbox hg; have hcz57_0 := c1_ BK439; have hfz57_0 := blk_frozen BK439.out 0) | ((refine gc_ 70 ?_); refine gl_ (some 7) Tryz.func70 (impl_IsCandidate.calls k _ _ l1_0 true _ (Kd.C_below HR1_0.out (up_ HB.out)) HC1_0.out A3.out) ?_; rintro e w58 ⟨rfl, hb⟩; refine ⟨_, rfl, ?_⟩; replace BK439 := bb_ BK439 hb; replace HB := bs_ HB hb; (try clear hb); (try clear hb2); (try clear hk); (try clear hi); have hcz59_0 := c1_ BK439; have hfz59_0 := blk_frozen BK439.out 0) | ((refine gc_ 117 ?_); refine gl_ (some 10) Tryz.func117 (impl_OutputOf.calls k _ _ l1_0 t441 _ (Kd.C_below HR1_0.out (up_ HB.out)) HC1_0.out A5.out) ?_; rintro e w60 ⟨rfl, hb⟩; refine ⟨_, rfl, ?_⟩; replace BK439 := bb_ BK439 hb; replace HB := bs_ HB hb; (try clear hb); (try clear hb2); (try clear hk); (try clear hi); have hcz61_0 := c1_ BK439; have hfz61_0 := blk_frozen BK439.out 0) | ((refine gc_ 124 ?_); refine gl_ (some 39) Tryz.func124 (impl_CountDeleted.calls k _ _ l1_0 t448 _ (Kd.C_below HR1_0.out (up_ HB.out)) HC1_0.out A55.out) ?_; rintro e w62 ⟨rfl, hb⟩; refine ⟨_, rfl, ?_⟩; replace BK439 := bb_ BK439 hb; replace HB := bs_ HB hb; (try clear hb); (try clear hb2); (try clear hk); (try clear hi)))
         go_ret
         exact ⟨re_, up_ HB.out⟩
        ·replace H := ieq_ H; rcases H with ⟨-, c63b0, c63b1, H⟩ | ⟨c63, c63b0, c63b1, H⟩
         ·replace H := bnd_ H; obtain ⟨t449, A64, H⟩ := H
          obtain rfl := Option.some.inj H
          go_enter Tryz.func95, Tryz.ntmps95
          go_wp2_with (first | ((refine gd_ 3 ?_); refine bx_ 3 #[.slice A1_0 l1_0.length c1_0] 50 ?_; intro gb439 hg w65 hbox hb; have BK439 := Aside0.mk (hbox); have GW439 := gw_ HB hg; have GE439 := gw_ HB hg; replace HB := bs_ HB hb; clear hb hbox hg; have hcz66_0 := c1_ BK439; have hfz66_0 := blk_frozen BK439.out 0) | ((refine gc_ 70 ?_); refine gl_ (some 7) Tryz.func70 (impl_IsCandidate.calls k _ _ l1_0 true _ (Kd.C_below HR1_0.out (up_ HB.out)) HC1_0.out A3.out) ?_; rintro e w67 ⟨rfl, hb⟩; refine ⟨_, rfl, ?_⟩; replace BK439 := bb_ BK439 hb; replace HB := bs_ HB hb; (try clear hb); (try clear hb2); (try clear hk); (try clear hi); have hcz68_0 := c1_ BK439; have hfz68_0 := blk_frozen BK439.out 0) | ((refine gc_ 117 ?_); refine gl_ (some 10) Tryz.func117 (impl_OutputOf.calls k _ _ l1_0 t441 _ (Kd.C_below HR1_0.out (up_ HB.out)) HC1_0.out A5.out) ?_; rintro e w69 ⟨rfl, hb⟩; refine ⟨_, rfl, ?_⟩; replace BK439 := bb_ BK439 hb; replace HB := bs_ HB hb; (try clear hb); (try clear hb2); (try clear hk); (try clear hi); have hcz70_0 := c1_ BK439; have hfz70_0 := blk_frozen BK439.out 0) | ((refine gc_ 125 ?_); refine gl_ (some 43) Tryz.func125 (impl_CountInserted.calls k _ _ l1_0 t449 _ (Kd.C_below HR1_0.out (up_ HB.out)) HC1_0.out A64.out) ?_; rintro e w71 ⟨rfl, hb⟩; refine ⟨_, rfl, ?_⟩; replace BK439 := bb_ BK439 hb; replace HB := bs_ HB hb; (try clear hb); (try clear hb2); (try clear hk); (try clear hi)))
          go_ret
          exact ⟨re_, up_ HB.out⟩
         ·replace H := ieq_ H; rcases H with ⟨-, c72b0, c72b1, H⟩ | ⟨c72, c72b0, c72b1, H⟩
          ·replace H := bnd_ H; obtain ⟨t450, A73, H⟩ := H
           obtain rfl := Option.some.inj H
           go_enter Tryz.func95, Tryz.ntmps95
           go_wp2_with (first | ((refine gd_ 3 ?_); refine bx_ 3 #[.slice A1_0 l1_0.length c1_0] 50 ?_; intro gb439 hg w74 hbox hb; have BK439 := Aside0.mk (hbox); have GW439 := gw_ HB hg; have GE439 := gw_ HB hg; replace HB := bs_ HB hb; clear hb hbox hg; have hcz75_0 := c1_ BK439; have hfz75_0 := blk_frozen BK439.out 0) | ((refine gc_ 70 ?_); refine gl_ (some 7) Tryz.func70 (impl_IsCandidate.calls k _ _ l1_0 true _ (Kd.C_below HR1_0.out (up_ HB.out)) HC1_0.out A3.out) ?_; rintro e w76 ⟨rfl, hb⟩; refine ⟨_, rfl, ?_⟩; replace BK439 := bb_ BK439 hb; replace HB := bs_ HB hb; (try clear hb); (try clear hb2); (try clear hk); (try clear hi); have hcz77_0 := c1_ BK439; have hfz77_0 := blk_frozen BK439.out 0) | ((refine gc_ 117 ?_); refine gl_ (some 10) Tryz.func117 (impl_OutputOf.calls k _ _ l1_0 t441 _ (Kd.C_below HR1_0.out (up_ HB.out)) HC1_0.out A5.out) ?_; rintro e w78 ⟨rfl, hb⟩; refine ⟨_, rfl, ?_⟩; replace BK439 := bb_ BK439 hb; replace HB := bs_ HB hb; (try clear hb); (try clear hb2); (try clear hk); (try clear hi); have hcz79_0 := c1_ BK439; have hfz79_0 := blk_frozen BK439.out 0) | ((refine gc_ 126 ?_); refine gl_ (some 47) Tryz.func126 (impl_CountVoiceChanged.calls k _ _ l1_0 t450 _ (Kd.C_below HR1_0.out (up_ HB.out)) HC1_0.out A73.out) ?_; rintro e w80 ⟨rfl, hb⟩; refine ⟨_, rfl, ?_⟩; replace BK439 := bb_ BK439 hb; replace HB := bs_ HB hb; (try clear hb); (try clear hb2); (try clear hk); (try clear hi)))
           go_ret
           exact ⟨re_, up_ HB.out⟩
          ·replace H := ieq_ H; rcases H with ⟨-, c81b0, c81b1, H⟩ | ⟨c81, c81b0, c81b1, H⟩
           ·replace H := bnd_ H; obtain ⟨t451, A82, H⟩ := H
            obtain rfl := Option.some.inj H
            go_enter Tryz.func95, Tryz.ntmps95
            go_wp2_with (first | ((refine gd_ 3 ?_); refine bx_ 3 #[.slice A1_0 l1_0.length c1_0] 50 ?_; intro gb439 hg w83 hbox hb; have BK439 := Aside0.mk (hbox); have GW439 := gw_ HB hg; have GE439 := gw_ HB hg; replace HB := bs_ HB hb; clear hb hbox hg; have hcz84_0 := c1_ BK439; have hfz84_0 := blk_frozen BK439.out 0) | ((refine gc_ 70 ?_); refine gl_ (some 7) Tryz.func70 (impl_IsCandidate.calls k _ _ l1_0 true _ (Kd.C_below HR1_0.out (up_ HB.out)) HC1_0.out A3.out) ?_; rintro e w85 ⟨rfl, hb⟩; refine ⟨_, rfl, ?_⟩; replace BK439 := bb_ BK439 hb; replace HB := bs_ HB hb; (try clear hb); (try clear hb2); (try clear hk); (try clear hi); have hcz86_0 := c1_ BK439; have hfz86_0 := blk_frozen BK439.out 0) | ((refine gc_ 117 ?_); refine gl_ (some 10) Tryz.func117 (impl_OutputOf.calls k _ _ l1_0 t441 _ (Kd.C_below HR1_0.out (up_ HB.out)) HC1_0.out A5.out) ?_; rintro e w87 ⟨rfl, hb⟩; refine ⟨_, rfl, ?_⟩; replace BK439 := bb_ BK439 hb; replace HB := bs_ HB hb; (try clear hb); (try clear hb2); (try clear hk); (try clear hi); have hcz88_0 := c1_ BK439; have hfz88_0 := blk_frozen BK439.out 0) | ((refine gc_ 127 ?_); refine gl_ (some 51) Tryz.func127 (impl_CountBreaks.calls k _ _ l1_0 t451 _ (Kd.C_below HR1_0.out (up_ HB.out)) HC1_0.out A82.out) ?_; rintro e w89 ⟨rfl, hb⟩; refine ⟨_, rfl, ?_⟩; replace BK439 := bb_ BK439 hb; replace HB := bs_ HB hb; (try clear hb); (try clear hb2); (try clear hk); (try clear hi)))
            go_ret
            exact ⟨re_, up_ HB.out⟩
           ·obtain rfl := Option.some.inj H
            go_enter Tryz.func95, Tryz.ntmps95
            go_wp2_with (first | ((refine gd_ 3 ?_); refine bx_ 3 #[.slice A1_0 l1_0.length c1_0] 50 ?_; intro gb439 hg w90 hbox hb; have BK439 := Aside0.mk (hbox); have GW439 := gw_ HB hg; have GE439 := gw_ HB hg; replace HB := bs_ HB hb; clear hb hbox hg; have hcz91_0 := c1_ BK439; have hfz91_0 := blk_frozen BK439.out 0) | ((refine gc_ 70 ?_); refine gl_ (some 7) Tryz.func70 (impl_IsCandidate.calls k _ _ l1_0 true _ (Kd.C_below HR1_0.out (up_ HB.out)) HC1_0.out A3.out) ?_; rintro e w92 ⟨rfl, hb⟩; refine ⟨_, rfl, ?_⟩; replace BK439 := bb_ BK439 hb; replace HB := bs_ HB hb; (try clear hb); (try clear hb2); (try clear hk); (try clear hi); have hcz93_0 := c1_ BK439; have hfz93_0 := blk_frozen BK439.out 0) | ((refine gc_ 117 ?_); refine gl_ (some 10) Tryz.func117 (impl_OutputOf.calls k _ _ l1_0 t441 _ (Kd.C_below HR1_0.out (up_ HB.out)) HC1_0.out A5.out) ?_; rintro e w94 ⟨rfl, hb⟩; refine ⟨_, rfl, ?_⟩; replace BK439 := bb_ BK439 hb; replace HB := bs_ HB hb; (try clear hb); (try clear hb2); (try clear hk); (try clear hi)))
            go_ret
            exact ⟨re_, up_ HB.out⟩
 ·obtain rfl := Option.some.inj H
  go_enter Tryz.func95, Tryz.ntmps95
  go_wp2_with (first | ((refine gd_ 3 ?_); refine bx_ 3 #[.slice A1_0 l1_0.length c1_0] 50 ?_; intro gb439 hg w95 hbox hb; have BK439 := Aside0.mk (hbox); have GW439 := gw_ HB hg; have GE439 := gw_ HB hg; replace HB := bs_ HB hb; clear hb hbox hg; have hcz96_0 := c1_ BK439; have hfz96_0 := blk_frozen BK439.out 0) | ((refine gc_ 70 ?_); refine gl_ (some 7) Tryz.func70 (impl_IsCandidate.calls k _ _ l1_0 false _ (Kd.C_below HR1_0.out (up_ HB.out)) HC1_0.out A3.out) ?_; rintro e w97 ⟨rfl, hb⟩; refine ⟨_, rfl, ?_⟩; replace BK439 := bb_ BK439 hb; replace HB := bs_ HB hb; (try clear hb); (try clear hb2); (try clear hk); (try clear hi)))
  go_ret
  exact ⟨re_, up_ HB.out⟩

/-! ### impl_ProfileOf: function 72 -/
mutual
def impl_ProfileOf.j0 : Nat → List ByteArray → Bool → List (S70) → Option (List Int)
 | 0, _, _, _ => none
 | k + 1, x0, x15, x453000 => if x15 = true then (some ([] : List Int)) else (impl_ProfileOf.l0 k (([] : List Int)) x0 (x0.length : Int) 0 x453000)
def impl_ProfileOf.l0 : Nat → List Int → List ByteArray → Int → Int → List (S70) → Option (List Int)
 | 0, _, _, _, _, _ => none
 | k + 1, x5, x17, x18, x19, x453000 => if x19 < x18 then (if 0 ≤ x19 then (if x19 < (x17.length : Int) then ((impl_ViolationsOf.f k (rdOf ByteArray.empty x17 x19) x453000).bind fun t459 => (if x5.length < 17592186044416 then (impl_ProfileOf.l0 k (x5 ++ [t459]) x17 x18 (wrap64 (x19 + 1)) x453000) else (none))) else (none)) else (none)) else (some x5)
end
def impl_ProfileOf.f (k : Nat) (l0 : List ByteArray) (l1_0 : List (S70)) : Option (List Int) := (impl_AreConstraints.f k l0).bind fun t453 => (if t453 = true then ((impl_IsCandidate.f k l1_0).bind fun t454 => (impl_ProfileOf.j0 k l0 (!t454) l1_0)) else (impl_ProfileOf.j0 k l0 true l1_0))
set_option maxHeartbeats 8000000 in
set_option maxRecDepth 100000 in
theorem impl_ProfileOf.calls (k : Nat) (A0 : Option Addr) (c0 : Nat) (l0 : List ByteArray) (A1_0 : Option Addr) (c1_0 : Nat) (l1_0 : List (S70)) (r : List Int) (w : World) (hr0 : Kd.C Kd.string w A0 l0.length l0) (hc0 : l0.length ≤ c0) (hr1_0 : Kd.C k70 w A1_0 l1_0.length l1_0) (hc1_0 : l1_0.length ≤ c1_0) (h : impl_ProfileOf.f k l0 l1_0 = some r) :
  Calls Tryz.prog 72 #[.slice A0 l0.length c0, .agg #[.slice A1_0 l1_0.length c1_0]] w fun e w' => ∃ v0_ : Value, e = .returned (v0_) ∧ Kd.R (Kd.int .i64) 3 w' w.heap.size (fun _ => True) v0_ r ∧ Below w.heap.size w w' := by
 have hu50 := Tryz.underlying50
 have HR0 := Aside0.mk hr0
 have HC0 := Aside0.mk hc0
 clear hr0 hc0
 have HR1_0 := Aside0.mk hr1_0
 have HC1_0 := Aside0.mk hc1_0
 clear hr1_0 hc1_0
 have HB := Aside0.mk (Below.refl w.heap.size w)
 have H : ((impl_AreConstraints.f k l0).bind fun t453 => (if t453 = true then ((impl_IsCandidate.f k l1_0).bind fun t454 => (impl_ProfileOf.j0 k l0 (!t454) l1_0)) else (impl_ProfileOf.j0 k l0 true l1_0))) = some r := h
 clear h
 have HC3 := Aside0.mk H
 clear H
 go_enter Tryz.func72, Tryz.ntmps72
 go_upto_region 1 with (first | ((refine gd_ 3 ?_); refine bx_ 3 #[.slice A1_0 l1_0.length c1_0] 50 ?_; intro gb452 hg w4 hbox hb; have BK452 := Aside0.mk (hbox); have GW452 := gw_ HB hg; have GE452 := gw_ HB hg; replace HB := bs_ HB hb; clear hb hbox hg))
 (try simp only [Act.put, List.setIfInBounds_toArray, List.set_cons_zero, List.set_cons_succ])
 go_cut [15] (fun v15 wc => ∃ (kq : Nat) (x15_2 : Bool), v15 = .bool x15_2 ∧ Aside0 (impl_ProfileOf.j0 kq l0 x15_2 l1_0 = some r) ∧ Aside0 (kq ≤ k) ∧ Aside0 (wc.heap[gb452]? = some (.cells #[(.slice A1_0 l1_0.length c1_0)] 50 (0, 0))) ∧ Aside0 (Below w.heap.size w wc))
 case first =>
  have H := HC3.out
  clear HC3
  replace H := bnd_ H; obtain ⟨t453, A5, H⟩ := H
  replace H := itb_ H; rcases H with ⟨rfl, H⟩ | ⟨rfl, H⟩
  ·replace H := bnd_ H; obtain ⟨t454, A7, H⟩ := H
   have H' := Aside0.mk H
   clear H
   go_wp2_with (first | ((refine gc_ 68 ?_); refine gl_ (some 9) Tryz.func68 (impl_AreConstraints.calls k _ _ l0 true _ (Kd.C_below HR0.out (up_ HB.out)) HC0.out A5.out) ?_; rintro e w8 ⟨rfl, hb⟩; refine ⟨_, rfl, ?_⟩; replace BK452 := bb_ BK452 hb; replace HB := bs_ HB hb; (try clear hb); (try clear hb2); (try clear hk); (try clear hi); have hcz9_0 := c1_ BK452; have hfz9_0 := blk_frozen BK452.out 0) | (go_at_call 70; (with_reducible refine (impl_IsCandidate.calls k _ _ l1_0 t454 _ (Kd.C_below HR1_0.out (up_ HB.out)) HC1_0.out A7.out).mono ?_); rintro e w10 ⟨rfl, hb⟩; replace BK452 := bb_ BK452 hb; replace HB := bs_ HB hb; (try clear hb); (try clear hb2); (try clear hk); (try clear hi)))
   go_meet
   case rel => exact ⟨_, (!t454), rs_, H', ⟨by first | omega | exact Nat.le_refl _⟩, ⟨up_ BK452.out⟩, ⟨up_ HB.out⟩⟩
  ·have H' := Aside0.mk H
   clear H
   go_wp2_with (first | ((refine gc_ 68 ?_); refine gl_ (some 9) Tryz.func68 (impl_AreConstraints.calls k _ _ l0 false _ (Kd.C_below HR0.out (up_ HB.out)) HC0.out A5.out) ?_; rintro e w11 ⟨rfl, hb⟩; refine ⟨_, rfl, ?_⟩; replace BK452 := bb_ BK452 hb; replace HB := bs_ HB hb; (try clear hb); (try clear hb2); (try clear hk); (try clear hi)))
   go_meet
   case rel => exact ⟨_, (true), rs_, H', ⟨by first | omega | exact Nat.le_refl _⟩, ⟨up_ BK452.out⟩, ⟨up_ HB.out⟩⟩
 case rest =>
  clear HC3
  try clear c1
  try clear p2
  try clear c6
  try clear c7
  try clear hcz9_0
  try clear hfz9_0
  obtain ⟨kq, x15_2, rfl, HA, HJ2, BK452, HB⟩ := hcut
  cases kq with
  | zero => exact absurd HA.out (by simp [impl_ProfileOf.j0])
  | succ kj2 =>
   have H := HA.out
   clear HA
   simp only [impl_ProfileOf.j0] at H
   replace H := itb_ H; rcases H with ⟨rfl, H⟩ | ⟨rfl, H⟩
   ·obtain rfl := Option.some.inj H
    go_wp2
    go_ret
    exact ⟨_, re_, by first | exact Kd.R_nil _ _ _ _ _ | exact Kd.N_nil _ _ _ _ _ | exact Kd.V_nil _ _ _ _ _ | exact Kd.Q_nil _ _ _ _ _ | exact Kd.S_nil _ _ _ _ _, up_ HB.out⟩
   ·obtain ⟨y455, hy455⟩ : ∃ y_ : List Int, y_ = (([] : List Int)) := ⟨_, rfl⟩
    replace H : (impl_ProfileOf.l0 kj2 y455 l0 (l0.length : Int) 0 l1_0) = some r := rh_ hy455 H
    have Ny455 := Aside0.mk hy455
    clear hy455
    have H' := Aside0.mk H
    clear H
    go_wp2_with (first | ((refine gd_ 16 ?_); refine Kd.R_lit (Kd.int .i64) _ 3 ?hg (N := 16) ?hd (xs := ([] : List Int)) (inner := []) (ok := fun _ => True) (okp := fun _ => True) ?hr ?hp (fun _ hk => hk) trivial (Below.refl _ _) (Nat.le_refl _) (by simp) ?_; (case hd => rfl); (case hg => rfl); (case hr => first | (go_simp; done) | (go_simp; rfl)); (case hp => exact (Reps.none _ _)); intro v456 w13 ho14 hb hg_ hnew_; clear hg_ hnew_; (first | rw [← Ny455.out] at ho14 | (simp only [Int.reduceToNat] at ho14; rw [← Ny455.out] at ho14)); have HO457 := Aside0.mk (Kd.R_lower ho14 (below_size (up_ HB.out))); replace BK452 := bb_ BK452 hb; replace HB := bs_ HB hb; clear hb ho14))
    go_loopg [5, 19] kj2 (fun kq v5 v19 w' => ∃ (x5_2 : List Int) (x19_2 : Int), v19 = .int .i64 x19_2 ∧ Aside0 (impl_ProfileOf.l0 kq x5_2 l0 (l0.length : Int) x19_2 l1_0 = some r) ∧ Aside0 (kq ≤ kj2) ∧ Aside0 (Kd.R (Kd.int .i64) 3 w' w.heap.size (fun _ => True) v5 x5_2) ∧ Aside0 (w'.heap[gb452]? = some (.cells #[(.slice A1_0 l1_0.length c1_0)] 50 (0, 0))) ∧ Aside0 (Below w.heap.size w w'))
    case atStart => exact ⟨(y455), (0), rs_, H', ⟨Nat.le_refl _⟩, ⟨up_ HO457.out⟩, ⟨up_ BK452.out⟩, ⟨up_ HB.out⟩⟩
    case round =>
     clear H'
     try clear c1
     try clear p2
     try clear c6
     try clear c7
     try clear c12
     try clear hcz9_0
     try clear hfz9_0
     try clear p2
     obtain ⟨x5_2, x19_2, rfl, HA, HK2, HO_5, BK452, HB⟩ := hrel
     cases gk with
     | zero => exact absurd HA.out (by simp [impl_ProfileOf.l0])
     | succ k2 =>
      have H := HA.out
      clear HA
      simp only [impl_ProfileOf.l0] at H
      replace H := its_ H; rcases H with ⟨c15b0, H⟩ | ⟨c15b0, H⟩
      ·replace H := its_ H; rcases H with ⟨c16b0, H⟩ | ⟨_, ⟨⟩⟩
       replace H := its_ H; rcases H with ⟨c17b0, H⟩ | ⟨_, ⟨⟩⟩
       replace H := bnd_ H; obtain ⟨t459, A18, H⟩ := H
       by_cases c19 : x5_2.length < 17592186044416
       ·rw [if_pos c19] at H
        have LMc19 := Aside0.mk c19
        clear c19
        obtain ⟨y460, hy460⟩ : ∃ y_ : List Int, y_ = (x5_2 ++ [t459]) := ⟨_, rfl⟩
        replace H : (impl_ProfileOf.l0 k2 y460 l0 (l0.length : Int) (wrap64 (x19_2 + 1)) l1_0) = some r := rh_ hy460 H
        have Ny460 := Aside0.mk hy460
        clear hy460
        have H' := Aside0.mk H
        clear H
        have p458 : 0 ≤ (x19_2 : Int) := od_
        have q458 : x19_2 < (l0.length : Int) := od_
        obtain ⟨ad458, e458, hx458_0⟩ := Kd.at_string HR0.out x19_2 p458 q458
        cases e458
        replace hx458_0 := bh_ HB hx458_0
        replace p458 := eq_true p458
        replace q458 := eq_true q458
        have hcz20_0 := c1_ BK452
        have hfz20_0 := blk_frozen BK452.out 0
        go_wp2_with (first | ((refine gc_ 95 ?_); refine gl_ (some 26) Tryz.func95 (impl_ViolationsOf.calls k2 (rdOf ByteArray.empty l0 x19_2) _ _ l1_0 t459 _ (Kd.C_below HR1_0.out (up_ HB.out)) HC1_0.out A18.out) ?_; rintro e w21 ⟨rfl, hb⟩; refine ⟨_, rfl, ?_⟩; replace HO_5 := Aside0.mk (Kd.R_below (up_ HO_5.out) hb); replace BK452 := bb_ BK452 hb; replace HB := bs_ HB hb; (try clear hb); (try clear hb2); (try clear hk); (try clear hi)) | ((with_reducible refine gate_builtin (b := .append) (xs := #[.tmp 23, .tmp 27]) rfl ?_); at_builtin; refine Kd.R_append (Kd.int .i64) (w0 := w) w.heap.size rfl (.tmp 23) (.tmp 27) 23 3 (.int .i64 0) 8 rfl Tryz.underlying23 info3 rfl (by decide) (by omega) u5 x5_2 t459 [.int .i64 t459] (fun _ => True) (fun _ => False) rfl rfl ?aP (fun _ hk => hk.elim) ?aF ?aO ?aB ?aS ?aL ?_; (case aP => exact rfl); (case aB => exact (up_ HB.out)); (case aF => exact (fun _ _ => trivial)); (case aO => exact (up_ HO_5.out)); (case aS => exact (below_size (up_ HB.out))); (case aL => have := LMc19.out; omega); intro v461 w22 ho hb hg hat; rw [← Ny460.out] at ho; have n0_ := Aside0.mk (blk_grown (g := gb452) (o := .cells #[.slice A1_0 l1_0.length c1_0] 50 (0, 0)) (up_ BK452.out) hg (Kd.R_ne HO_5.out BK452.out (by decide))); have n1_ := Aside0.mk (hb); have n2_ := Aside0.mk (ho); clear BK452; clear HB; clear HO_5; have BK452 := n0_; have HB := n1_; have HO462 := n2_; clear n0_ n1_ n2_; clear ho hb hg hat))
        go_roundg k2
        case measure => have := HJ2.out; have := HK2.out; omega
        case rel => exact ⟨(y460), (wrap64 (x19_2 + 1)), rs_, H', ⟨by have := HJ2.out; have := HK2.out; omega⟩, ⟨up_ HO462.out⟩, ⟨up_ BK452.out⟩, ⟨up_ HB.out⟩⟩
       ·rw [if_neg c19] at H
        exact absurd H (by simp)
      ·obtain rfl := Option.some.inj H
       go_wp2
       go_ret
       exact ⟨_, re_, by (with_reducible repeat (first | apply Kd.R_alloc | apply Kd.R_drewN | apply Kd.R_drew)); exact HO_5.out, up_ HB.out⟩

end Go.Proofs.YtkddpilambnicaaGreat.PFnExactDifferencesFor
