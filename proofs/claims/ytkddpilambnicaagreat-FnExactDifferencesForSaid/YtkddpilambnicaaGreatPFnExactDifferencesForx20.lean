/- Walks of Go functions that the law FnExactDifferencesFor uses: written by this session's program out of the kit's printer; each shows that a call comes to the answers of the Lean function beside it. Conditions: each contract's own. -/
import Derived.Test.YtkddpilambnicaaGreatPFnExactDifferencesForx0
import Derived.Test.YtkddpilambnicaaGreatPFnExactDifferencesForx12
import Derived.Test.YtkddpilambnicaaGreatPFnExactDifferencesForx19
namespace Go.Proofs.YtkddpilambnicaaGreat.PFnExactDifferencesFor
open Go.RowKit Go.Proofs.YtkddpilambnicaaGreatW.PrintWords Go.Proofs.YtkddpilambnicaaGreatW.PrintLast Go.Proofs.YtkddpilambnicaaGreatW.PrintMore Go.Proofs.YtkddpilambnicaaGreat.Mac Go.Proofs.YtkddpilambnicaaGreat.Law
attribute [local go_sem] max2_int min2_int max_two min_two max_three min_three max_four min_four   -- for this text's walks alone
set_option linter.unusedVariables false
set_option linter.unusedSimpArgs false

/-! ### impl_isRowOf: function 36 -/
def impl_isRowOf.f (k : Nat) (a0_0 : ByteArray) (l0_1 : List ByteArray) (l0_2 : List (S50)) (l0_3 : List (List Int)) (a1 : Int) : Option (Bool) := (impl_within.f a1 0 (wrap64 ((l0_2.length : Int) - 1))).bind fun t477 => (if t477 = true then ((impl_IsTableau.f k a0_0 l0_1 l0_2 l0_3).bind fun t478 => (some t478)) else (some false))
set_option maxHeartbeats 8000000 in
set_option maxRecDepth 100000 in
theorem impl_isRowOf.calls (k : Nat) (a0_0 : ByteArray) (A0_1 : Option Addr) (c0_1 : Nat) (l0_1 : List ByteArray) (A0_2 : Option Addr) (c0_2 : Nat) (l0_2 : List (S50)) (A0_3 : Option Addr) (c0_3 : Nat) (l0_3 : List (List Int)) (a1 : Int) (r : Bool) (w : World) (hr0_1 : Kd.C Kd.string w A0_1 l0_1.length l0_1) (hc0_1 : l0_1.length ≤ c0_1) (hr0_2 : Kd.C k50 w A0_2 l0_2.length l0_2) (hc0_2 : l0_2.length ≤ c0_2) (hr0_3 : Kd.C (Kd.slice 3 (Kd.int .i64)) w A0_3 l0_3.length l0_3) (hc0_3 : l0_3.length ≤ c0_3) (h : impl_isRowOf.f k a0_0 l0_1 l0_2 l0_3 a1 = some r) :
  Calls Tryz.prog 36 #[.agg #[.string a0_0, .slice A0_1 l0_1.length c0_1, .slice A0_2 l0_2.length c0_2, .slice A0_3 l0_3.length c0_3], .int .i64 a1] w fun e w' => e = .returned (.bool r) ∧ Below w.heap.size w w' := by
 have hu38 := Tryz.underlying38
 have HR0_1 := Aside0.mk hr0_1
 have HC0_1 := Aside0.mk hc0_1
 clear hr0_1 hc0_1
 have HR0_2 := Aside0.mk hr0_2
 have HC0_2 := Aside0.mk hc0_2
 clear hr0_2 hc0_2
 have HR0_3 := Aside0.mk hr0_3
 have HC0_3 := Aside0.mk hc0_3
 clear hr0_3 hc0_3
 have HB := Aside0.mk (Below.refl w.heap.size w)
 have H : ((impl_within.f a1 0 (wrap64 ((l0_2.length : Int) - 1))).bind fun t477 => (if t477 = true then ((impl_IsTableau.f k a0_0 l0_1 l0_2 l0_3).bind fun t478 => (some t478)) else (some false))) = some r := h
 clear h
 replace H := bnd_ H; obtain ⟨t477, A3, H⟩ := H
 replace H := itb_ H; rcases H with ⟨rfl, H⟩ | ⟨rfl, H⟩
 ·replace H := bnd_ H; obtain ⟨t478, A5, H⟩ := H
  obtain rfl := Option.some.inj H
  go_enter Tryz.func36, Tryz.ntmps36
  go_wp2_with (first | ((refine gd_ 2 ?_); refine bx_ 2 #[.string a0_0, .slice A0_1 l0_1.length c0_1, .slice A0_2 l0_2.length c0_2, .slice A0_3 l0_3.length c0_3] 38 ?_; intro gb476 hg w6 hbox hb; have BK476 := Aside0.mk (hbox); have GW476 := gw_ HB hg; have GE476 := gw_ HB hg; replace HB := bs_ HB hb; clear hb hbox hg; obtain ⟨hcz7_0, hcz7_1, hcz7_2, hcz7_3⟩ := c4_ BK476; have hfz7_0 := blk_frozen BK476.out 0; have hfz7_1 := blk_frozen BK476.out 1; have hfz7_2 := blk_frozen BK476.out 2; have hfz7_3 := blk_frozen BK476.out 3) | ((refine gc_ 63 ?_); refine gq_ (some 10) Tryz.func63 (impl_within.calls a1 0 (wrap64 ((l0_2.length : Int) - 1)) true _ A3.out) (fun nd => ?_)) | (go_at_call 45; (with_reducible refine (impl_IsTableau.calls k a0_0 _ _ l0_1 _ _ l0_2 _ _ l0_3 t478 _ (Kd.C_below HR0_1.out (up_ HB.out)) HC0_1.out (Kd.C_below HR0_2.out (up_ HB.out)) HC0_2.out (Kd.C_below HR0_3.out (up_ HB.out)) HC0_3.out A5.out).mono ?_); rintro e w8 ⟨rfl, hb⟩; replace BK476 := bb_ BK476 hb; replace HB := bs_ HB hb; (try clear hb); (try clear hb2); (try clear hk); (try clear hi)))
  go_ret
  exact ⟨re_, up_ HB.out⟩
 ·obtain rfl := Option.some.inj H
  go_enter Tryz.func36, Tryz.ntmps36
  go_wp2_with (first | ((refine gd_ 2 ?_); refine bx_ 2 #[.string a0_0, .slice A0_1 l0_1.length c0_1, .slice A0_2 l0_2.length c0_2, .slice A0_3 l0_3.length c0_3] 38 ?_; intro gb476 hg w9 hbox hb; have BK476 := Aside0.mk (hbox); have GW476 := gw_ HB hg; have GE476 := gw_ HB hg; replace HB := bs_ HB hb; clear hb hbox hg; obtain ⟨hcz10_0, hcz10_1, hcz10_2, hcz10_3⟩ := c4_ BK476; have hfz10_0 := blk_frozen BK476.out 0; have hfz10_1 := blk_frozen BK476.out 1; have hfz10_2 := blk_frozen BK476.out 2; have hfz10_3 := blk_frozen BK476.out 3) | ((refine gc_ 63 ?_); refine gq_ (some 10) Tryz.func63 (impl_within.calls a1 0 (wrap64 ((l0_2.length : Int) - 1)) false _ A3.out) (fun nd => ?_)))
  go_ret
  exact ⟨re_, up_ HB.out⟩

/-! ### impl_DifferencesFor_1: function 38 -/
def impl_DifferencesFor_1.f (k : Nat) (l0 : List Int) (l1 : List (List Int)) : Option (Bool) := if 0 < (l1.length : Int) then ((slices_Equal_int_int.f k l0 (rd_L6 l1 0)).bind fun t480 => (some t480)) else (none)
set_option maxHeartbeats 8000000 in
set_option maxRecDepth 100000 in
theorem impl_DifferencesFor_1.calls (k : Nat) (A0 : Option Addr) (c0 : Nat) (l0 : List Int) (A1 : Option Addr) (c1 : Nat) (l1 : List (List Int)) (r : Bool) (w : World) (hr0 : Kd.C (Kd.int .i64) w A0 l0.length l0) (hc0 : l0.length ≤ c0) (hr1 : Kd.C (Kd.slice 3 (Kd.int .i64)) w A1 l1.length l1) (hc1 : l1.length ≤ c1) (h : impl_DifferencesFor_1.f k l0 l1 = some r) :
  Calls Tryz.prog 38 #[.slice A0 l0.length c0, .pointer A1] w fun e w' => e = .returned (.bool r) ∧ Drawn0 w w' := by
 have HR0 := Aside0.mk hr0
 have HC0 := Aside0.mk hc0
 clear hr0 hc0
 have HR1 := Aside0.mk hr1
 have HC1 := Aside0.mk hc1
 clear hr1 hc1
 have H : (if 0 < (l1.length : Int) then ((slices_Equal_int_int.f k l0 (rd_L6 l1 0)).bind fun t480 => (some t480)) else (none)) = some r := h
 clear h
 by_cases c3 : 0 < (l1.length : Int)
 ·rw [if_pos c3] at H
  have c3b0 : decide (0 < (l1.length : Int)) = true := decide_eq_true c3
  have c3b1 : decide (0 < l1.length) = true := decide_eq_true (by omega)
  clear c3
  replace H := bnd_ H; obtain ⟨t480, A4, H⟩ := H
  obtain rfl := Option.some.inj H
  have p479 : 0 ≤ (0 : Int) := (by omega)
  have q479 : 0 < (l1.length : Int) := od_
  obtain ⟨ad479, A479_0, c479_0, e479, hx479_0, hl479_0, hi479_0⟩ := at_L6 HR1.out 0 p479 q479
  cases e479
  have qi479 : (0 < l1.length) = True := eq_true (by omega)
  (try rw [show ((0 : Int)).toNat = 0 from rfl] at hx479_0)
  (try rw [Addr.add_zero'] at hx479_0)
  have HR479_0 := Aside0.mk hi479_0
  have HC479_0 := Aside0.mk hl479_0
  clear hi479_0 hl479_0
  replace p479 := eq_true p479
  replace q479 := eq_true q479
  go_enter Tryz.func38, Tryz.ntmps38
  go_wp2_with (first | ((refine gc_ 39 ?_); refine goesL_ (some 6) rfl rfl Tryz.func39 (by kernel_rfl) rfl #[.slice A0 l0.length c0, .slice A479_0 (rd_L6 l1 0).length c479_0] rfl am_ ?_; (with_reducible refine (slices_Equal_int_int.calls k _ _ l0 _ _ (rd_L6 l1 0) t480 _ ?side1 ?side2 ?side3 ?side4 A4.out).mono ?_); (case side1 => repeat (first | exact HR0.out | (with_reducible refine Kd.C_alloc ?_ _) | (with_reducible refine Kd.C_drewN ?_ _) | (with_reducible refine Kd.C_drew ?_))); (case side2 => exact HC0.out); (case side3 => repeat (first | exact HR479_0.out | (with_reducible refine Kd.C_alloc ?_ _) | (with_reducible refine Kd.C_drewN ?_ _) | (with_reducible refine Kd.C_drew ?_))); (case side4 => exact HC479_0.out); rintro e w' ⟨rfl, ⟨nd, rfl⟩⟩; refine ⟨_, rfl, ?_⟩))
  go_ret
  exact ⟨rs_, dn_⟩
 ·rw [if_neg c3] at H
  exact absurd H (by simp)

/-! ### v_slices_IndexFunc__DifferencesFor_1: function 64 -/
def v_slices_IndexFunc__DifferencesFor_1.l0 : Nat → List (List Int) → List (List Int) → Int → Int → Option (Int)
 | 0, _, _, _, _ => none
 | k + 1, x0, x1, x7, x8 => if x8 < x7 then (if 0 ≤ x8 then (if x8 < (x0.length : Int) then ((impl_DifferencesFor_1.f k (rd_L6 x0 x8) x1).bind fun t482 => (if t482 = true then (some x8) else (v_slices_IndexFunc__DifferencesFor_1.l0 k x0 x1 x7 (wrap64 (x8 + 1))))) else (none)) else (none)) else (some (-1))
def v_slices_IndexFunc__DifferencesFor_1.f (k : Nat) (l0 : List (List Int)) (l1 : List (List Int)) : Option (Int) := v_slices_IndexFunc__DifferencesFor_1.l0 k l0 l1 (l0.length : Int) 0
set_option maxHeartbeats 8000000 in
set_option maxRecDepth 100000 in
theorem v_slices_IndexFunc__DifferencesFor_1.calls (k : Nat) (A0 : Option Addr) (c0 : Nat) (l0 : List (List Int)) (A1 : Option Addr) (c1 : Nat) (l1 : List (List Int)) (r : Int) (w : World) (hr0 : Kd.C (Kd.slice 3 (Kd.int .i64)) w A0 l0.length l0) (hc0 : l0.length ≤ c0) (hr1 : Kd.C (Kd.slice 3 (Kd.int .i64)) w A1 l1.length l1) (hc1 : l1.length ≤ c1) (h : v_slices_IndexFunc__DifferencesFor_1.f k l0 l1 = some r) :
  Calls Tryz.prog 64 #[.slice A0 l0.length c0, .func (.func 38) #[] #[.pointer A1]] w fun e w' => e = .returned (.int .i64 r) ∧ Drawn0 w w' := by
 have HR0 := Aside0.mk hr0
 have HC0 := Aside0.mk hc0
 clear hr0 hc0
 have HR1 := Aside0.mk hr1
 have HC1 := Aside0.mk hc1
 clear hr1 hc1
 have H : (v_slices_IndexFunc__DifferencesFor_1.l0 k l0 l1 (l0.length : Int) 0) = some r := h
 clear h
 have H' := Aside0.mk H
 clear H
 go_enter Tryz.func64, Tryz.ntmps64
 go_wp2
 go_loopg [8] k (fun kq v8 w' => ∃ (x8_1 : Int), v8 = .int .i64 x8_1 ∧ Aside0 (v_slices_IndexFunc__DifferencesFor_1.l0 kq l0 l1 (l0.length : Int) x8_1 = some r) ∧ Aside0 (kq ≤ k) ∧ Drawn0 w w')
 case atStart => exact ⟨(0), rs_, H', ⟨Nat.le_refl _⟩, dn_⟩
 case round =>
  clear H'
  try clear c1
  try clear p2
  obtain ⟨x8_1, rfl, HA, HK1, ⟨m1, rfl⟩⟩ := hrel
  cases gk with
  | zero => exact absurd HA.out (by simp [v_slices_IndexFunc__DifferencesFor_1.l0])
  | succ k1 =>
   have H := HA.out
   clear HA
   simp only [v_slices_IndexFunc__DifferencesFor_1.l0] at H
   replace H := its_ H; rcases H with ⟨c3b0, H⟩ | ⟨c3b0, H⟩
   ·replace H := its_ H; rcases H with ⟨c4b0, H⟩ | ⟨_, ⟨⟩⟩
    replace H := its_ H; rcases H with ⟨c5b0, H⟩ | ⟨_, ⟨⟩⟩
    replace H := bnd_ H; obtain ⟨t482, A6, H⟩ := H
    replace H := itb_ H; rcases H with ⟨rfl, H⟩ | ⟨rfl, H⟩
    ·obtain rfl := Option.some.inj H
     have p481 : 0 ≤ (x8_1 : Int) := od_
     have q481 : x8_1 < (l0.length : Int) := od_
     obtain ⟨ad481, A481_0, c481_0, e481, hx481_0, hl481_0, hi481_0⟩ := at_L6 HR0.out x8_1 p481 q481
     cases e481
     have HR481_0 := Aside0.mk hi481_0
     have HC481_0 := Aside0.mk hl481_0
     clear hi481_0 hl481_0
     replace p481 := eq_true p481
     replace q481 := eq_true q481
     go_wp2_with (first | ((with_reducible refine Go.Proofs.YtkddpilambnicaaGreat.Step.gate_calleeT rfl ?_); refine Go.Proofs.YtkddpilambnicaaGreat.Step.goesT_ (cap := #[.pointer A1]) (some 16) rfl rfl Tryz.func38 (by kernel_rfl) rfl #[.slice A481_0 (rd_L6 l0 x8_1).length c481_0, .pointer A1] rfl rfl am_ ?_; (with_reducible refine (impl_DifferencesFor_1.calls k1 _ _ (rd_L6 l0 x8_1) _ c1 l1 true _ ?side1 ?side2 ?side3 ?side4 A6.out).mono ?_); (case side1 => repeat (first | exact HR481_0.out | (with_reducible refine Kd.C_alloc ?_ _) | (with_reducible refine Kd.C_drewN ?_ _) | (with_reducible refine Kd.C_drew ?_))); (case side2 => exact HC481_0.out); (case side3 => repeat (first | exact HR1.out | (with_reducible refine Kd.C_alloc ?_ _) | (with_reducible refine Kd.C_drewN ?_ _) | (with_reducible refine Kd.C_drew ?_))); (case side4 => exact HC1.out); rintro e w' ⟨rfl, ⟨nd, rfl⟩⟩; refine ⟨_, rfl, ?_⟩))
     go_ret
     exact ⟨rs_, dn_⟩
    ·have H' := Aside0.mk H
     clear H
     have p481 : 0 ≤ (x8_1 : Int) := od_
     have q481 : x8_1 < (l0.length : Int) := od_
     obtain ⟨ad481, A481_0, c481_0, e481, hx481_0, hl481_0, hi481_0⟩ := at_L6 HR0.out x8_1 p481 q481
     cases e481
     have HR481_0 := Aside0.mk hi481_0
     have HC481_0 := Aside0.mk hl481_0
     clear hi481_0 hl481_0
     replace p481 := eq_true p481
     replace q481 := eq_true q481
     go_wp2_with (first | ((with_reducible refine Go.Proofs.YtkddpilambnicaaGreat.Step.gate_calleeT rfl ?_); refine Go.Proofs.YtkddpilambnicaaGreat.Step.goesT_ (cap := #[.pointer A1]) (some 16) rfl rfl Tryz.func38 (by kernel_rfl) rfl #[.slice A481_0 (rd_L6 l0 x8_1).length c481_0, .pointer A1] rfl rfl am_ ?_; (with_reducible refine (impl_DifferencesFor_1.calls k1 _ _ (rd_L6 l0 x8_1) _ c1 l1 false _ ?side1 ?side2 ?side3 ?side4 A6.out).mono ?_); (case side1 => repeat (first | exact HR481_0.out | (with_reducible refine Kd.C_alloc ?_ _) | (with_reducible refine Kd.C_drewN ?_ _) | (with_reducible refine Kd.C_drew ?_))); (case side2 => exact HC481_0.out); (case side3 => repeat (first | exact HR1.out | (with_reducible refine Kd.C_alloc ?_ _) | (with_reducible refine Kd.C_drewN ?_ _) | (with_reducible refine Kd.C_drew ?_))); (case side4 => exact HC1.out); rintro e w' ⟨rfl, ⟨nd, rfl⟩⟩; refine ⟨_, rfl, ?_⟩))
     go_roundg k1
     case measure => have := HK1.out; omega
     case rel => exact ⟨(wrap64 (x8_1 + 1)), rs_, H', ⟨by have := HK1.out; omega⟩, dn_⟩
   ·obtain rfl := Option.some.inj H
    go_wp2
    go_ret
    exact ⟨rs_, dn_⟩

/-! ### v_slices_ContainsFunc__DifferencesFor_1: function 37 -/
def v_slices_ContainsFunc__DifferencesFor_1.f (k : Nat) (l0 : List (List Int)) (l1 : List (List Int)) : Option (Bool) := (v_slices_IndexFunc__DifferencesFor_1.f k l0 l1).bind fun t483 => (some (decide (t483 ≥ 0)))
set_option maxHeartbeats 8000000 in
set_option maxRecDepth 100000 in
theorem v_slices_ContainsFunc__DifferencesFor_1.calls (k : Nat) (A0 : Option Addr) (c0 : Nat) (l0 : List (List Int)) (A1 : Option Addr) (c1 : Nat) (l1 : List (List Int)) (r : Bool) (w : World) (hr0 : Kd.C (Kd.slice 3 (Kd.int .i64)) w A0 l0.length l0) (hc0 : l0.length ≤ c0) (hr1 : Kd.C (Kd.slice 3 (Kd.int .i64)) w A1 l1.length l1) (hc1 : l1.length ≤ c1) (h : v_slices_ContainsFunc__DifferencesFor_1.f k l0 l1 = some r) :
  Calls Tryz.prog 37 #[.slice A0 l0.length c0, .func (.func 38) #[] #[.pointer A1]] w fun e w' => e = .returned (.bool r) ∧ Drawn0 w w' := by
 have HR0 := Aside0.mk hr0
 have HC0 := Aside0.mk hc0
 clear hr0 hc0
 have HR1 := Aside0.mk hr1
 have HC1 := Aside0.mk hc1
 clear hr1 hc1
 have H : ((v_slices_IndexFunc__DifferencesFor_1.f k l0 l1).bind fun t483 => (some (decide (t483 ≥ 0)))) = some r := h
 clear h
 replace H := bnd_ H; obtain ⟨t483, A3, H⟩ := H
 obtain rfl := Option.some.inj H
 go_enter Tryz.func37, Tryz.ntmps37
 go_wp2_with (first | ((refine gc_ 64 ?_); refine goesL_ (some 7) rfl rfl Tryz.func64 (by kernel_rfl) rfl #[.slice A0 l0.length c0, .func (.func 38) #[] #[.pointer A1]] rfl am_ ?_; (with_reducible refine (v_slices_IndexFunc__DifferencesFor_1.calls k _ _ l0 _ c1 l1 t483 _ ?side1 ?side2 ?side3 ?side4 A3.out).mono ?_); (case side1 => repeat (first | exact HR0.out | (with_reducible refine Kd.C_alloc ?_ _) | (with_reducible refine Kd.C_drewN ?_ _) | (with_reducible refine Kd.C_drew ?_))); (case side2 => exact HC0.out); (case side3 => repeat (first | exact HR1.out | (with_reducible refine Kd.C_alloc ?_ _) | (with_reducible refine Kd.C_drewN ?_ _) | (with_reducible refine Kd.C_drew ?_))); (case side4 => exact HC1.out); rintro e w' ⟨rfl, ⟨nd, rfl⟩⟩; refine ⟨_, rfl, ?_⟩))
 go_ret
 exact ⟨rs_, dn_⟩

end Go.Proofs.YtkddpilambnicaaGreat.PFnExactDifferencesFor
