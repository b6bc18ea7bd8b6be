/- Walks of Go functions that the law FnExactWeightedWinners uses: written by this session's program out of the kit's printer; each shows that a call comes to the answers of the Lean function beside it. Conditions: each contract's own. -/
import Derived.Test.YtkddpilambnicaaGreatPFnExactWeightedWinnersx0
import Derived.Test.YtkddpilambnicaaGreatPFnExactWeightedWinnersx15
import Derived.Test.YtkddpilambnicaaGreatPFnExactWeightedWinnersx22
namespace Go.Proofs.YtkddpilambnicaaGreat.PFnExactWeightedWinners
open Go.RowKit Go.Proofs.YtkddpilambnicaaGreatW.PrintWords Go.Proofs.YtkddpilambnicaaGreatW.PrintLast Go.Proofs.YtkddpilambnicaaGreatW.PrintMore Go.Proofs.YtkddpilambnicaaGreat.Mac Go.Proofs.YtkddpilambnicaaGreat.Law
attribute [local go_sem] max2_int min2_int max_two min_two max_three min_three max_four min_four   -- for this text's walks alone
set_option linter.unusedVariables false
set_option linter.unusedSimpArgs false

/-! ### impl_AreWeights: function 46 -/
def impl_AreWeights.l0 : Nat → List Int → Int → List Int → Int → Int → Option (Bool)
 | 0, _, _, _, _, _ => none
 | k + 1, x0, x1, x7, x8, x9 => if x9 < x8 then (if 0 ≤ x9 then (if x9 < (x7.length : Int) then ((impl_within.f (rd x7 x9) 0 10000000).bind fun t510 => (if t510 = true then (impl_AreWeights.l0 k x0 x1 x7 x8 (wrap64 (x9 + 1))) else (some false))) else (none)) else (none)) else ((impl_within.f x1 1 5).bind fun t511 => (if t511 = true then (some ((x0.length : Int) == x1)) else (some false)))
def impl_AreWeights.f (k : Nat) (l0 : List Int) (a1 : Int) : Option (Bool) := impl_AreWeights.l0 k l0 a1 l0 (l0.length : Int) 0
set_option maxHeartbeats 8000000 in
set_option maxRecDepth 100000 in
theorem impl_AreWeights.calls (k : Nat) (A0 : Option Addr) (c0 : Nat) (l0 : List Int) (a1 : Int) (r : Bool) (w : World) (hr0 : Kd.C (Kd.int .i64) w A0 l0.length l0) (hc0 : l0.length ≤ c0) (h : impl_AreWeights.f k l0 a1 = some r) :
  Calls Tryz.prog 46 #[.slice A0 l0.length c0, .int .i64 a1] w fun e w' => e = .returned (.bool r) ∧ Drawn0 w w' := by
 have HR0 := Aside0.mk hr0
 have HC0 := Aside0.mk hc0
 clear hr0 hc0
 have H : (impl_AreWeights.l0 k l0 a1 l0 (l0.length : Int) 0) = some r := h
 clear h
 have H' := Aside0.mk H
 clear H
 go_enter Tryz.func46, Tryz.ntmps46
 go_wp2
 go_loopg [9] k (fun kq v9 w' => ∃ (x9_1 : Int), v9 = .int .i64 x9_1 ∧ Aside0 (impl_AreWeights.l0 kq l0 a1 l0 (l0.length : Int) x9_1 = some r) ∧ Aside0 (kq ≤ k) ∧ Drawn0 w w')
 case atStart => exact ⟨(0), rs_, H', ⟨Nat.le_refl _⟩, dn_⟩
 case round =>
  clear H'
  try clear p2
  obtain ⟨x9_1, rfl, HA, HK1, ⟨m1, rfl⟩⟩ := hrel
  cases gk with
  | zero => exact absurd HA.out (by simp [impl_AreWeights.l0])
  | succ k1 =>
   have H := HA.out
   clear HA
   simp only [impl_AreWeights.l0] at H
   replace H := its_ H; rcases H with ⟨c3b0, H⟩ | ⟨c3b0, H⟩
   ·replace H := its_ H; rcases H with ⟨c4b0, H⟩ | ⟨_, ⟨⟩⟩
    replace H := its_ H; rcases H with ⟨c5b0, H⟩ | ⟨_, ⟨⟩⟩
    replace H := bnd_ H; obtain ⟨t510, A6, H⟩ := H
    replace H := itb_ H; rcases H with ⟨rfl, H⟩ | ⟨rfl, H⟩
    ·have H' := Aside0.mk H
     clear H
     have p509 : 0 ≤ (x9_1 : Int) := od_
     have q509 : x9_1 < (l0.length : Int) := od_
     obtain ⟨ad509, e509, hx509_0⟩ := Kd.at_int HR0.out x9_1 p509 q509
     cases e509
     replace p509 := eq_true p509
     replace q509 := eq_true q509
     go_wp2_with (first | ((refine gc_ 63 ?_); refine gq_ (some 14) Tryz.func63 (impl_within.calls (rd l0 x9_1) 0 10000000 true _ A6.out) (fun nd => ?_)))
     go_roundg k1
     case measure => have := HK1.out; omega
     case rel => exact ⟨(wrap64 (x9_1 + 1)), rs_, H', ⟨by have := HK1.out; omega⟩, dn_⟩
    ·obtain rfl := Option.some.inj H
     have p509 : 0 ≤ (x9_1 : Int) := od_
     have q509 : x9_1 < (l0.length : Int) := od_
     obtain ⟨ad509, e509, hx509_0⟩ := Kd.at_int HR0.out x9_1 p509 q509
     cases e509
     replace p509 := eq_true p509
     replace q509 := eq_true q509
     go_wp2_with (first | ((refine gc_ 63 ?_); refine gq_ (some 14) Tryz.func63 (impl_within.calls (rd l0 x9_1) 0 10000000 false _ A6.out) (fun nd => ?_)))
     go_ret
     exact ⟨rs_, dn_⟩
   ·replace H := bnd_ H; obtain ⟨t511, A8, H⟩ := H
    replace H := itb_ H; rcases H with ⟨rfl, H⟩ | ⟨rfl, H⟩
    ·obtain rfl := Option.some.inj H
     go_wp2_with (first | ((refine gc_ 63 ?_); refine gq_ (some 18) Tryz.func63 (impl_within.calls a1 1 5 true _ A8.out) (fun nd => ?_)))
     go_ret
     exact ⟨rs_, dn_⟩
    ·obtain rfl := Option.some.inj H
     go_wp2_with (first | ((refine gc_ 63 ?_); refine gq_ (some 18) Tryz.func63 (impl_within.calls a1 1 5 false _ A8.out) (fun nd => ?_)))
     go_ret
     exact ⟨rs_, dn_⟩

/-! ### impl_HarmonyOf: function 47 -/
def impl_HarmonyOf.l0 : Nat → List Int → Int → List Int → Int → Int → Option (Int)
 | 0, _, _, _, _, _ => none
 | k + 1, x0, x5, x13, x14, x15 => if x15 < x14 then (if 0 ≤ x15 then (if x15 < (x13.length : Int) then ((impl_within.f (rd x13 x15) (-100) 100).bind fun t514 => (if t514 = true then (if x15 < (x0.length : Int) then (impl_HarmonyOf.l0 k x0 (wrap64 (x5 + (wrap64 ((rd x13 x15) * (rd x0 x15))))) x13 x14 (wrap64 (x15 + 1))) else (none)) else (some 0))) else (none)) else (none)) else (some x5)
def impl_HarmonyOf.f (k : Nat) (l0 : List Int) (l1 : List Int) : Option (Int) := (impl_AreWeights.f k l0 (l1.length : Int)).bind fun t512 => (if t512 = true then (impl_HarmonyOf.l0 k l0 0 l1 (l1.length : Int) 0) else (some 0))
set_option maxHeartbeats 8000000 in
set_option maxRecDepth 100000 in
theorem impl_HarmonyOf.calls (k : Nat) (A0 : Option Addr) (c0 : Nat) (l0 : List Int) (A1 : Option Addr) (c1 : Nat) (l1 : List Int) (r : Int) (w : World) (hr0 : Kd.C (Kd.int .i64) w A0 l0.length l0) (hc0 : l0.length ≤ c0) (hr1 : Kd.C (Kd.int .i64) w A1 l1.length l1) (hc1 : l1.length ≤ c1) (h : impl_HarmonyOf.f k l0 l1 = some r) :
  Calls Tryz.prog 47 #[.slice A0 l0.length c0, .slice A1 l1.length c1] w fun e w' => e = .returned (.int .i64 r) ∧ Drawn0 w w' := by
 have HR0 := Aside0.mk hr0
 have HC0 := Aside0.mk hc0
 clear hr0 hc0
 have HR1 := Aside0.mk hr1
 have HC1 := Aside0.mk hc1
 clear hr1 hc1
 have H : ((impl_AreWeights.f k l0 (l1.length : Int)).bind fun t512 => (if t512 = true then (impl_HarmonyOf.l0 k l0 0 l1 (l1.length : Int) 0) else (some 0))) = some r := h
 clear h
 replace H := bnd_ H; obtain ⟨t512, A3, H⟩ := H
 replace H := itb_ H; rcases H with ⟨rfl, H⟩ | ⟨rfl, H⟩
 ·have H' := Aside0.mk H
  clear H
  go_enter Tryz.func47, Tryz.ntmps47
  go_wp2_with (first | ((refine gc_ 46 ?_); refine goesL_ (some 11) rfl rfl Tryz.func46 (by kernel_rfl) rfl #[.slice A0 l0.length c0, .int .i64 (l1.length : Int)] rfl am_ ?_; (with_reducible refine (impl_AreWeights.calls k _ _ l0 (l1.length : Int) true _ ?side1 ?side2 A3.out).mono ?_); (case side1 => repeat (first | exact HR0.out | (with_reducible refine Kd.C_alloc ?_ _) | (with_reducible refine Kd.C_drewN ?_ _) | (with_reducible refine Kd.C_drew ?_))); (case side2 => exact HC0.out); rintro e w' ⟨rfl, ⟨nd, rfl⟩⟩; refine ⟨_, rfl, ?_⟩))
  go_loopg [5, 15] k (fun kq v5 v15 w' => ∃ (x5_1 : Int) (x15_1 : Int), v5 = .int .i64 x5_1 ∧ v15 = .int .i64 x15_1 ∧ Aside0 (impl_HarmonyOf.l0 kq l0 x5_1 l1 (l1.length : Int) x15_1 = some r) ∧ Aside0 (kq ≤ k) ∧ Drawn0 w w')
  case atStart => exact ⟨(0), (0), rs_, rs_, H', ⟨Nat.le_refl _⟩, dn_⟩
  case round =>
   clear H'
   try clear c1
   try clear p2
   try clear c4
   obtain ⟨x5_1, x15_1, rfl, rfl, HA, HK1, ⟨m1, rfl⟩⟩ := hrel
   cases gk with
   | zero => exact absurd HA.out (by simp [impl_HarmonyOf.l0])
   | succ k1 =>
    have H := HA.out
    clear HA
    simp only [impl_HarmonyOf.l0] at H
    replace H := its_ H; rcases H with ⟨c5b0, H⟩ | ⟨c5b0, H⟩
    ·replace H := its_ H; rcases H with ⟨c6b0, H⟩ | ⟨_, ⟨⟩⟩
     replace H := its_ H; rcases H with ⟨c7b0, H⟩ | ⟨_, ⟨⟩⟩
     replace H := bnd_ H; obtain ⟨t514, A8, H⟩ := H
     replace H := itb_ H; rcases H with ⟨rfl, H⟩ | ⟨rfl, H⟩
     ·replace H := its_ H; rcases H with ⟨c10b0, H⟩ | ⟨_, ⟨⟩⟩
      have H' := Aside0.mk H
      clear H
      have p513 : 0 ≤ (x15_1 : Int) := od_
      have q513 : x15_1 < (l1.length : Int) := od_
      obtain ⟨ad513, e513, hx513_0⟩ := Kd.at_int HR1.out x15_1 p513 q513
      cases e513
      replace p513 := eq_true p513
      replace q513 := eq_true q513
      go_wp2_with (first | ((refine gc_ 63 ?_); refine gq_ (some 21) Tryz.func63 (impl_within.calls (rd l1 x15_1) (-100) 100 true _ A8.out) (fun nd => ?_); have p515 : 0 ≤ (x15_1 : Int) := od_; have q515 : x15_1 < (l0.length : Int) := od_; obtain ⟨ad515, e515, hx515_0⟩ := Kd.at_int HR0.out x15_1 p515 q515; cases e515; replace p515 := eq_true p515; replace q515 := eq_true q515))
      go_roundg k1
      case measure => have := HK1.out; omega
      case rel => exact ⟨(wrap64 (x5_1 + (wrap64 ((rd l1 x15_1) * (rd l0 x15_1))))), (wrap64 (x15_1 + 1)), rs_, rs_, H', ⟨by have := HK1.out; omega⟩, dn_⟩
     ·obtain rfl := Option.some.inj H
      have p513 : 0 ≤ (x15_1 : Int) := od_
      have q513 : x15_1 < (l1.length : Int) := od_
      obtain ⟨ad513, e513, hx513_0⟩ := Kd.at_int HR1.out x15_1 p513 q513
      cases e513
      replace p513 := eq_true p513
      replace q513 := eq_true q513
      go_wp2_with (first | ((refine gc_ 63 ?_); refine gq_ (some 21) Tryz.func63 (impl_within.calls (rd l1 x15_1) (-100) 100 false _ A8.out) (fun nd => ?_)))
      go_ret
      exact ⟨rs_, dn_⟩
    ·obtain rfl := Option.some.inj H
     go_wp2
     go_ret
     exact ⟨rs_, dn_⟩
 ·obtain rfl := Option.some.inj H
  go_enter Tryz.func47, Tryz.ntmps47
  go_wp2_with (first | ((refine gc_ 46 ?_); refine goesL_ (some 11) rfl rfl Tryz.func46 (by kernel_rfl) rfl #[.slice A0 l0.length c0, .int .i64 (l1.length : Int)] rfl am_ ?_; (with_reducible refine (impl_AreWeights.calls k _ _ l0 (l1.length : Int) false _ ?side1 ?side2 A3.out).mono ?_); (case side1 => repeat (first | exact HR0.out | (with_reducible refine Kd.C_alloc ?_ _) | (with_reducible refine Kd.C_drewN ?_ _) | (with_reducible refine Kd.C_drew ?_))); (case side2 => exact HC0.out); rintro e w' ⟨rfl, ⟨nd, rfl⟩⟩; refine ⟨_, rfl, ?_⟩))
  go_ret
  exact ⟨rs_, dn_⟩

/-! ### impl_WeightedWinners: function 23 -/
mutual
def impl_WeightedWinners.j0 : Nat → List Int → Bool → ByteArray → List ByteArray → List (S50) → List (List Int) → Option (List Int)
 | 0, _, _, _, _, _, _ => none
 | k + 1, x1, x20, x517000, x517001, x517002, x517003 => if x20 = true then (some ([] : List Int)) else (impl_WeightedWinners.l0 k x1 (([] : List Int)) 0 x517003 (x517003.length : Int) 0)
def impl_WeightedWinners.l0 : Nat → List Int → List Int → Int → List (List Int) → Int → Int → Option (List Int)
 | 0, _, _, _, _, _, _ => none
 | k + 1, x1, x5, x6, x23, x24, x25 => if x25 < x24 then (if 0 ≤ x25 then (if x25 < (x23.length : Int) then ((impl_HarmonyOf.f k x1 (rd_L6 x23 x25)).bind fun t523 => (if (x5.length : Int) = 0 then (impl_WeightedWinners.j2 k x1 x5 x6 x25 t523 x23 x24 x25 true) else (impl_WeightedWinners.j2 k x1 x5 x6 x25 t523 x23 x24 x25 (decide (t523 < x6))))) else (none)) else (none)) else (some x5)
def impl_WeightedWinners.j2 : Nat → List Int → List Int → Int → Int → Int → List (List Int) → Int → Int → Bool → Option (List Int)
 | 0, _, _, _, _, _, _, _, _, _ => none
 | k + 1, x1, x5, x6, x7, x9, x23, x24, x25, x40 => if x40 = true then (impl_WeightedWinners.l0 k x1 (([x7] : List Int)) x9 x23 x24 (wrap64 (x25 + 1))) else (if x9 = x6 then (if x5.length < 17592186044416 then (impl_WeightedWinners.l0 k x1 (x5 ++ [x7]) x6 x23 x24 (wrap64 (x25 + 1))) else (none)) else (impl_WeightedWinners.l0 k x1 x5 x6 x23 x24 (wrap64 (x25 + 1))))
end
def impl_WeightedWinners.f (k : Nat) (a0_0 : ByteArray) (l0_1 : List ByteArray) (l0_2 : List (S50)) (l0_3 : List (List Int)) (l1 : List Int) : Option (List Int) := (impl_IsTableau.f k a0_0 l0_1 l0_2 l0_3).bind fun t517 => (if t517 = true then ((impl_AreWeights.f k l1 (l0_1.length : Int)).bind fun t518 => (impl_WeightedWinners.j0 k l1 (!t518) a0_0 l0_1 l0_2 l0_3)) else (impl_WeightedWinners.j0 k l1 true a0_0 l0_1 l0_2 l0_3))
set_option maxHeartbeats 8000000 in
set_option maxRecDepth 100000 in
theorem impl_WeightedWinners.calls (k : Nat) (a0_0 : ByteArray) (A0_1 : Option Addr) (c0_1 : Nat) (l0_1 : List ByteArray) (A0_2 : Option Addr) (c0_2 : Nat) (l0_2 : List (S50)) (A0_3 : Option Addr) (c0_3 : Nat) (l0_3 : List (List Int)) (A1 : Option Addr) (c1 : Nat) (l1 : List Int) (r : List Int) (w : World) (hr0_1 : Kd.C Kd.string w A0_1 l0_1.length l0_1) (hc0_1 : l0_1.length ≤ c0_1) (hr0_2 : Kd.C k50 w A0_2 l0_2.length l0_2) (hc0_2 : l0_2.length ≤ c0_2) (hr0_3 : Kd.C (Kd.slice 3 (Kd.int .i64)) w A0_3 l0_3.length l0_3) (hc0_3 : l0_3.length ≤ c0_3) (hr1 : Kd.C (Kd.int .i64) w A1 l1.length l1) (hc1 : l1.length ≤ c1) (h : impl_WeightedWinners.f k a0_0 l0_1 l0_2 l0_3 l1 = some r) :
  Calls Tryz.prog 23 #[.agg #[.string a0_0, .slice A0_1 l0_1.length c0_1, .slice A0_2 l0_2.length c0_2, .slice A0_3 l0_3.length c0_3], .slice A1 l1.length c1] w fun e w' => ∃ v0_ : Value, e = .returned (v0_) ∧ Kd.R (Kd.int .i64) 3 w' w.heap.size (fun _ => True) v0_ r ∧ Below w.heap.size w w' := by
 have hu38 := Tryz.underlying38
 have HR0_1 := Aside0.mk hr0_1
 have HC0_1 := Aside0.mk hc0_1
 clear hr0_1 hc0_1
 have HR0_2 := Aside0.mk hr0_2
 have HC0_2 := Aside0.mk hc0_2
 clear hr0_2 hc0_2
 have HR0_3 := Aside0.mk hr0_3
 have HC0_3 := Aside0.mk hc0_3
 clear hr0_3 hc0_3
 have HR1 := Aside0.mk hr1
 have HC1 := Aside0.mk hc1
 clear hr1 hc1
 have HB := Aside0.mk (Below.refl w.heap.size w)
 have H : ((impl_IsTableau.f k a0_0 l0_1 l0_2 l0_3).bind fun t517 => (if t517 = true then ((impl_AreWeights.f k l1 (l0_1.length : Int)).bind fun t518 => (impl_WeightedWinners.j0 k l1 (!t518) a0_0 l0_1 l0_2 l0_3)) else (impl_WeightedWinners.j0 k l1 true a0_0 l0_1 l0_2 l0_3))) = some r := h
 clear h
 have HC3 := Aside0.mk H
 clear H
 go_enter Tryz.func23, Tryz.ntmps23
 go_upto_region 1 with (first | ((refine gd_ 2 ?_); (try (refine gate_guard (by rfl) ?_; dsimp only)); refine bx_ 2 #[.string a0_0, .slice A0_1 l0_1.length c0_1, .slice A0_2 l0_2.length c0_2, .slice A0_3 l0_3.length c0_3] 38 ?_; intro gb516 hg w4 hbox hb; have BK516 := Aside0.mk (hbox); have GW516 := gw_ HB hg; have GE516 := gw_ HB hg; replace HB := bs_ HB hb; clear hb hbox hg))
 (try simp only [Act.put, List.setIfInBounds_toArray, List.set_cons_zero, List.set_cons_succ])
 go_cut [20] (fun v20 wc => ∃ (kq : Nat) (x20_2 : Bool), v20 = .bool x20_2 ∧ Aside0 (impl_WeightedWinners.j0 kq l1 x20_2 a0_0 l0_1 l0_2 l0_3 = some r) ∧ Aside0 (kq ≤ k) ∧ Aside0 (wc.heap[gb516]? = some (.cells #[.string a0_0, (.slice A0_1 l0_1.length c0_1), (.slice A0_2 l0_2.length c0_2), (.slice A0_3 l0_3.length c0_3)] 38 (0, 0))) ∧ Aside0 (Below w.heap.size w wc))
 case first =>
  have H := HC3.out
  clear HC3
  replace H := bnd_ H; obtain ⟨t517, A5, H⟩ := H
  replace H := itb_ H; rcases H with ⟨rfl, H⟩ | ⟨rfl, H⟩
  ·replace H := bnd_ H; obtain ⟨t518, A7, H⟩ := H
   have H' := Aside0.mk H
   clear H
   obtain ⟨hcz8_0, hcz8_1, hcz8_2, hcz8_3⟩ := c4_ BK516
   have hfz8_0 := blk_frozen BK516.out 0
   have hfz8_1 := blk_frozen BK516.out 1
   have hfz8_2 := blk_frozen BK516.out 2
   have hfz8_3 := blk_frozen BK516.out 3
   go_wp2_with (first | ((refine gc_ 45 ?_); refine gl_ (some 11) Tryz.func45 (impl_IsTableau.calls k a0_0 _ _ l0_1 _ _ l0_2 _ _ l0_3 true _ (Kd.C_below HR0_1.out (up_ HB.out)) HC0_1.out (Kd.C_below HR0_2.out (up_ HB.out)) HC0_2.out (Kd.C_below HR0_3.out (up_ HB.out)) HC0_3.out A5.out) ?_; rintro e w9 ⟨rfl, hb⟩; refine ⟨_, rfl, ?_⟩; replace BK516 := bb_ BK516 hb; replace HB := bs_ HB hb; (try clear hb); (try clear hb2); (try clear hk); (try clear hi); obtain ⟨hcz10_0, hcz10_1, hcz10_2, hcz10_3⟩ := c4_ BK516; have hfz10_0 := blk_frozen BK516.out 0; have hfz10_1 := blk_frozen BK516.out 1; have hfz10_2 := blk_frozen BK516.out 2; have hfz10_3 := blk_frozen BK516.out 3) | (go_at_call 46; (with_reducible refine (impl_AreWeights.calls k _ _ l1 (l0_1.length : Int) t518 _ (Kd.C_below HR1.out (up_ HB.out)) HC1.out A7.out).mono ?_); rintro e w' ⟨rfl, ⟨nd, rfl⟩⟩))
   go_meet
   case rel => exact ⟨_, (!t518), rs_, H', ⟨by first | omega | exact Nat.le_refl _⟩, ⟨up_ BK516.out⟩, ⟨up_ HB.out⟩⟩
  ·have H' := Aside0.mk H
   clear H
   obtain ⟨hcz11_0, hcz11_1, hcz11_2, hcz11_3⟩ := c4_ BK516
   have hfz11_0 := blk_frozen BK516.out 0
   have hfz11_1 := blk_frozen BK516.out 1
   have hfz11_2 := blk_frozen BK516.out 2
   have hfz11_3 := blk_frozen BK516.out 3
   go_wp2_with (first | ((refine gc_ 45 ?_); refine gl_ (some 11) Tryz.func45 (impl_IsTableau.calls k a0_0 _ _ l0_1 _ _ l0_2 _ _ l0_3 false _ (Kd.C_below HR0_1.out (up_ HB.out)) HC0_1.out (Kd.C_below HR0_2.out (up_ HB.out)) HC0_2.out (Kd.C_below HR0_3.out (up_ HB.out)) HC0_3.out A5.out) ?_; rintro e w12 ⟨rfl, hb⟩; refine ⟨_, rfl, ?_⟩; replace BK516 := bb_ BK516 hb; replace HB := bs_ HB hb; (try clear hb); (try clear hb2); (try clear hk); (try clear hi)))
   go_meet
   case rel => exact ⟨_, (true), rs_, H', ⟨by first | omega | exact Nat.le_refl _⟩, ⟨up_ BK516.out⟩, ⟨up_ HB.out⟩⟩
 case rest =>
  clear HC3
  try clear c1
  try clear c2
  try clear p2
  try clear c4
  try clear c6
  try clear hcz10_0
  try clear hcz10_1
  try clear hcz10_2
  try clear hcz10_3
  try clear hcz11_0
  try clear hcz11_1
  try clear hcz11_2
  try clear hcz11_3
  try clear hcz8_0
  try clear hcz8_1
  try clear hcz8_2
  try clear hcz8_3
  try clear hfz10_0
  try clear hfz10_1
  try clear hfz10_2
  try clear hfz10_3
  try clear hfz11_0
  try clear hfz11_1
  try clear hfz11_2
  try clear hfz11_3
  try clear hfz8_0
  try clear hfz8_1
  try clear hfz8_2
  try clear hfz8_3
  obtain ⟨kq, x20_2, rfl, HA, HJ2, BK516, HB⟩ := hcut
  cases kq with
  | zero => exact absurd HA.out (by simp [impl_WeightedWinners.j0])
  | succ kj2 =>
   have H := HA.out
   clear HA
   simp only [impl_WeightedWinners.j0] at H
   replace H := itb_ H; rcases H with ⟨rfl, H⟩ | ⟨rfl, H⟩
   ·obtain rfl := Option.some.inj H
    go_wp2
    go_ret
    exact ⟨_, re_, by first | exact Kd.R_nil _ _ _ _ _ | exact Kd.N_nil _ _ _ _ _ | exact Kd.V_nil _ _ _ _ _ | exact Kd.Q_nil _ _ _ _ _ | exact Kd.S_nil _ _ _ _ _, up_ HB.out⟩
   ·obtain ⟨y519, hy519⟩ : ∃ y_ : List Int, y_ = (([] : List Int)) := ⟨_, rfl⟩
    replace H : (impl_WeightedWinners.l0 kj2 l1 y519 0 l0_3 (l0_3.length : Int) 0) = some r := rh_ hy519 H
    have Ny519 := Aside0.mk hy519
    clear hy519
    have H' := Aside0.mk H
    clear H
    go_wp2_with (first | ((refine gd_ 21 ?_); (try (refine gate_guard (by rfl) ?_; dsimp only)); refine Kd.R_lit (Kd.int .i64) _ 3 ?hg (N := 21) ?hd (xs := ([] : List Int)) (inner := []) (ok := fun _ => True) (okp := fun _ => True) ?hr ?hp (fun _ hk => hk) trivial (Below.refl _ _) (Nat.le_refl _) (by simp) ?_; (case hd => rfl); (case hg => rfl); (case hr => first | (go_simp; done) | (go_simp; rfl)); (case hp => exact (Reps.none _ _)); intro v520 w14 ho15 hb hg_ hnew_; clear hg_ hnew_; (first | rw [← Ny519.out] at ho15 | (simp only [Int.reduceToNat] at ho15; rw [← Ny519.out] at ho15)); have HO521 := Aside0.mk (Kd.R_lower ho15 (below_size (up_ HB.out))); replace BK516 := bb_ BK516 hb; replace HB := bs_ HB hb; clear hb ho15; obtain ⟨hcz16_0, hcz16_1, hcz16_2, hcz16_3⟩ := c4_ BK516; have hfz16_0 := blk_frozen BK516.out 0; have hfz16_1 := blk_frozen BK516.out 1; have hfz16_2 := blk_frozen BK516.out 2; have hfz16_3 := blk_frozen BK516.out 3))
    go_loopg [5, 6, 25] kj2 (fun kq v5 v6 v25 w' => ∃ (x5_2 : List Int) (x6_2 : Int) (x25_2 : Int), v6 = .int .i64 x6_2 ∧ v25 = .int .i64 x25_2 ∧ Aside0 (impl_WeightedWinners.l0 kq l1 x5_2 x6_2 l0_3 (l0_3.length : Int) x25_2 = some r) ∧ Aside0 (kq ≤ kj2) ∧ Aside0 (Kd.R (Kd.int .i64) 3 w' w.heap.size (fun _ => True) v5 x5_2) ∧ Aside0 (w'.heap[gb516]? = some (.cells #[.string a0_0, (.slice A0_1 l0_1.length c0_1), (.slice A0_2 l0_2.length c0_2), (.slice A0_3 l0_3.length c0_3)] 38 (0, 0))) ∧ Aside0 (Below w.heap.size w w'))
    case atStart => exact ⟨(y519), (0), (0), rs_, rs_, H', ⟨Nat.le_refl _⟩, ⟨up_ HO521.out⟩, ⟨up_ BK516.out⟩, ⟨up_ HB.out⟩⟩
    case round =>
     clear H'
     try clear c1
     try clear c2
     try clear p2
     try clear c4
     try clear c6
     try clear c13
     try clear hcz10_0
     try clear hcz10_1
     try clear hcz10_2
     try clear hcz10_3
     try clear hcz11_0
     try clear hcz11_1
     try clear hcz11_2
     try clear hcz11_3
     try clear hcz16_0
     try clear hcz16_1
     try clear hcz16_2
     try clear hcz16_3
     try clear hcz8_0
     try clear hcz8_1
     try clear hcz8_2
     try clear hcz8_3
     try clear hfz10_0
     try clear hfz10_1
     try clear hfz10_2
     try clear hfz10_3
     try clear hfz11_0
     try clear hfz11_1
     try clear hfz11_2
     try clear hfz11_3
     try clear hfz16_0
     try clear hfz16_1
     try clear hfz16_2
     try clear hfz16_3
     try clear hfz8_0
     try clear hfz8_1
     try clear hfz8_2
     try clear hfz8_3
     try clear p2
     obtain ⟨x5_2, x6_2, x25_2, rfl, rfl, HA, HK2, HO_5, BK516, HB⟩ := hrel
     cases gk with
     | zero => exact absurd HA.out (by simp [impl_WeightedWinners.l0])
     | succ k2 =>
      have H := HA.out
      clear HA
      simp only [impl_WeightedWinners.l0] at H
      replace H := its_ H; rcases H with ⟨c17b0, H⟩ | ⟨c17b0, H⟩
      ·replace H := its_ H; rcases H with ⟨c18b0, H⟩ | ⟨_, ⟨⟩⟩
       replace H := its_ H; rcases H with ⟨c19b0, H⟩ | ⟨_, ⟨⟩⟩
       replace H := bnd_ H; obtain ⟨t523, A20, H⟩ := H
       have HC21 := Aside0.mk H
       clear H
       have p522 : 0 ≤ (x25_2 : Int) := od_
       have q522 : x25_2 < (l0_3.length : Int) := od_
       obtain ⟨ad522, A522_0, c522_0, e522, hx522_0, hl522_0, hi522_0⟩ := at_L6 HR0_3.out x25_2 p522 q522
       cases e522
       replace hx522_0 := bh_ HB hx522_0
       have HR522_0 := Aside0.mk hi522_0
       have HC522_0 := Aside0.mk hl522_0
       clear hi522_0 hl522_0
       replace p522 := eq_true p522
       replace q522 := eq_true q522
       go_upto_region 8 with (first | ((refine gc_ 47 ?_); refine gq_ (some 32) Tryz.func47 (impl_HarmonyOf.calls k2 _ _ l1 _ _ (rd_L6 l0_3 x25_2) t523 _ (Kd.C_below HR1.out (up_ HB.out)) HC1.out (Kd.C_below HR522_0.out (up_ HB.out)) HC522_0.out A20.out) (fun nd => ?_)))
       (try simp only [Act.put, List.setIfInBounds_toArray, List.set_cons_zero, List.set_cons_succ])
       go_cut [40] (fun v40 wc => ∃ (kq : Nat) (x40_20 : Bool), v40 = .bool x40_20 ∧ Aside0 (impl_WeightedWinners.j2 kq l1 x5_2 x6_2 x25_2 t523 l0_3 (l0_3.length : Int) x25_2 x40_20 = some r) ∧ Aside0 (kq ≤ k2) ∧ Aside0 (Kd.R (Kd.int .i64) 3 wc w.heap.size (fun _ => True) u5 x5_2) ∧ Aside0 (wc.heap[gb516]? = some (.cells #[.string a0_0, (.slice A0_1 l0_1.length c0_1), (.slice A0_2 l0_2.length c0_2), (.slice (some ad522) l0_3.length c0_3)] 38 (0, 0))) ∧ Aside0 (Below w.heap.size w wc))
       case first =>
        have H := HC21.out
        clear HC21
        replace H := ieq_ H; rcases H with ⟨-, c22b0, c22b1, H⟩ | ⟨c22, c22b0, c22b1, H⟩
        ·(first | rw [c22b0] | (simp only [i64_w, i32_w]; rw [c22b0]) | skip)
         have H' := Aside0.mk H
         clear H
         obtain ⟨Ao23, co23, eo23⟩ := Kd.R_slice HO_5.out
         subst eo23
         go_wp2
         go_meet
         case rel => exact ⟨_, (true), rs_, H', ⟨by have := HJ2.out; have := HK2.out; first | omega | exact Nat.le_refl _⟩, ⟨up_ HO_5.out⟩, ⟨up_ BK516.out⟩, ⟨up_ HB.out⟩⟩
        ·have c22b2 : ¬ (x5_2 = []) := fun h_ => c22 (by rw [h_]; rfl)
         (first | rw [c22b0] | (simp only [i64_w, i32_w]; rw [c22b0]) | skip)
         have H' := Aside0.mk H
         clear H
         obtain ⟨Ao24, co24, eo24⟩ := Kd.R_slice HO_5.out
         subst eo24
         go_wp2
         go_meet
         case rel => exact ⟨_, (decide (t523 < x6_2)), rs_, H', ⟨by have := HJ2.out; have := HK2.out; first | omega | exact Nat.le_refl _⟩, ⟨up_ HO_5.out⟩, ⟨up_ BK516.out⟩, ⟨up_ HB.out⟩⟩
       case rest =>
        clear HC21
        try clear c1
        try clear c2
        try clear p2
        try clear c4
        try clear c5
        try clear p5
        try clear q5
        try clear hx5
        try clear c6
        try clear c13
        try clear c17
        try clear c17b0
        try clear c18
        try clear c18b0
        try clear c19
        try clear c19b0
        try clear c22
        try clear c22b0
        try clear c22b1
        try clear c22b2
        try clear c23
        try clear hcz10_0
        try clear hcz10_1
        try clear hcz10_2
        try clear hcz10_3
        try clear hcz11_0
        try clear hcz11_1
        try clear hcz11_2
        try clear hcz11_3
        try clear hcz16_0
        try clear hcz16_1
        try clear hcz16_2
        try clear hcz16_3
        try clear hcz8_0
        try clear hcz8_1
        try clear hcz8_2
        try clear hcz8_3
        try clear hfz10_0
        try clear hfz10_1
        try clear hfz10_2
        try clear hfz10_3
        try clear hfz11_0
        try clear hfz11_1
        try clear hfz11_2
        try clear hfz11_3
        try clear hfz16_0
        try clear hfz16_1
        try clear hfz16_2
        try clear hfz16_3
        try clear hfz8_0
        try clear hfz8_1
        try clear hfz8_2
        try clear hfz8_3
        try clear hx522_0
        try clear p2
        try clear p522
        try clear q522
        obtain ⟨kq, x40_20, rfl, HA, HJ20, HO_5, BK516, HB⟩ := hcut
        cases kq with
        | zero => exact absurd HA.out (by simp [impl_WeightedWinners.j2])
        | succ kj20 =>
         have H := HA.out
         clear HA
         simp only [impl_WeightedWinners.j2] at H
         replace H := itb_ H; rcases H with ⟨rfl, H⟩ | ⟨rfl, H⟩
         ·obtain ⟨y524, hy524⟩ : ∃ y_ : List Int, y_ = (([x25_2] : List Int)) := ⟨_, rfl⟩
          replace H : (impl_WeightedWinners.l0 kj20 l1 y524 t523 l0_3 (l0_3.length : Int) (wrap64 (x25_2 + 1))) = some r := rh_ hy524 H
          have Ny524 := Aside0.mk hy524
          clear hy524
          have H' := Aside0.mk H
          clear H
          go_wp2_with (first | ((refine gd_ 42 ?_); (try (refine gate_guard (by rfl) ?_; dsimp only)); refine Kd.R_lit (Kd.int .i64) _ 3 ?hg (N := 42) ?hd (xs := ([x25_2] : List Int)) (inner := [.int .i64 x25_2]) (ok := fun _ => True) (okp := fun _ => True) ?hr ?hp (fun _ hk => hk) trivial (Below.refl _ _) (Nat.le_refl _) (by simp) ?_; (case hd => rfl); (case hg => rfl); (case hr => first | (go_simp; done) | (go_simp; rfl)); (case hp => exact (Reps.one (show Kd.M (Kd.int .i64) _ _ _ x25_2 [.int .i64 x25_2] from rfl) (Reps.none _ _))); intro v525 w26 ho27 hb hg_ hnew_; clear hg_ hnew_; (first | rw [← Ny524.out] at ho27 | (simp only [Int.reduceToNat] at ho27; rw [← Ny524.out] at ho27)); have HO526 := Aside0.mk (Kd.R_lower (Kd.R_new' ho27 (Kd.R_lt (up_ HO_5.out))) (below_size (up_ HB.out))); replace HO_5 := Aside0.mk (Kd.R_elder' (up_ HO_5.out) (Kd.R_base ho27) hb); replace BK516 := bb_ BK516 hb; replace HB := bs_ HB hb; clear hb ho27))
          go_roundg kj20
          case measure => have := HJ2.out; have := HK2.out; have := HJ20.out; omega
          case rel => exact ⟨(y524), (t523), (wrap64 (x25_2 + 1)), rs_, rs_, H', ⟨by have := HJ2.out; have := HK2.out; have := HJ20.out; omega⟩, ⟨by (with_reducible repeat (first | apply Kd.R_alloc | apply Kd.R_drewN | apply Kd.R_drew)); exact Kd.R_mono HO526.out (fun _ hk => trivial)⟩, ⟨up_ BK516.out⟩, ⟨up_ HB.out⟩⟩
         ·replace H := ieq_ H; rcases H with ⟨-, c28b0, c28b1, H⟩ | ⟨c28, c28b0, c28b1, H⟩
          ·by_cases c29 : x5_2.length < 17592186044416
           ·rw [if_pos c29] at H
            have LMc29 := Aside0.mk c29
            clear c29
            obtain ⟨y527, hy527⟩ : ∃ y_ : List Int, y_ = (x5_2 ++ [x25_2]) := ⟨_, rfl⟩
            replace H : (impl_WeightedWinners.l0 kj20 l1 y527 x6_2 l0_3 (l0_3.length : Int) (wrap64 (x25_2 + 1))) = some r := rh_ hy527 H
            have Ny527 := Aside0.mk hy527
            clear hy527
            have H' := Aside0.mk H
            clear H
            go_wp2_with (first | ((with_reducible refine gate_builtin (b := .append) (xs := #[.tmp 47, .tmp 49]) rfl ?_); (try (refine gate_guard (by rfl) ?_; dsimp only)); at_builtin; refine Kd.R_append (Kd.int .i64) (w0 := w) w.heap.size rfl (.tmp 47) (.tmp 49) 23 3 (.int .i64 0) 8 rfl Tryz.underlying23 info3 rfl (by decide) (by omega) u5 x5_2 x25_2 [.int .i64 x25_2] (fun _ => True) (fun _ => False) rfl rfl ?aP (fun _ hk => hk.elim) ?aF ?aO ?aB ?aS ?aL ?_; (case aP => exact rfl); (case aB => exact (up_ HB.out)); (case aF => exact (fun _ _ => trivial)); (case aO => exact (up_ HO_5.out)); (case aS => exact (below_size (up_ HB.out))); (case aL => have := LMc29.out; omega); intro v528 w30 ho hb hg hat; rw [← Ny527.out] at ho; have n0_ := Aside0.mk (blk_grown (g := gb516) (o := .cells #[.string a0_0, .slice A0_1 l0_1.length c0_1, .slice A0_2 l0_2.length c0_2, .slice (some ad522) l0_3.length c0_3] 38 (0, 0)) (up_ BK516.out) hg (Kd.R_ne HO_5.out BK516.out (by decide))); have n1_ := Aside0.mk (hb); have n2_ := Aside0.mk (ho); clear BK516; clear HB; clear HO_5; have BK516 := n0_; have HB := n1_; have HO529 := n2_; clear n0_ n1_ n2_; clear ho hb hg hat))
            go_roundg kj20
            case measure => have := HJ2.out; have := HK2.out; have := HJ20.out; omega
            case rel => exact ⟨(y527), (x6_2), (wrap64 (x25_2 + 1)), rs_, rs_, H', ⟨by have := HJ2.out; have := HK2.out; have := HJ20.out; omega⟩, ⟨up_ HO529.out⟩, ⟨up_ BK516.out⟩, ⟨up_ HB.out⟩⟩
           ·rw [if_neg c29] at H
            exact absurd H (by simp)
          ·have H' := Aside0.mk H
           clear H
           go_wp2
           go_roundg kj20
           case measure => have := HJ2.out; have := HK2.out; have := HJ20.out; omega
           case rel => exact ⟨(x5_2), (x6_2), (wrap64 (x25_2 + 1)), rs_, rs_, H', ⟨by have := HJ2.out; have := HK2.out; have := HJ20.out; omega⟩, ⟨up_ HO_5.out⟩, ⟨up_ BK516.out⟩, ⟨up_ HB.out⟩⟩
      ·obtain rfl := Option.some.inj H
       go_wp2
       go_ret
       exact ⟨_, re_, by (with_reducible repeat (first | apply Kd.R_alloc | apply Kd.R_drewN | apply Kd.R_drew)); exact HO_5.out, up_ HB.out⟩

/-! ### laws_heldIntS: function 25 -/
def laws_heldIntS.l0 : Nat → List Int → Int → Int → Option (Int)
 | 0, _, _, _ => none
 | k + 1, x0, x1, x5 => if x5 < (x0.length : Int) then (if 0 ≤ x5 then (if (rd x0 x5) = x1 then (laws_heldIntS.l0 k x0 (wrap64 (x1 + 1)) (wrap64 (x5 + 1))) else (some (-1))) else (none)) else (some x1)
def laws_heldIntS.f (k : Nat) (l0 : List Int) (a1 : Int) : Option (Int) := laws_heldIntS.l0 k l0 a1 0
set_option maxHeartbeats 8000000 in
set_option maxRecDepth 100000 in
theorem laws_heldIntS.calls (k : Nat) (A0 : Option Addr) (c0 : Nat) (l0 : List Int) (a1 : Int) (r : Int) (w : World) (hr0 : Kd.C (Kd.int .i64) w A0 l0.length l0) (hc0 : l0.length ≤ c0) (h : laws_heldIntS.f k l0 a1 = some r) :
  Calls Tryz.prog 25 #[.slice A0 l0.length c0, .int .i64 a1] w fun e w' => e = .returned (.int .i64 r) ∧ Drawn0 w w' := by
 have HR0 := Aside0.mk hr0
 have HC0 := Aside0.mk hc0
 clear hr0 hc0
 have H : (laws_heldIntS.l0 k l0 a1 0) = some r := h
 clear h
 have H' := Aside0.mk H
 clear H
 go_enter Tryz.func25, Tryz.ntmps25
 go_wp2
 go_loopg [1, 5] k (fun kq v1 v5 w' => ∃ (x1_1 : Int) (x5_1 : Int), v1 = .int .i64 x1_1 ∧ v5 = .int .i64 x5_1 ∧ Aside0 (laws_heldIntS.l0 kq l0 x1_1 x5_1 = some r) ∧ Aside0 (kq ≤ k) ∧ Drawn0 w w')
 case atStart => exact ⟨(a1), (0), rs_, rs_, H', ⟨Nat.le_refl _⟩, dn_⟩
 case round =>
  clear H'
  try clear c2
  try clear p2
  obtain ⟨x1_1, x5_1, rfl, rfl, HA, HK1, ⟨m1, rfl⟩⟩ := hrel
  cases gk with
  | zero => exact absurd HA.out (by simp [laws_heldIntS.l0])
  | succ k1 =>
   have H := HA.out
   clear HA
   simp only [laws_heldIntS.l0] at H
   replace H := its_ H; rcases H with ⟨c3b0, H⟩ | ⟨c3b0, H⟩
   ·replace H := its_ H; rcases H with ⟨c4b0, H⟩ | ⟨_, ⟨⟩⟩
    replace H := ieq_ H; rcases H with ⟨-, c5b0, c5b1, H⟩ | ⟨c5, c5b0, c5b1, H⟩
    ·have H' := Aside0.mk H
     clear H
     have p530 : 0 ≤ (x5_1 : Int) := od_
     have q530 : x5_1 < (l0.length : Int) := od_
     obtain ⟨ad530, e530, hx530_0⟩ := Kd.at_int HR0.out x5_1 p530 q530
     cases e530
     replace p530 := eq_true p530
     replace q530 := eq_true q530
     go_wp2
     go_roundg k1
     case measure => have := HK1.out; omega
     case rel => exact ⟨(wrap64 (x1_1 + 1)), (wrap64 (x5_1 + 1)), rs_, rs_, H', ⟨by have := HK1.out; omega⟩, dn_⟩
    ·obtain rfl := Option.some.inj H
     have p530 : 0 ≤ (x5_1 : Int) := od_
     have q530 : x5_1 < (l0.length : Int) := od_
     obtain ⟨ad530, e530, hx530_0⟩ := Kd.at_int HR0.out x5_1 p530 q530
     cases e530
     replace p530 := eq_true p530
     replace q530 := eq_true q530
     go_wp2
     go_ret
     exact ⟨rs_, dn_⟩
   ·obtain rfl := Option.some.inj H
    go_wp2
    go_ret
    exact ⟨rs_, dn_⟩

end Go.Proofs.YtkddpilambnicaaGreat.PFnExactWeightedWinners
