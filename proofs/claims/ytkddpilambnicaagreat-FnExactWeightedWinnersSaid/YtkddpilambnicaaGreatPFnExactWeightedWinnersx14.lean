/- Walks of Go functions that the law FnExactWeightedWinners uses: written by this session's program out of the kit's printer; each shows that a call comes to the answers of the Lean function beside it. Conditions: each contract's own. -/
import Derived.Test.YtkddpilambnicaaGreatPFnExactWeightedWinnersx0
import Derived.Test.YtkddpilambnicaaGreatPFnExactWeightedWinnersx5
import Derived.Test.YtkddpilambnicaaGreatPFnExactWeightedWinnersx13
namespace Go.Proofs.YtkddpilambnicaaGreat.PFnExactWeightedWinners
open Go.RowKit Go.Proofs.YtkddpilambnicaaGreatW.PrintWords Go.Proofs.YtkddpilambnicaaGreatW.PrintLast Go.Proofs.YtkddpilambnicaaGreatW.PrintMore Go.Proofs.YtkddpilambnicaaGreat.Mac Go.Proofs.YtkddpilambnicaaGreat.Law
attribute [local go_sem] max2_int min2_int max_two min_two max_three min_three max_four min_four   -- for this text's walks alone
set_option linter.unusedVariables false
set_option linter.unusedSimpArgs false

/-! ### spec_AreWeights: function 43 -/
def spec_AreWeights.l0 : Nat → List Int → Int → Int → Option (Bool)
 | 0, _, _, _ => none
 | k + 1, x0, x1, x5 => if x5 < (x0.length : Int) then (if 0 ≤ x5 then ((spec_l1In.f (rd x0 x5) 0 10000000).bind fun t327 => (if t327 = true then (spec_AreWeights.l0 k x0 x1 (wrap64 (x5 + 1))) else (some false))) else (none)) else ((spec_l1In.f x1 1 5).bind fun t328 => (if t328 = true then (some ((x0.length : Int) == x1)) else (some false)))
def spec_AreWeights.f (k : Nat) (l0 : List Int) (a1 : Int) : Option (Bool) := spec_AreWeights.l0 k l0 a1 0
set_option maxHeartbeats 8000000 in
set_option maxRecDepth 100000 in
theorem spec_AreWeights.calls (k : Nat) (A0 : Option Addr) (c0 : Nat) (l0 : List Int) (a1 : Int) (r : Bool) (w : World) (hr0 : Kd.C (Kd.int .i64) w A0 l0.length l0) (hc0 : l0.length ≤ c0) (h : spec_AreWeights.f k l0 a1 = some r) :
  Calls Tryz.prog 43 #[.slice A0 l0.length c0, .int .i64 a1] w fun e w' => e = .returned (.bool r) ∧ Drawn0 w w' := by
 have HR0 := Aside0.mk hr0
 have HC0 := Aside0.mk hc0
 clear hr0 hc0
 have H : (spec_AreWeights.l0 k l0 a1 0) = some r := h
 clear h
 have H' := Aside0.mk H
 clear H
 go_enter Tryz.func43, Tryz.ntmps43
 go_wp2
 go_loopg [5] k (fun kq v5 w' => ∃ (x5_1 : Int), v5 = .int .i64 x5_1 ∧ Aside0 (spec_AreWeights.l0 kq l0 a1 x5_1 = some r) ∧ Aside0 (kq ≤ k) ∧ Drawn0 w w')
 case atStart => exact ⟨(0), rs_, H', ⟨Nat.le_refl _⟩, dn_⟩
 case round =>
  clear H'
  try clear p2
  obtain ⟨x5_1, rfl, HA, HK1, ⟨m1, rfl⟩⟩ := hrel
  cases gk with
  | zero => exact absurd HA.out (by simp [spec_AreWeights.l0])
  | succ k1 =>
   have H := HA.out
   clear HA
   simp only [spec_AreWeights.l0] at H
   replace H := its_ H; rcases H with ⟨c3b0, H⟩ | ⟨c3b0, H⟩
   ·replace H := its_ H; rcases H with ⟨c4b0, H⟩ | ⟨_, ⟨⟩⟩
    replace H := bnd_ H; obtain ⟨t327, A5, H⟩ := H
    replace H := itb_ H; rcases H with ⟨rfl, H⟩ | ⟨rfl, H⟩
    ·have H' := Aside0.mk H
     clear H
     have p326 : 0 ≤ (x5_1 : Int) := od_
     have q326 : x5_1 < (l0.length : Int) := od_
     obtain ⟨ad326, e326, hx326_0⟩ := Kd.at_int HR0.out x5_1 p326 q326
     cases e326
     replace p326 := eq_true p326
     replace q326 := eq_true q326
     go_wp2_with (first | ((refine gc_ 58 ?_); refine gq_ (some 16) Tryz.func58 (spec_l1In.calls (rd l0 x5_1) 0 10000000 true _ A5.out) (fun nd => ?_)))
     go_roundg k1
     case measure => have := HK1.out; omega
     case rel => exact ⟨(wrap64 (x5_1 + 1)), rs_, H', ⟨by have := HK1.out; omega⟩, dn_⟩
    ·obtain rfl := Option.some.inj H
     have p326 : 0 ≤ (x5_1 : Int) := od_
     have q326 : x5_1 < (l0.length : Int) := od_
     obtain ⟨ad326, e326, hx326_0⟩ := Kd.at_int HR0.out x5_1 p326 q326
     cases e326
     replace p326 := eq_true p326
     replace q326 := eq_true q326
     go_wp2_with (first | ((refine gc_ 58 ?_); refine gq_ (some 16) Tryz.func58 (spec_l1In.calls (rd l0 x5_1) 0 10000000 false _ A5.out) (fun nd => ?_)))
     go_ret
     exact ⟨rs_, dn_⟩
   ·replace H := bnd_ H; obtain ⟨t328, A7, H⟩ := H
    replace H := itb_ H; rcases H with ⟨rfl, H⟩ | ⟨rfl, H⟩
    ·obtain rfl := Option.some.inj H
     go_wp2_with (first | ((refine gc_ 58 ?_); refine gq_ (some 19) Tryz.func58 (spec_l1In.calls a1 1 5 true _ A7.out) (fun nd => ?_)))
     go_ret
     exact ⟨rs_, dn_⟩
    ·obtain rfl := Option.some.inj H
     go_wp2_with (first | ((refine gc_ 58 ?_); refine gq_ (some 19) Tryz.func58 (spec_l1In.calls a1 1 5 false _ A7.out) (fun nd => ?_)))
     go_ret
     exact ⟨rs_, dn_⟩

/-! ### spec_HarmonyOf: function 44 -/
def spec_HarmonyOf.l0 : Nat → List Int → List Int → Int → Int → Option (Int)
 | 0, _, _, _, _ => none
 | k + 1, x0, x1, x5, x6 => if x6 < (x0.length : Int) then (if 0 ≤ x6 then (if x6 < (x1.length : Int) then ((spec_l1In.f (rd x1 x6) (-100) 100).bind fun t331 => (if t331 = true then (spec_HarmonyOf.l0 k x0 x1 (wrap64 (x5 + (wrap64 ((rd x0 x6) * (rd x1 x6))))) (wrap64 (x6 + 1))) else (some 0))) else (none)) else (none)) else (some x5)
def spec_HarmonyOf.f (k : Nat) (l0 : List Int) (l1 : List Int) : Option (Int) := (spec_AreWeights.f k l0 (l1.length : Int)).bind fun t329 => (if t329 = true then (spec_HarmonyOf.l0 k l0 l1 0 0) else (some 0))
set_option maxHeartbeats 8000000 in
set_option maxRecDepth 100000 in
theorem spec_HarmonyOf.calls (k : Nat) (A0 : Option Addr) (c0 : Nat) (l0 : List Int) (A1 : Option Addr) (c1 : Nat) (l1 : List Int) (r : Int) (w : World) (hr0 : Kd.C (Kd.int .i64) w A0 l0.length l0) (hc0 : l0.length ≤ c0) (hr1 : Kd.C (Kd.int .i64) w A1 l1.length l1) (hc1 : l1.length ≤ c1) (h : spec_HarmonyOf.f k l0 l1 = some r) :
  Calls Tryz.prog 44 #[.slice A0 l0.length c0, .slice A1 l1.length c1] w fun e w' => e = .returned (.int .i64 r) ∧ Drawn0 w w' := by
 have HR0 := Aside0.mk hr0
 have HC0 := Aside0.mk hc0
 clear hr0 hc0
 have HR1 := Aside0.mk hr1
 have HC1 := Aside0.mk hc1
 clear hr1 hc1
 have H : ((spec_AreWeights.f k l0 (l1.length : Int)).bind fun t329 => (if t329 = true then (spec_HarmonyOf.l0 k l0 l1 0 0) else (some 0))) = some r := h
 clear h
 replace H := bnd_ H; obtain ⟨t329, A3, H⟩ := H
 replace H := itb_ H; rcases H with ⟨rfl, H⟩ | ⟨rfl, H⟩
 ·have H' := Aside0.mk H
  clear H
  go_enter Tryz.func44, Tryz.ntmps44
  go_wp2_with (first | (go_at_call 43; (with_reducible refine (spec_AreWeights.calls k _ _ l0 (l1.length : Int) true _ ?side1 ?side2 A3.out).mono ?_); (case side1 => repeat (first | exact HR0.out | (with_reducible refine Kd.C_alloc ?_ _) | (with_reducible refine Kd.C_drewN ?_ _) | (with_reducible refine Kd.C_drew ?_))); (case side2 => exact HC0.out); rintro e w' ⟨rfl, ⟨nd, rfl⟩⟩; (try first | exact ⟨rfl, _, World.drewN_drewN _ _ _⟩ | exact ⟨rfl, _, Eq.trans (World.drewN_drewN _ _ _) (congrArg (World.drewN _) (Nat.add_assoc _ _ _))⟩)))
  repeat (go_quiet (first | (go_at_call 43; (with_reducible refine (spec_AreWeights.calls k _ _ l0 (l1.length : Int) true _ ?side1 ?side2 A3.out).mono ?_); (case side1 => repeat (first | exact HR0.out | (with_reducible refine Kd.C_alloc ?_ _) | (with_reducible refine Kd.C_drewN ?_ _) | (with_reducible refine Kd.C_drew ?_))); (case side2 => exact HC0.out); rintro e w' ⟨rfl, ⟨nd, rfl⟩⟩; (try first | exact ⟨rfl, _, World.drewN_drewN _ _ _⟩ | exact ⟨rfl, _, Eq.trans (World.drewN_drewN _ _ _) (congrArg (World.drewN _) (Nat.add_assoc _ _ _))⟩))); try go_wp2_with (first | (go_at_call 43; (with_reducible refine (spec_AreWeights.calls k _ _ l0 (l1.length : Int) true _ ?side1 ?side2 A3.out).mono ?_); (case side1 => repeat (first | exact HR0.out | (with_reducible refine Kd.C_alloc ?_ _) | (with_reducible refine Kd.C_drewN ?_ _) | (with_reducible refine Kd.C_drew ?_))); (case side2 => exact HC0.out); rintro e w' ⟨rfl, ⟨nd, rfl⟩⟩; (try first | exact ⟨rfl, _, World.drewN_drewN _ _ _⟩ | exact ⟨rfl, _, Eq.trans (World.drewN_drewN _ _ _) (congrArg (World.drewN _) (Nat.add_assoc _ _ _))⟩))))
  go_loopg [5, 6] k (fun kq v5 v6 w' => ∃ (x5_1 : Int) (x6_1 : Int), v5 = .int .i64 x5_1 ∧ v6 = .int .i64 x6_1 ∧ Aside0 (spec_HarmonyOf.l0 kq l0 l1 x5_1 x6_1 = some r) ∧ Aside0 (kq ≤ k) ∧ Drawn0 w w')
  case atStart => exact ⟨(0), (0), rs_, rs_, H', ⟨Nat.le_refl _⟩, dn_⟩
  case round =>
   clear H'
   try clear c1
   try clear p2
   try clear c4
   obtain ⟨x5_1, x6_1, rfl, rfl, HA, HK1, ⟨m1, rfl⟩⟩ := hrel
   cases gk with
   | zero => exact absurd HA.out (by simp [spec_HarmonyOf.l0])
   | succ k1 =>
    have H := HA.out
    clear HA
    simp only [spec_HarmonyOf.l0] at H
    replace H := its_ H; rcases H with ⟨c5b0, H⟩ | ⟨c5b0, H⟩
    ·replace H := its_ H; rcases H with ⟨c6b0, H⟩ | ⟨_, ⟨⟩⟩
     replace H := its_ H; rcases H with ⟨c7b0, H⟩ | ⟨_, ⟨⟩⟩
     replace H := bnd_ H; obtain ⟨t331, A8, H⟩ := H
     replace H := itb_ H; rcases H with ⟨rfl, H⟩ | ⟨rfl, H⟩
     ·have H' := Aside0.mk H
      clear H
      have p330 : 0 ≤ (x6_1 : Int) := od_
      have q330 : x6_1 < (l1.length : Int) := od_
      obtain ⟨ad330, e330, hx330_0⟩ := Kd.at_int HR1.out x6_1 p330 q330
      cases e330
      replace p330 := eq_true p330
      replace q330 := eq_true q330
      go_wp2_with (first | (go_at_call 58; (with_reducible refine (spec_l1In.calls (rd l1 x6_1) (-100) 100 true _ A8.out).mono ?_); rintro e w' ⟨rfl, ⟨nd, rfl⟩⟩; (try first | exact ⟨rfl, _, World.drewN_drewN _ _ _⟩ | exact ⟨rfl, _, Eq.trans (World.drewN_drewN _ _ _) (congrArg (World.drewN _) (Nat.add_assoc _ _ _))⟩); have p332 : 0 ≤ (x6_1 : Int) := od_; have q332 : x6_1 < (l0.length : Int) := od_; obtain ⟨ad332, e332, hx332_0⟩ := Kd.at_int HR0.out x6_1 p332 q332; cases e332; replace p332 := eq_true p332; replace q332 := eq_true q332; have p333 : 0 ≤ (x6_1 : Int) := od_; have q333 : x6_1 < (l1.length : Int) := od_; obtain ⟨ad333, e333, hx333_0⟩ := Kd.at_int HR1.out x6_1 p333 q333; obtain rfl : ad330 = ad333 := (by injection e333); replace p333 := eq_true p333; replace q333 := eq_true q333))
      repeat (go_quiet (first | (go_at_call 58; (with_reducible refine (spec_l1In.calls (rd l1 x6_1) (-100) 100 true _ A8.out).mono ?_); rintro e w' ⟨rfl, ⟨nd, rfl⟩⟩; (try first | exact ⟨rfl, _, World.drewN_drewN _ _ _⟩ | exact ⟨rfl, _, Eq.trans (World.drewN_drewN _ _ _) (congrArg (World.drewN _) (Nat.add_assoc _ _ _))⟩); have p332 : 0 ≤ (x6_1 : Int) := od_; have q332 : x6_1 < (l0.length : Int) := od_; obtain ⟨ad332, e332, hx332_0⟩ := Kd.at_int HR0.out x6_1 p332 q332; cases e332; replace p332 := eq_true p332; replace q332 := eq_true q332; have p333 : 0 ≤ (x6_1 : Int) := od_; have q333 : x6_1 < (l1.length : Int) := od_; obtain ⟨ad333, e333, hx333_0⟩ := Kd.at_int HR1.out x6_1 p333 q333; obtain rfl : ad330 = ad333 := (by injection e333); replace p333 := eq_true p333; replace q333 := eq_true q333)); try go_wp2_with (first | (go_at_call 58; (with_reducible refine (spec_l1In.calls (rd l1 x6_1) (-100) 100 true _ A8.out).mono ?_); rintro e w' ⟨rfl, ⟨nd, rfl⟩⟩; (try first | exact ⟨rfl, _, World.drewN_drewN _ _ _⟩ | exact ⟨rfl, _, Eq.trans (World.drewN_drewN _ _ _) (congrArg (World.drewN _) (Nat.add_assoc _ _ _))⟩); have p332 : 0 ≤ (x6_1 : Int) := od_; have q332 : x6_1 < (l0.length : Int) := od_; obtain ⟨ad332, e332, hx332_0⟩ := Kd.at_int HR0.out x6_1 p332 q332; cases e332; replace p332 := eq_true p332; replace q332 := eq_true q332; have p333 : 0 ≤ (x6_1 : Int) := od_; have q333 : x6_1 < (l1.length : Int) := od_; obtain ⟨ad333, e333, hx333_0⟩ := Kd.at_int HR1.out x6_1 p333 q333; obtain rfl : ad330 = ad333 := (by injection e333); replace p333 := eq_true p333; replace q333 := eq_true q333)))
      go_roundg k1
      case measure => have := HK1.out; omega
      case rel => exact ⟨(wrap64 (x5_1 + (wrap64 ((rd l0 x6_1) * (rd l1 x6_1))))), (wrap64 (x6_1 + 1)), rs_, rs_, H', ⟨by have := HK1.out; omega⟩, dn_⟩
     ·obtain rfl := Option.some.inj H
      have p330 : 0 ≤ (x6_1 : Int) := od_
      have q330 : x6_1 < (l1.length : Int) := od_
      obtain ⟨ad330, e330, hx330_0⟩ := Kd.at_int HR1.out x6_1 p330 q330
      cases e330
      replace p330 := eq_true p330
      replace q330 := eq_true q330
      go_wp2_with (first | (go_at_call 58; (with_reducible refine (spec_l1In.calls (rd l1 x6_1) (-100) 100 false _ A8.out).mono ?_); rintro e w' ⟨rfl, ⟨nd, rfl⟩⟩; (try first | exact ⟨rfl, _, World.drewN_drewN _ _ _⟩ | exact ⟨rfl, _, Eq.trans (World.drewN_drewN _ _ _) (congrArg (World.drewN _) (Nat.add_assoc _ _ _))⟩)))
      repeat (go_quiet (first | (go_at_call 58; (with_reducible refine (spec_l1In.calls (rd l1 x6_1) (-100) 100 false _ A8.out).mono ?_); rintro e w' ⟨rfl, ⟨nd, rfl⟩⟩; (try first | exact ⟨rfl, _, World.drewN_drewN _ _ _⟩ | exact ⟨rfl, _, Eq.trans (World.drewN_drewN _ _ _) (congrArg (World.drewN _) (Nat.add_assoc _ _ _))⟩))); try go_wp2_with (first | (go_at_call 58; (with_reducible refine (spec_l1In.calls (rd l1 x6_1) (-100) 100 false _ A8.out).mono ?_); rintro e w' ⟨rfl, ⟨nd, rfl⟩⟩; (try first | exact ⟨rfl, _, World.drewN_drewN _ _ _⟩ | exact ⟨rfl, _, Eq.trans (World.drewN_drewN _ _ _) (congrArg (World.drewN _) (Nat.add_assoc _ _ _))⟩))))
      go_ret
      exact ⟨rs_, dn_⟩
    ·obtain rfl := Option.some.inj H
     go_wp2
     repeat (go_quiet (fail); try go_wp2)
     go_ret
     exact ⟨rs_, dn_⟩
 ·obtain rfl := Option.some.inj H
  go_enter Tryz.func44, Tryz.ntmps44
  go_wp2_with (first | (go_at_call 43; (with_reducible refine (spec_AreWeights.calls k _ _ l0 (l1.length : Int) false _ ?side1 ?side2 A3.out).mono ?_); (case side1 => repeat (first | exact HR0.out | (with_reducible refine Kd.C_alloc ?_ _) | (with_reducible refine Kd.C_drewN ?_ _) | (with_reducible refine Kd.C_drew ?_))); (case side2 => exact HC0.out); rintro e w' ⟨rfl, ⟨nd, rfl⟩⟩; (try first | exact ⟨rfl, _, World.drewN_drewN _ _ _⟩ | exact ⟨rfl, _, Eq.trans (World.drewN_drewN _ _ _) (congrArg (World.drewN _) (Nat.add_assoc _ _ _))⟩)))
  repeat (go_quiet (first | (go_at_call 43; (with_reducible refine (spec_AreWeights.calls k _ _ l0 (l1.length : Int) false _ ?side1 ?side2 A3.out).mono ?_); (case side1 => repeat (first | exact HR0.out | (with_reducible refine Kd.C_alloc ?_ _) | (with_reducible refine Kd.C_drewN ?_ _) | (with_reducible refine Kd.C_drew ?_))); (case side2 => exact HC0.out); rintro e w' ⟨rfl, ⟨nd, rfl⟩⟩; (try first | exact ⟨rfl, _, World.drewN_drewN _ _ _⟩ | exact ⟨rfl, _, Eq.trans (World.drewN_drewN _ _ _) (congrArg (World.drewN _) (Nat.add_assoc _ _ _))⟩))); try go_wp2_with (first | (go_at_call 43; (with_reducible refine (spec_AreWeights.calls k _ _ l0 (l1.length : Int) false _ ?side1 ?side2 A3.out).mono ?_); (case side1 => repeat (first | exact HR0.out | (with_reducible refine Kd.C_alloc ?_ _) | (with_reducible refine Kd.C_drewN ?_ _) | (with_reducible refine Kd.C_drew ?_))); (case side2 => exact HC0.out); rintro e w' ⟨rfl, ⟨nd, rfl⟩⟩; (try first | exact ⟨rfl, _, World.drewN_drewN _ _ _⟩ | exact ⟨rfl, _, Eq.trans (World.drewN_drewN _ _ _) (congrArg (World.drewN _) (Nat.add_assoc _ _ _))⟩))))
  go_ret
  exact ⟨rs_, dn_⟩

/-! ### spec_WeightedWinners: function 22 -/
mutual
def spec_WeightedWinners.j0 : Nat → List Int → List Int → Bool → ByteArray → List ByteArray → List (S50) → List (List Int) → Option (List Int)
 | 0, _, _, _, _, _, _, _ => none
 | k + 1, x1, x5, x20, x335000, x335001, x335002, x335003 => if x20 = true then (some x5) else (spec_WeightedWinners.l0 k x1 x5 0 0 x335000 x335001 x335002 x335003)
def spec_WeightedWinners.l0 : Nat → List Int → List Int → Int → Int → ByteArray → List ByteArray → List (S50) → List (List Int) → Option (List Int)
 | 0, _, _, _, _, _, _, _, _ => none
 | k + 1, x1, x5, x6, x7, x335000, x335001, x335002, x335003 => if x7 < (x335002.length : Int) then (if 0 ≤ x7 then (if x7 < (x335003.length : Int) then ((spec_HarmonyOf.f k x1 (rd_L6 x335003 x7)).bind fun t341 => (if x7 = 0 then (spec_WeightedWinners.j2 k x1 x5 x6 x7 t341 true x335000 x335001 x335002 x335003) else (spec_WeightedWinners.j2 k x1 x5 x6 x7 t341 (decide (t341 < x6)) x335000 x335001 x335002 x335003))) else (none)) else (none)) else (some x5)
def spec_WeightedWinners.j2 : Nat → List Int → List Int → Int → Int → Int → Bool → ByteArray → List ByteArray → List (S50) → List (List Int) → Option (List Int)
 | 0, _, _, _, _, _, _, _, _, _, _ => none
 | k + 1, x1, x5, x6, x7, x8, x42, x335000, x335001, x335002, x335003 => if x42 = true then ((some (([] : List Int) : List Int)).bind fun y342 => (if x8 = x8 then (if y342.length < 17592186044416 then (spec_WeightedWinners.l0 k x1 (y342 ++ [x7]) x8 (wrap64 (x7 + 1)) x335000 x335001 x335002 x335003) else (none)) else (spec_WeightedWinners.l0 k x1 y342 x8 (wrap64 (x7 + 1)) x335000 x335001 x335002 x335003))) else (if x8 = x6 then (if x5.length < 17592186044416 then (spec_WeightedWinners.l0 k x1 (x5 ++ [x7]) x6 (wrap64 (x7 + 1)) x335000 x335001 x335002 x335003) else (none)) else (spec_WeightedWinners.l0 k x1 x5 x6 (wrap64 (x7 + 1)) x335000 x335001 x335002 x335003))
end
def spec_WeightedWinners.f (k : Nat) (a0_0 : ByteArray) (l0_1 : List ByteArray) (l0_2 : List (S50)) (l0_3 : List (List Int)) (l1 : List Int) : Option (List Int) := (some (([] : List Int) : List Int)).bind fun y335 => ((spec_IsTableau.f k a0_0 l0_1 l0_2 l0_3).bind fun t338 => (if t338 = true then ((spec_AreWeights.f k l1 (l0_1.length : Int)).bind fun t339 => (spec_WeightedWinners.j0 k l1 y335 (!t339) a0_0 l0_1 l0_2 l0_3)) else (spec_WeightedWinners.j0 k l1 y335 true a0_0 l0_1 l0_2 l0_3)))
set_option maxHeartbeats 8000000 in
set_option maxRecDepth 100000 in
theorem spec_WeightedWinners.calls (k : Nat) (a0_0 : ByteArray) (A0_1 : Option Addr) (c0_1 : Nat) (l0_1 : List ByteArray) (A0_2 : Option Addr) (c0_2 : Nat) (l0_2 : List (S50)) (A0_3 : Option Addr) (c0_3 : Nat) (l0_3 : List (List Int)) (A1 : Option Addr) (c1 : Nat) (l1 : List Int) (r : List Int) (w : World) (hr0_1 : Kd.C Kd.string w A0_1 l0_1.length l0_1) (hc0_1 : l0_1.length ≤ c0_1) (hr0_2 : Kd.C k50 w A0_2 l0_2.length l0_2) (hc0_2 : l0_2.length ≤ c0_2) (hr0_3 : Kd.C (Kd.slice 3 (Kd.int .i64)) w A0_3 l0_3.length l0_3) (hc0_3 : l0_3.length ≤ c0_3) (hr1 : Kd.C (Kd.int .i64) w A1 l1.length l1) (hc1 : l1.length ≤ c1) (h : spec_WeightedWinners.f k a0_0 l0_1 l0_2 l0_3 l1 = some r) :
  Calls Tryz.prog 22 #[.agg #[.string a0_0, .slice A0_1 l0_1.length c0_1, .slice A0_2 l0_2.length c0_2, .slice A0_3 l0_3.length c0_3], .slice A1 l1.length c1] w fun e w' => ∃ v0_ : Value, e = .returned (v0_) ∧ Kd.R (Kd.int .i64) 3 w' w.heap.size (fun _ => True) v0_ r ∧ Below w.heap.size w w' := by
 have hu38 := Tryz.underlying38
 have HR0_1 := Aside0.mk hr0_1
 have HC0_1 := Aside0.mk hc0_1
 clear hr0_1 hc0_1
 have HR0_2 := Aside0.mk hr0_2
 have HC0_2 := Aside0.mk hc0_2
 clear hr0_2 hc0_2
 have HR0_3 := Aside0.mk hr0_3
 have HC0_3 := Aside0.mk hc0_3
 clear hr0_3 hc0_3
 have HR1 := Aside0.mk hr1
 have HC1 := Aside0.mk hc1
 clear hr1 hc1
 have HB := Aside0.mk (Below.refl w.heap.size w)
 have H : ((some (([] : List Int) : List Int)).bind fun y335 => ((spec_IsTableau.f k a0_0 l0_1 l0_2 l0_3).bind fun t338 => (if t338 = true then ((spec_AreWeights.f k l1 (l0_1.length : Int)).bind fun t339 => (spec_WeightedWinners.j0 k l1 y335 (!t339) a0_0 l0_1 l0_2 l0_3)) else (spec_WeightedWinners.j0 k l1 y335 true a0_0 l0_1 l0_2 l0_3)))) = some r := h
 clear h
 obtain ⟨y335, hy335⟩ : ∃ y_ : List Int, y_ = (([] : List Int)) := ⟨_, rfl⟩
 replace H : ((spec_IsTableau.f k a0_0 l0_1 l0_2 l0_3).bind fun t338 => (if t338 = true then ((spec_AreWeights.f k l1 (l0_1.length : Int)).bind fun t339 => (spec_WeightedWinners.j0 k l1 y335 (!t339) a0_0 l0_1 l0_2 l0_3)) else (spec_WeightedWinners.j0 k l1 y335 true a0_0 l0_1 l0_2 l0_3))) = some r := rh_ hy335 H
 have Ny335 := Aside0.mk hy335
 clear hy335
 have HC3 := Aside0.mk H
 clear H
 go_enter Tryz.func22, Tryz.ntmps22
 go_upto_region 2 with (first | ((refine gd_ 2 ?_); (try (refine gate_guard (by rfl) ?_; dsimp only)); refine bx_ 2 #[.string a0_0, .slice A0_1 l0_1.length c0_1, .slice A0_2 l0_2.length c0_2, .slice A0_3 l0_3.length c0_3] 38 ?_; intro gb334 hg w4 hbox hb; have BK334 := Aside0.mk (hbox); have GW334 := gw_ HB hg; have GE334 := gw_ HB hg; replace HB := bs_ HB hb; clear hb hbox hg) | ((refine gd_ 9 ?_); (try (refine gate_guard (by rfl) ?_; dsimp only)); refine Kd.R_lit (Kd.int .i64) _ 3 ?hg (N := 9) ?hd (xs := ([] : List Int)) (inner := []) (ok := fun _ => True) (okp := fun _ => True) ?hr ?hp (fun _ hk => hk) trivial (Below.refl _ _) (Nat.le_refl _) (by simp) ?_; (case hd => rfl); (case hg => rfl); (case hr => first | (go_simp; done) | (go_simp; rfl)); (case hp => exact (Reps.none _ _)); intro v336 w5 ho6 hb hg_ hnew_; clear hg_ hnew_; (first | rw [← Ny335.out] at ho6 | (simp only [Int.reduceToNat] at ho6; rw [← Ny335.out] at ho6)); have HO337 := Aside0.mk (Kd.R_lower ho6 (below_size (up_ HB.out))); replace BK334 := bb_ BK334 hb; replace HB := bs_ HB hb; clear hb ho6))
 (try simp only [Act.put, List.setIfInBounds_toArray, List.set_cons_zero, List.set_cons_succ])
 go_cut [20] (fun v20 wc => ∃ (kq : Nat) (x20_2 : Bool), v20 = .bool x20_2 ∧ Aside0 (spec_WeightedWinners.j0 kq l1 y335 x20_2 a0_0 l0_1 l0_2 l0_3 = some r) ∧ Aside0 (kq ≤ k) ∧ Aside0 (Kd.R (Kd.int .i64) 3 wc w.heap.size (fun _ => True) v336 y335) ∧ Aside0 (wc.heap[gb334]? = some (.cells #[.string a0_0, (.slice A0_1 l0_1.length c0_1), (.slice A0_2 l0_2.length c0_2), (.slice A0_3 l0_3.length c0_3)] 38 (0, 0))) ∧ Aside0 (Below w.heap.size w wc))
 case first =>
  have H := HC3.out
  clear HC3
  replace H := bnd_ H; obtain ⟨t338, A7, H⟩ := H
  replace H := itb_ H; rcases H with ⟨rfl, H⟩ | ⟨rfl, H⟩
  ·replace H := bnd_ H; obtain ⟨t339, A9, H⟩ := H
   have H' := Aside0.mk H
   clear H
   obtain ⟨hcz10_0, hcz10_1, hcz10_2, hcz10_3⟩ := c4_ BK334
   have hfz10_0 := blk_frozen BK334.out 0
   have hfz10_1 := blk_frozen BK334.out 1
   have hfz10_2 := blk_frozen BK334.out 2
   have hfz10_3 := blk_frozen BK334.out 3
   go_wp2_with (first | ((refine gc_ 32 ?_); refine gl_ (some 11) Tryz.func32 (spec_IsTableau.calls k a0_0 _ _ l0_1 _ _ l0_2 _ _ l0_3 true _ (Kd.C_below HR0_1.out (up_ HB.out)) HC0_1.out (Kd.C_below HR0_2.out (up_ HB.out)) HC0_2.out (Kd.C_below HR0_3.out (up_ HB.out)) HC0_3.out A7.out) ?_; rintro e w11 ⟨rfl, hb⟩; refine ⟨_, rfl, ?_⟩; replace HO337 := Aside0.mk (Kd.R_below (up_ HO337.out) hb); replace BK334 := bb_ BK334 hb; replace HB := bs_ HB hb; (try clear hb); (try clear hb2); (try clear hk); (try clear hi); obtain ⟨hcz12_0, hcz12_1, hcz12_2, hcz12_3⟩ := c4_ BK334; have hfz12_0 := blk_frozen BK334.out 0; have hfz12_1 := blk_frozen BK334.out 1; have hfz12_2 := blk_frozen BK334.out 2; have hfz12_3 := blk_frozen BK334.out 3) | (go_at_call 43; (with_reducible refine (spec_AreWeights.calls k _ _ l1 (l0_1.length : Int) t339 _ (Kd.C_below HR1.out (up_ HB.out)) HC1.out A9.out).mono ?_); rintro e w' ⟨rfl, ⟨nd, rfl⟩⟩))
   go_meet
   case rel => exact ⟨_, (!t339), rs_, H', ⟨by first | omega | exact Nat.le_refl _⟩, ⟨up_ HO337.out⟩, ⟨up_ BK334.out⟩, ⟨up_ HB.out⟩⟩
  ·have H' := Aside0.mk H
   clear H
   obtain ⟨hcz13_0, hcz13_1, hcz13_2, hcz13_3⟩ := c4_ BK334
   have hfz13_0 := blk_frozen BK334.out 0
   have hfz13_1 := blk_frozen BK334.out 1
   have hfz13_2 := blk_frozen BK334.out 2
   have hfz13_3 := blk_frozen BK334.out 3
   go_wp2_with (first | ((refine gc_ 32 ?_); refine gl_ (some 11) Tryz.func32 (spec_IsTableau.calls k a0_0 _ _ l0_1 _ _ l0_2 _ _ l0_3 false _ (Kd.C_below HR0_1.out (up_ HB.out)) HC0_1.out (Kd.C_below HR0_2.out (up_ HB.out)) HC0_2.out (Kd.C_below HR0_3.out (up_ HB.out)) HC0_3.out A7.out) ?_; rintro e w14 ⟨rfl, hb⟩; refine ⟨_, rfl, ?_⟩; replace HO337 := Aside0.mk (Kd.R_below (up_ HO337.out) hb); replace BK334 := bb_ BK334 hb; replace HB := bs_ HB hb; (try clear hb); (try clear hb2); (try clear hk); (try clear hi)))
   go_meet
   case rel => exact ⟨_, (true), rs_, H', ⟨by first | omega | exact Nat.le_refl _⟩, ⟨up_ HO337.out⟩, ⟨up_ BK334.out⟩, ⟨up_ HB.out⟩⟩
 case rest =>
  clear HC3
  try clear c1
  try clear c2
  try clear p2
  try clear c3
  try clear c8
  try clear hcz10_0
  try clear hcz10_1
  try clear hcz10_2
  try clear hcz10_3
  try clear hcz12_0
  try clear hcz12_1
  try clear hcz12_2
  try clear hcz12_3
  try clear hcz13_0
  try clear hcz13_1
  try clear hcz13_2
  try clear hcz13_3
  try clear hfz10_0
  try clear hfz10_1
  try clear hfz10_2
  try clear hfz10_3
  try clear hfz12_0
  try clear hfz12_1
  try clear hfz12_2
  try clear hfz12_3
  try clear hfz13_0
  try clear hfz13_1
  try clear hfz13_2
  try clear hfz13_3
  obtain ⟨kq, x20_2, rfl, HA, HJ2, HO_5, BK334, HB⟩ := hcut
  cases kq with
  | zero => exact absurd HA.out (by simp [spec_WeightedWinners.j0])
  | succ kj2 =>
   have H := HA.out
   clear HA
   simp only [spec_WeightedWinners.j0] at H
   replace H := itb_ H; rcases H with ⟨rfl, H⟩ | ⟨rfl, H⟩
   ·obtain rfl := Option.some.inj H
    go_wp2
    go_ret
    exact ⟨_, re_, by (with_reducible repeat (first | apply Kd.R_alloc | apply Kd.R_drewN | apply Kd.R_drew)); exact HO_5.out, up_ HB.out⟩
   ·have H' := Aside0.mk H
    clear H
    go_wp2
    go_loopg [5, 6, 7] kj2 (fun kq v5 v6 v7 w' => ∃ (x5_2 : List Int) (x6_2 : Int) (x7_2 : Int), v6 = .int .i64 x6_2 ∧ v7 = .int .i64 x7_2 ∧ Aside0 (spec_WeightedWinners.l0 kq l1 x5_2 x6_2 x7_2 a0_0 l0_1 l0_2 l0_3 = some r) ∧ Aside0 (kq ≤ kj2) ∧ Aside0 (Kd.R (Kd.int .i64) 3 w' w.heap.size (fun _ => True) v5 x5_2) ∧ Aside0 (w'.heap[gb334]? = some (.cells #[.string a0_0, (.slice A0_1 l0_1.length c0_1), (.slice A0_2 l0_2.length c0_2), (.slice A0_3 l0_3.length c0_3)] 38 (0, 0))) ∧ Aside0 (Below w.heap.size w w'))
    case atStart => exact ⟨(y335), (0), (0), rs_, rs_, H', ⟨Nat.le_refl _⟩, ⟨up_ HO_5.out⟩, ⟨up_ BK334.out⟩, ⟨up_ HB.out⟩⟩
    case round =>
     clear H'
     try clear c1
     try clear c2
     try clear p2
     try clear c3
     try clear c8
     try clear c15
     try clear hcz10_0
     try clear hcz10_1
     try clear hcz10_2
     try clear hcz10_3
     try clear hcz12_0
     try clear hcz12_1
     try clear hcz12_2
     try clear hcz12_3
     try clear hcz13_0
     try clear hcz13_1
     try clear hcz13_2
     try clear hcz13_3
     try clear hfz10_0
     try clear hfz10_1
     try clear hfz10_2
     try clear hfz10_3
     try clear hfz12_0
     try clear hfz12_1
     try clear hfz12_2
     try clear hfz12_3
     try clear hfz13_0
     try clear hfz13_1
     try clear hfz13_2
     try clear hfz13_3
     try clear p2
     obtain ⟨x5_2, x6_2, x7_2, rfl, rfl, HA, HK2, HO_5, BK334, HB⟩ := hrel
     cases gk with
     | zero => exact absurd HA.out (by simp [spec_WeightedWinners.l0])
     | succ k2 =>
      have H := HA.out
      clear HA
      simp only [spec_WeightedWinners.l0] at H
      replace H := its_ H; rcases H with ⟨c16b0, H⟩ | ⟨c16b0, H⟩
      ·replace H := its_ H; rcases H with ⟨c17b0, H⟩ | ⟨_, ⟨⟩⟩
       replace H := its_ H; rcases H with ⟨c18b0, H⟩ | ⟨_, ⟨⟩⟩
       replace H := bnd_ H; obtain ⟨t341, A19, H⟩ := H
       have HC20 := Aside0.mk H
       clear H
       obtain ⟨hcz21_0, hcz21_1, hcz21_2, hcz21_3⟩ := c4_ BK334
       have hfz21_0 := blk_frozen BK334.out 0
       have hfz21_1 := blk_frozen BK334.out 1
       have hfz21_2 := blk_frozen BK334.out 2
       have hfz21_3 := blk_frozen BK334.out 3
       have p340 : 0 ≤ (x7_2 : Int) := od_
       have q340 : x7_2 < (l0_3.length : Int) := od_
       obtain ⟨ad340, A340_0, c340_0, e340, hx340_0, hl340_0, hi340_0⟩ := at_L6 HR0_3.out x7_2 p340 q340
       cases e340
       replace hx340_0 := bh_ HB hx340_0
       have HR340_0 := Aside0.mk hi340_0
       have HC340_0 := Aside0.mk hl340_0
       clear hi340_0 hl340_0
       replace p340 := eq_true p340
       replace q340 := eq_true q340
       go_upto_region 9 with (first | ((refine gc_ 44 ?_); refine gq_ (some 35) Tryz.func44 (spec_HarmonyOf.calls k2 _ _ l1 _ _ (rd_L6 l0_3 x7_2) t341 _ (Kd.C_below HR1.out (up_ HB.out)) HC1.out (Kd.C_below HR340_0.out (up_ HB.out)) HC340_0.out A19.out) (fun nd => ?_)))
       (try simp only [Act.put, List.setIfInBounds_toArray, List.set_cons_zero, List.set_cons_succ])
       go_cut [42] (fun v42 wc => ∃ (kq : Nat) (x42_19 : Bool), v42 = .bool x42_19 ∧ Aside0 (spec_WeightedWinners.j2 kq l1 x5_2 x6_2 x7_2 t341 x42_19 a0_0 l0_1 l0_2 l0_3 = some r) ∧ Aside0 (kq ≤ k2) ∧ Aside0 (Kd.R (Kd.int .i64) 3 wc w.heap.size (fun _ => True) u5 x5_2) ∧ Aside0 (wc.heap[gb334]? = some (.cells #[.string a0_0, (.slice A0_1 l0_1.length c0_1), (.slice A0_2 l0_2.length c0_2), (.slice (some ad340) l0_3.length c0_3)] 38 (0, 0))) ∧ Aside0 (Below w.heap.size w wc))
       case first =>
        have H := HC20.out
        clear HC20
        replace H := ieq_ H; rcases H with ⟨-, c22b0, c22b1, H⟩ | ⟨c22, c22b0, c22b1, H⟩
        ·(first | rw [c22b0] | (simp only [i64_w, i32_w]; rw [c22b0]) | skip)
         have H' := Aside0.mk H
         clear H
         go_wp2
         go_meet
         case rel => exact ⟨_, (true), rs_, H', ⟨by have := HJ2.out; have := HK2.out; first | omega | exact Nat.le_refl _⟩, ⟨up_ HO_5.out⟩, ⟨up_ BK334.out⟩, ⟨up_ HB.out⟩⟩
        ·(first | rw [c22b0] | (simp only [i64_w, i32_w]; rw [c22b0]) | skip)
         have H' := Aside0.mk H
         clear H
         go_wp2
         go_meet
         case rel => exact ⟨_, (decide (t341 < x6_2)), rs_, H', ⟨by have := HJ2.out; have := HK2.out; first | omega | exact Nat.le_refl _⟩, ⟨up_ HO_5.out⟩, ⟨up_ BK334.out⟩, ⟨up_ HB.out⟩⟩
       case rest =>
        clear HC20
        try clear c1
        try clear c2
        try clear p2
        try clear c3
        try clear p3
        try clear q3
        try clear hx3
        try clear c4
        try clear c8
        try clear c15
        try clear c16
        try clear c16b0
        try clear c17
        try clear c17b0
        try clear c18
        try clear c18b0
        try clear c22
        try clear c22b0
        try clear c22b1
        try clear hcz10_0
        try clear hcz10_1
        try clear hcz10_2
        try clear hcz10_3
        try clear hcz12_0
        try clear hcz12_1
        try clear hcz12_2
        try clear hcz12_3
        try clear hcz13_0
        try clear hcz13_1
        try clear hcz13_2
        try clear hcz13_3
        try clear hcz21_0
        try clear hcz21_1
        try clear hcz21_2
        try clear hcz21_3
        try clear hfz10_0
        try clear hfz10_1
        try clear hfz10_2
        try clear hfz10_3
        try clear hfz12_0
        try clear hfz12_1
        try clear hfz12_2
        try clear hfz12_3
        try clear hfz13_0
        try clear hfz13_1
        try clear hfz13_2
        try clear hfz13_3
        try clear hfz21_0
        try clear hfz21_1
        try clear hfz21_2
        try clear hfz21_3
        try clear hx340_0
        try clear p2
        try clear p340
        try clear q340
        obtain ⟨kq, x42_19, rfl, HA, HJ19, HO_5, BK334, HB⟩ := hcut
        cases kq with
        | zero => exact absurd HA.out (by simp [spec_WeightedWinners.j2])
        | succ kj19 =>
         have H := HA.out
         clear HA
         rw [spec_WeightedWinners.j2] at H
         replace H := itb_ H; rcases H with ⟨rfl, H⟩ | ⟨rfl, H⟩
         ·obtain ⟨y342, hy342⟩ : ∃ y_ : List Int, y_ = (([] : List Int)) := ⟨_, rfl⟩
          replace H : (if t341 = t341 then (if y342.length < 17592186044416 then (spec_WeightedWinners.l0 kj19 l1 (y342 ++ [x7_2]) t341 (wrap64 (x7_2 + 1)) a0_0 l0_1 l0_2 l0_3) else (none)) else (spec_WeightedWinners.l0 kj19 l1 y342 t341 (wrap64 (x7_2 + 1)) a0_0 l0_1 l0_2 l0_3)) = some r := rh_ hy342 H
          have Ny342 := Aside0.mk hy342
          clear hy342
          by_cases c24 : t341 = t341
          ·rw [if_pos c24] at H
           have c24b0 : (t341 == t341) = true := beq_iff_eq.mpr c24
           have c24b1 : (t341 != t341) = false := bne_eq_false_iff_eq.mpr c24
           clear c24
           by_cases c25 : y342.length < 17592186044416
           ·rw [if_pos c25] at H
            have LMc25 := Aside0.mk c25
            clear c25
            obtain ⟨y345, hy345⟩ : ∃ y_ : List Int, y_ = (y342 ++ [x7_2]) := ⟨_, rfl⟩
            replace H : (spec_WeightedWinners.l0 kj19 l1 y345 t341 (wrap64 (x7_2 + 1)) a0_0 l0_1 l0_2 l0_3) = some r := rh_ hy345 H
            have Ny345 := Aside0.mk hy345
            clear hy345
            have H' := Aside0.mk H
            clear H
            go_wp2_with (first | ((refine gd_ 44 ?_); (try (refine gate_guard (by rfl) ?_; dsimp only)); refine Kd.R_lit (Kd.int .i64) _ 3 ?hg (N := 44) ?hd (xs := ([] : List Int)) (inner := []) (ok := fun _ => True) (okp := fun _ => True) ?hr ?hp (fun _ hk => hk) trivial (Below.refl _ _) (Nat.le_refl _) (by simp) ?_; (case hd => rfl); (case hg => rfl); (case hr => first | (go_simp; done) | (go_simp; rfl)); (case hp => exact (Reps.none _ _)); intro v343 w26 ho27 hb hg_ hnew_; clear hg_ hnew_; (first | rw [← Ny342.out] at ho27 | (simp only [Int.reduceToNat] at ho27; rw [← Ny342.out] at ho27)); have HO344 := Aside0.mk (Kd.R_lower (Kd.R_new' ho27 (Kd.R_lt (up_ HO_5.out))) (below_size (up_ HB.out))); replace HO_5 := Aside0.mk (Kd.R_elder' (up_ HO_5.out) (Kd.R_base ho27) hb); replace BK334 := bb_ BK334 hb; replace HB := bs_ HB hb; clear hb ho27) | ((with_reducible refine gate_builtin (b := .append) (xs := #[.tmp 48, .tmp 50]) rfl ?_); (try (refine gate_guard (by rfl) ?_; dsimp only)); at_builtin; refine Kd.R_append (Kd.int .i64) (w0 := w) w.heap.size rfl (.tmp 48) (.tmp 50) 23 3 (.int .i64 0) 8 rfl Tryz.underlying23 info3 rfl (by decide) (by omega) v343 y342 x7_2 [.int .i64 x7_2] (fun k_ => some k_ ≠ (u5 : Value).ownBlock) (fun _ => False) rfl rfl ?aP (fun _ hk => hk.elim) ?aF ?aO ?aB ?aS ?aL ?_; (case aP => exact rfl); (case aB => exact (up_ HB.out)); (case aF => exact (fun k_ hk => Kd.fresh' (Kd.R_lt (up_ HO_5.out)) k_ hk)); (case aO => exact (by (with_reducible repeat (first | apply Kd.R_alloc | apply Kd.R_drewN | apply Kd.R_drew)); exact Kd.R_mono HO344.out (fun _ hk => hk.2))); (case aS => exact (below_size (up_ HB.out))); (case aL => have := LMc25.out; omega); intro v346 w28 ho hb hg hat; rw [← Ny345.out] at ho; have n0_ := Aside0.mk (Kd.R_after (ok := (fun _ => True)) (up_ HO_5.out) hg hat); have n1_ := Aside0.mk (blk_grown (g := gb334) (o := .cells #[.string a0_0, .slice A0_1 l0_1.length c0_1, .slice A0_2 l0_2.length c0_2, .slice (some ad340) l0_3.length c0_3] 38 (0, 0)) (up_ BK334.out) hg (Kd.R_ne HO344.out BK334.out (by decide))); have n2_ := Aside0.mk (hb); have n3_ := Aside0.mk (ho); clear HO_5; clear BK334; clear HB; clear HO344; have HO_5 := n0_; have BK334 := n1_; have HB := n2_; have HO347 := n3_; clear n0_ n1_ n2_ n3_; clear ho hb hg hat))
            go_roundg kj19
            case measure => have := HJ2.out; have := HK2.out; have := HJ19.out; omega
            case rel => exact ⟨(y345), (t341), (wrap64 (x7_2 + 1)), rs_, rs_, H', ⟨by have := HJ2.out; have := HK2.out; have := HJ19.out; omega⟩, ⟨by (with_reducible repeat (first | apply Kd.R_alloc | apply Kd.R_drewN | apply Kd.R_drew)); exact Kd.R_mono HO347.out (fun _ hk => trivial)⟩, ⟨up_ BK334.out⟩, ⟨up_ HB.out⟩⟩
           ·rw [if_neg c25] at H
            exact absurd H (by simp)
          ·exact absurd rfl c24
         ·replace H := ieq_ H; rcases H with ⟨-, c31b0, c31b1, H⟩ | ⟨c31, c31b0, c31b1, H⟩
          ·by_cases c32 : x5_2.length < 17592186044416
           ·rw [if_pos c32] at H
            have LMc32 := Aside0.mk c32
            clear c32
            obtain ⟨y348, hy348⟩ : ∃ y_ : List Int, y_ = (x5_2 ++ [x7_2]) := ⟨_, rfl⟩
            replace H : (spec_WeightedWinners.l0 kj19 l1 y348 x6_2 (wrap64 (x7_2 + 1)) a0_0 l0_1 l0_2 l0_3) = some r := rh_ hy348 H
            have Ny348 := Aside0.mk hy348
            clear hy348
            have H' := Aside0.mk H
            clear H
            go_wp2_with (first | ((with_reducible refine gate_builtin (b := .append) (xs := #[.tmp 48, .tmp 50]) rfl ?_); (try (refine gate_guard (by rfl) ?_; dsimp only)); at_builtin; refine Kd.R_append (Kd.int .i64) (w0 := w) w.heap.size rfl (.tmp 48) (.tmp 50) 23 3 (.int .i64 0) 8 rfl Tryz.underlying23 info3 rfl (by decide) (by omega) u5 x5_2 x7_2 [.int .i64 x7_2] (fun _ => True) (fun _ => False) rfl rfl ?aP (fun _ hk => hk.elim) ?aF ?aO ?aB ?aS ?aL ?_; (case aP => exact rfl); (case aB => exact (up_ HB.out)); (case aF => exact (fun _ _ => trivial)); (case aO => exact (up_ HO_5.out)); (case aS => exact (below_size (up_ HB.out))); (case aL => have := LMc32.out; omega); intro v349 w33 ho hb hg hat; rw [← Ny348.out] at ho; have n0_ := Aside0.mk (blk_grown (g := gb334) (o := .cells #[.string a0_0, .slice A0_1 l0_1.length c0_1, .slice A0_2 l0_2.length c0_2, .slice (some ad340) l0_3.length c0_3] 38 (0, 0)) (up_ BK334.out) hg (Kd.R_ne HO_5.out BK334.out (by decide))); have n1_ := Aside0.mk (hb); have n2_ := Aside0.mk (ho); clear BK334; clear HB; clear HO_5; have BK334 := n0_; have HB := n1_; have HO350 := n2_; clear n0_ n1_ n2_; clear ho hb hg hat))
            go_roundg kj19
            case measure => have := HJ2.out; have := HK2.out; have := HJ19.out; omega
            case rel => exact ⟨(y348), (x6_2), (wrap64 (x7_2 + 1)), rs_, rs_, H', ⟨by have := HJ2.out; have := HK2.out; have := HJ19.out; omega⟩, ⟨up_ HO350.out⟩, ⟨up_ BK334.out⟩, ⟨up_ HB.out⟩⟩
           ·rw [if_neg c32] at H
            exact absurd H (by simp)
          ·have H' := Aside0.mk H
           clear H
           go_wp2
           go_roundg kj19
           case measure => have := HJ2.out; have := HK2.out; have := HJ19.out; omega
           case rel => exact ⟨(x5_2), (x6_2), (wrap64 (x7_2 + 1)), rs_, rs_, H', ⟨by have := HJ2.out; have := HK2.out; have := HJ19.out; omega⟩, ⟨up_ HO_5.out⟩, ⟨up_ BK334.out⟩, ⟨up_ HB.out⟩⟩
      ·obtain rfl := Option.some.inj H
       obtain ⟨hcz34_0, hcz34_1, hcz34_2, hcz34_3⟩ := c4_ BK334
       have hfz34_0 := blk_frozen BK334.out 0
       have hfz34_1 := blk_frozen BK334.out 1
       have hfz34_2 := blk_frozen BK334.out 2
       have hfz34_3 := blk_frozen BK334.out 3
       go_wp2
       go_ret
       exact ⟨_, re_, by (with_reducible repeat (first | apply Kd.R_alloc | apply Kd.R_drewN | apply Kd.R_drew)); exact HO_5.out, up_ HB.out⟩

end Go.Proofs.YtkddpilambnicaaGreat.PFnExactWeightedWinners
