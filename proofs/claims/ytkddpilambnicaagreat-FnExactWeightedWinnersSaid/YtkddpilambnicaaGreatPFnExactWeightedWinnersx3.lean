/- Walks of Go functions that the law FnExactWeightedWinners uses: written by this session's program out of the kit's printer; each shows that a call comes to the answers of the Lean function beside it. Conditions: each contract's own. -/
import Derived.Test.YtkddpilambnicaaGreatPFnExactWeightedWinnersx0
import Derived.Test.YtkddpilambnicaaGreatPFnExactWeightedWinnersx1
namespace Go.Proofs.YtkddpilambnicaaGreat.PFnExactWeightedWinners
open Go.RowKit Go.Proofs.YtkddpilambnicaaGreatW.PrintWords Go.Proofs.YtkddpilambnicaaGreatW.PrintLast Go.Proofs.YtkddpilambnicaaGreatW.PrintMore Go.Proofs.YtkddpilambnicaaGreat.Mac Go.Proofs.YtkddpilambnicaaGreat.Law
attribute [local go_sem] max2_int min2_int max_two min_two max_three min_three max_four min_four   -- for this text's walks alone
set_option linter.unusedVariables false
set_option linter.unusedSimpArgs false

/-! ### laws_eqIntSS: function 17 -/
def laws_eqIntSS.l0 : Nat → List (List Int) → List (List Int) → Int → Option (Bool)
 | 0, _, _, _ => none
 | k + 1, x0, x1, x5 => if x5 < (x0.length : Int) then (if 0 ≤ x5 then (if x5 < (x1.length : Int) then ((laws_eqIntS.f k (rd_L6 x0 x5) (rd_L6 x1 x5)).bind fun t172 => (if t172 = true then (laws_eqIntSS.l0 k x0 x1 (wrap64 (x5 + 1))) else (some false))) else (none)) else (none)) else (some true)
def laws_eqIntSS.f (k : Nat) (l0 : List (List Int)) (l1 : List (List Int)) : Option (Bool) := if (l0.length : Int) = (l1.length : Int) then (laws_eqIntSS.l0 k l0 l1 0) else (some false)
theorem laws_eqIntSS.mono_l : ∀ k, (∀ y0 y1 y2, LeO (laws_eqIntSS.l0 k y0 y1 y2) (laws_eqIntSS.l0 (k + 1) y0 y1 y2))
 | 0 => fun _ _ _ r h => by simp [laws_eqIntSS.l0] at h
 | k + 1 => by
  have ih0 := laws_eqIntSS.mono_l k
  ·intro y0 y1 y2
   unfold laws_eqIntSS.l0
   have m0 := laws_eqIntS.mono
   exact mn_
set_option maxHeartbeats 8000000 in
set_option maxRecDepth 100000 in
theorem laws_eqIntSS.calls (k : Nat) (A0 : Option Addr) (c0 : Nat) (l0 : List (List Int)) (A1 : Option Addr) (c1 : Nat) (l1 : List (List Int)) (r : Bool) (w : World) (hr0 : Kd.C (Kd.slice 3 (Kd.int .i64)) w A0 l0.length l0) (hc0 : l0.length ≤ c0) (hr1 : Kd.C (Kd.slice 3 (Kd.int .i64)) w A1 l1.length l1) (hc1 : l1.length ≤ c1) (h : laws_eqIntSS.f k l0 l1 = some r) :
  Calls Tryz.prog 17 #[.slice A0 l0.length c0, .slice A1 l1.length c1] w fun e w' => e = .returned (.bool r) ∧ Drawn0 w w' := by
 have HR0 := Aside0.mk hr0
 have HC0 := Aside0.mk hc0
 clear hr0 hc0
 have HR1 := Aside0.mk hr1
 have HC1 := Aside0.mk hc1
 clear hr1 hc1
 have H : (if (l0.length : Int) = (l1.length : Int) then (laws_eqIntSS.l0 k l0 l1 0) else (some false)) = some r := h
 clear h
 replace H := ieq_ H; rcases H with ⟨c3, c3b0, c3b1, H⟩ | ⟨c3, c3b0, c3b1, H⟩
 ·have c3b2 : (l0.length == l1.length) = true := by first | simpa using c3 | (simp at c3 ⊢; omega)
  clear c3
  have H' := Aside0.mk H
  clear H
  go_enter Tryz.func17, Tryz.ntmps17
  go_wp2
  repeat (go_quiet (fail); try go_wp2)
  go_loopg [5] k (fun kq v5 w' => ∃ (x5_1 : Int), v5 = .int .i64 x5_1 ∧ Aside0 (laws_eqIntSS.l0 kq l0 l1 x5_1 = some r) ∧ Aside0 (kq ≤ k) ∧ Drawn0 w w')
  case atStart => exact ⟨(0), rs_, H', ⟨Nat.le_refl _⟩, dn_⟩
  case round =>
   clear H'
   try clear c1
   try clear p2
   try clear c3
   try clear c3b0
   try clear c3b1
   try clear c3b2
   obtain ⟨x5_1, rfl, HA, HK1, ⟨m1, rfl⟩⟩ := hrel
   cases gk with
   | zero => exact absurd HA.out (by simp [laws_eqIntSS.l0])
   | succ k1 =>
    have H := HA.out
    clear HA
    simp only [laws_eqIntSS.l0] at H
    replace H := its_ H; rcases H with ⟨c4b0, H⟩ | ⟨c4b0, H⟩
    ·replace H := its_ H; rcases H with ⟨c5b0, H⟩ | ⟨_, ⟨⟩⟩
     replace H := its_ H; rcases H with ⟨c6b0, H⟩ | ⟨_, ⟨⟩⟩
     replace H := bnd_ H; obtain ⟨t172, A7, H⟩ := H
     replace H := itb_ H; rcases H with ⟨rfl, H⟩ | ⟨rfl, H⟩
     ·have H' := Aside0.mk H
      clear H
      have p170 : 0 ≤ (x5_1 : Int) := od_
      have q170 : x5_1 < (l0.length : Int) := od_
      obtain ⟨ad170, A170_0, c170_0, e170, hx170_0, hl170_0, hi170_0⟩ := at_L6 HR0.out x5_1 p170 q170
      cases e170
      have HR170_0 := Aside0.mk hi170_0
      have HC170_0 := Aside0.mk hl170_0
      clear hi170_0 hl170_0
      replace p170 := eq_true p170
      replace q170 := eq_true q170
      have p171 : 0 ≤ (x5_1 : Int) := od_
      have q171 : x5_1 < (l1.length : Int) := od_
      obtain ⟨ad171, A171_0, c171_0, e171, hx171_0, hl171_0, hi171_0⟩ := at_L6 HR1.out x5_1 p171 q171
      cases e171
      have HR171_0 := Aside0.mk hi171_0
      have HC171_0 := Aside0.mk hl171_0
      clear hi171_0 hl171_0
      replace p171 := eq_true p171
      replace q171 := eq_true q171
      go_wp2_with (first | (go_at_call 12; (with_reducible refine (laws_eqIntS.calls k1 _ _ (rd_L6 l0 x5_1) _ _ (rd_L6 l1 x5_1) true _ ?side1 ?side2 ?side3 ?side4 A7.out).mono ?_); (case side1 => repeat (first | exact HR170_0.out | (with_reducible refine Kd.C_alloc ?_ _) | (with_reducible refine Kd.C_drewN ?_ _) | (with_reducible refine Kd.C_drew ?_))); (case side2 => exact HC170_0.out); (case side3 => repeat (first | exact HR171_0.out | (with_reducible refine Kd.C_alloc ?_ _) | (with_reducible refine Kd.C_drewN ?_ _) | (with_reducible refine Kd.C_drew ?_))); (case side4 => exact HC171_0.out); rintro e w' ⟨rfl, ⟨nd, rfl⟩⟩; (try first | exact ⟨rfl, _, World.drewN_drewN _ _ _⟩ | exact ⟨rfl, _, Eq.trans (World.drewN_drewN _ _ _) (congrArg (World.drewN _) (Nat.add_assoc _ _ _))⟩)))
      repeat (go_quiet (first | (go_at_call 12; (with_reducible refine (laws_eqIntS.calls k1 _ _ (rd_L6 l0 x5_1) _ _ (rd_L6 l1 x5_1) true _ ?side1 ?side2 ?side3 ?side4 A7.out).mono ?_); (case side1 => repeat (first | exact HR170_0.out | (with_reducible refine Kd.C_alloc ?_ _) | (with_reducible refine Kd.C_drewN ?_ _) | (with_reducible refine Kd.C_drew ?_))); (case side2 => exact HC170_0.out); (case side3 => repeat (first | exact HR171_0.out | (with_reducible refine Kd.C_alloc ?_ _) | (with_reducible refine Kd.C_drewN ?_ _) | (with_reducible refine Kd.C_drew ?_))); (case side4 => exact HC171_0.out); rintro e w' ⟨rfl, ⟨nd, rfl⟩⟩; (try first | exact ⟨rfl, _, World.drewN_drewN _ _ _⟩ | exact ⟨rfl, _, Eq.trans (World.drewN_drewN _ _ _) (congrArg (World.drewN _) (Nat.add_assoc _ _ _))⟩))); try go_wp2_with (first | (go_at_call 12; (with_reducible refine (laws_eqIntS.calls k1 _ _ (rd_L6 l0 x5_1) _ _ (rd_L6 l1 x5_1) true _ ?side1 ?side2 ?side3 ?side4 A7.out).mono ?_); (case side1 => repeat (first | exact HR170_0.out | (with_reducible refine Kd.C_alloc ?_ _) | (with_reducible refine Kd.C_drewN ?_ _) | (with_reducible refine Kd.C_drew ?_))); (case side2 => exact HC170_0.out); (case side3 => repeat (first | exact HR171_0.out | (with_reducible refine Kd.C_alloc ?_ _) | (with_reducible refine Kd.C_drewN ?_ _) | (with_reducible refine Kd.C_drew ?_))); (case side4 => exact HC171_0.out); rintro e w' ⟨rfl, ⟨nd, rfl⟩⟩; (try first | exact ⟨rfl, _, World.drewN_drewN _ _ _⟩ | exact ⟨rfl, _, Eq.trans (World.drewN_drewN _ _ _) (congrArg (World.drewN _) (Nat.add_assoc _ _ _))⟩))))
      go_roundg k1
      case measure => have := HK1.out; omega
      case rel => exact ⟨(wrap64 (x5_1 + 1)), rs_, H', ⟨by have := HK1.out; omega⟩, dn_⟩
     ·obtain rfl := Option.some.inj H
      have p170 : 0 ≤ (x5_1 : Int) := od_
      have q170 : x5_1 < (l0.length : Int) := od_
      obtain ⟨ad170, A170_0, c170_0, e170, hx170_0, hl170_0, hi170_0⟩ := at_L6 HR0.out x5_1 p170 q170
      cases e170
      have HR170_0 := Aside0.mk hi170_0
      have HC170_0 := Aside0.mk hl170_0
      clear hi170_0 hl170_0
      replace p170 := eq_true p170
      replace q170 := eq_true q170
      have p171 : 0 ≤ (x5_1 : Int) := od_
      have q171 : x5_1 < (l1.length : Int) := od_
      obtain ⟨ad171, A171_0, c171_0, e171, hx171_0, hl171_0, hi171_0⟩ := at_L6 HR1.out x5_1 p171 q171
      cases e171
      have HR171_0 := Aside0.mk hi171_0
      have HC171_0 := Aside0.mk hl171_0
      clear hi171_0 hl171_0
      replace p171 := eq_true p171
      replace q171 := eq_true q171
      go_wp2_with (first | (go_at_call 12; (with_reducible refine (laws_eqIntS.calls k1 _ _ (rd_L6 l0 x5_1) _ _ (rd_L6 l1 x5_1) false _ ?side1 ?side2 ?side3 ?side4 A7.out).mono ?_); (case side1 => repeat (first | exact HR170_0.out | (with_reducible refine Kd.C_alloc ?_ _) | (with_reducible refine Kd.C_drewN ?_ _) | (with_reducible refine Kd.C_drew ?_))); (case side2 => exact HC170_0.out); (case side3 => repeat (first | exact HR171_0.out | (with_reducible refine Kd.C_alloc ?_ _) | (with_reducible refine Kd.C_drewN ?_ _) | (with_reducible refine Kd.C_drew ?_))); (case side4 => exact HC171_0.out); rintro e w' ⟨rfl, ⟨nd, rfl⟩⟩; (try first | exact ⟨rfl, _, World.drewN_drewN _ _ _⟩ | exact ⟨rfl, _, Eq.trans (World.drewN_drewN _ _ _) (congrArg (World.drewN _) (Nat.add_assoc _ _ _))⟩)))
      repeat (go_quiet (first | (go_at_call 12; (with_reducible refine (laws_eqIntS.calls k1 _ _ (rd_L6 l0 x5_1) _ _ (rd_L6 l1 x5_1) false _ ?side1 ?side2 ?side3 ?side4 A7.out).mono ?_); (case side1 => repeat (first | exact HR170_0.out | (with_reducible refine Kd.C_alloc ?_ _) | (with_reducible refine Kd.C_drewN ?_ _) | (with_reducible refine Kd.C_drew ?_))); (case side2 => exact HC170_0.out); (case side3 => repeat (first | exact HR171_0.out | (with_reducible refine Kd.C_alloc ?_ _) | (with_reducible refine Kd.C_drewN ?_ _) | (with_reducible refine Kd.C_drew ?_))); (case side4 => exact HC171_0.out); rintro e w' ⟨rfl, ⟨nd, rfl⟩⟩; (try first | exact ⟨rfl, _, World.drewN_drewN _ _ _⟩ | exact ⟨rfl, _, Eq.trans (World.drewN_drewN _ _ _) (congrArg (World.drewN _) (Nat.add_assoc _ _ _))⟩))); try go_wp2_with (first | (go_at_call 12; (with_reducible refine (laws_eqIntS.calls k1 _ _ (rd_L6 l0 x5_1) _ _ (rd_L6 l1 x5_1) false _ ?side1 ?side2 ?side3 ?side4 A7.out).mono ?_); (case side1 => repeat (first | exact HR170_0.out | (with_reducible refine Kd.C_alloc ?_ _) | (with_reducible refine Kd.C_drewN ?_ _) | (with_reducible refine Kd.C_drew ?_))); (case side2 => exact HC170_0.out); (case side3 => repeat (first | exact HR171_0.out | (with_reducible refine Kd.C_alloc ?_ _) | (with_reducible refine Kd.C_drewN ?_ _) | (with_reducible refine Kd.C_drew ?_))); (case side4 => exact HC171_0.out); rintro e w' ⟨rfl, ⟨nd, rfl⟩⟩; (try first | exact ⟨rfl, _, World.drewN_drewN _ _ _⟩ | exact ⟨rfl, _, Eq.trans (World.drewN_drewN _ _ _) (congrArg (World.drewN _) (Nat.add_assoc _ _ _))⟩))))
      go_ret
      exact ⟨rs_, dn_⟩
    ·obtain rfl := Option.some.inj H
     go_wp2
     repeat (go_quiet (fail); try go_wp2)
     go_ret
     exact ⟨rs_, dn_⟩
 ·have c3b2 : (l0.length == l1.length) = false := by first | simpa using c3 | (simp at c3 ⊢; omega)
  obtain rfl := Option.some.inj H
  go_enter Tryz.func17, Tryz.ntmps17
  go_wp2
  repeat (go_quiet (fail); try go_wp2)
  go_ret
  exact ⟨rs_, dn_⟩

/-! ### laws_eqLink: function 114 -/
def laws_eqLink.f (a0_0 : Int) (a0_1 : Int) (a1_0 : Int) (a1_1 : Int) : Option (Bool) := if a0_0 = a1_0 then (if a0_1 = a1_1 then (some true) else (some false)) else (some false)
set_option maxHeartbeats 8000000 in
set_option maxRecDepth 100000 in
theorem laws_eqLink.calls (a0_0 : Int) (a0_1 : Int) (a1_0 : Int) (a1_1 : Int) (r : Bool) (w : World) (h : laws_eqLink.f a0_0 a0_1 a1_0 a1_1 = some r) :
  Calls Tryz.prog 114 #[.agg #[.int .u8 a0_0, .int .u8 a0_1], .agg #[.int .u8 a1_0, .int .u8 a1_1]] w fun e w' => e = .returned (.bool r) ∧ Below w.heap.size w w' := by
 have hu70 := Tryz.underlying70
 have HB := Aside0.mk (Below.refl w.heap.size w)
 have H : (if a0_0 = a1_0 then (if a0_1 = a1_1 then (some true) else (some false)) else (some false)) = some r := h
 clear h
 replace H := ieq_ H; rcases H with ⟨-, c3b0, c3b1, H⟩ | ⟨c3, c3b0, c3b1, H⟩
 ·replace H := ieq_ H; rcases H with ⟨-, c4b0, c4b1, H⟩ | ⟨c4, c4b0, c4b1, H⟩
  ·obtain rfl := Option.some.inj H
   go_enter Tryz.func114, Tryz.ntmps114
   go_wp2_with (first | ((refine gd_ 2 ?_); refine bx_ 2 #[.int .u8 a0_0, .int .u8 a0_1] 70 ?_; intro gb173 hg w5 hbox hb; have BK173 := Aside0.mk (hbox); have GW173 := gw_ HB hg; have GE173 := gw_ HB hg; replace HB := bs_ HB hb; clear hb hbox hg) | ((refine gd_ 3 ?_); refine bx_ 3 #[.int .u8 a1_0, .int .u8 a1_1] 70 ?_; intro gb174 hg w6 hbox hb; have BK174 := Aside0.mk (hbox); have GW174 := gw_ HB hg; have GE174 := gw_ HB hg; replace HB := bs_ HB hb; have NB173_174 := Aside0.mk ((by rw [hg]; exact Nat.ne_of_lt (blk_lt (g := gb173) (o := .cells #[.int .u8 a0_0, .int .u8 a0_1] 70 (0, 0)) (up_ BK173.out)) : gb173 ≠ gb174)); have NB174_173 := Aside0.mk ((by rw [hg]; exact Nat.ne_of_gt (blk_lt (g := gb173) (o := .cells #[.int .u8 a0_0, .int .u8 a0_1] 70 (0, 0)) (up_ BK173.out)) : gb174 ≠ gb173)); replace BK173 := bb_ BK173 hb; clear hb hbox hg; have hnb7 := NB173_174.out; have hnc7 := NB174_173.out; obtain ⟨hcz8_0, hcz8_1⟩ := c2_ BK173; have hfz8_0 := blk_frozen BK173.out 0; have hfz8_1 := blk_frozen BK173.out 1; obtain ⟨hcz9_0, hcz9_1⟩ := c2_ BK174; have hfz9_0 := blk_frozen BK174.out 0; have hfz9_1 := blk_frozen BK174.out 1))
   go_ret
   exact ⟨re_, up_ HB.out⟩
  ·obtain rfl := Option.some.inj H
   go_enter Tryz.func114, Tryz.ntmps114
   go_wp2_with (first | ((refine gd_ 2 ?_); refine bx_ 2 #[.int .u8 a0_0, .int .u8 a0_1] 70 ?_; intro gb173 hg w10 hbox hb; have BK173 := Aside0.mk (hbox); have GW173 := gw_ HB hg; have GE173 := gw_ HB hg; replace HB := bs_ HB hb; clear hb hbox hg) | ((refine gd_ 3 ?_); refine bx_ 3 #[.int .u8 a1_0, .int .u8 a1_1] 70 ?_; intro gb174 hg w11 hbox hb; have BK174 := Aside0.mk (hbox); have GW174 := gw_ HB hg; have GE174 := gw_ HB hg; replace HB := bs_ HB hb; have NB173_174 := Aside0.mk ((by rw [hg]; exact Nat.ne_of_lt (blk_lt (g := gb173) (o := .cells #[.int .u8 a0_0, .int .u8 a0_1] 70 (0, 0)) (up_ BK173.out)) : gb173 ≠ gb174)); have NB174_173 := Aside0.mk ((by rw [hg]; exact Nat.ne_of_gt (blk_lt (g := gb173) (o := .cells #[.int .u8 a0_0, .int .u8 a0_1] 70 (0, 0)) (up_ BK173.out)) : gb174 ≠ gb173)); replace BK173 := bb_ BK173 hb; clear hb hbox hg; have hnb12 := NB173_174.out; have hnc12 := NB174_173.out; obtain ⟨hcz13_0, hcz13_1⟩ := c2_ BK173; have hfz13_0 := blk_frozen BK173.out 0; have hfz13_1 := blk_frozen BK173.out 1; obtain ⟨hcz14_0, hcz14_1⟩ := c2_ BK174; have hfz14_0 := blk_frozen BK174.out 0; have hfz14_1 := blk_frozen BK174.out 1))
   go_ret
   exact ⟨re_, up_ HB.out⟩
 ·obtain rfl := Option.some.inj H
  go_enter Tryz.func114, Tryz.ntmps114
  go_wp2_with (first | ((refine gd_ 2 ?_); refine bx_ 2 #[.int .u8 a0_0, .int .u8 a0_1] 70 ?_; intro gb173 hg w15 hbox hb; have BK173 := Aside0.mk (hbox); have GW173 := gw_ HB hg; have GE173 := gw_ HB hg; replace HB := bs_ HB hb; clear hb hbox hg) | ((refine gd_ 3 ?_); refine bx_ 3 #[.int .u8 a1_0, .int .u8 a1_1] 70 ?_; intro gb174 hg w16 hbox hb; have BK174 := Aside0.mk (hbox); have GW174 := gw_ HB hg; have GE174 := gw_ HB hg; replace HB := bs_ HB hb; have NB173_174 := Aside0.mk ((by rw [hg]; exact Nat.ne_of_lt (blk_lt (g := gb173) (o := .cells #[.int .u8 a0_0, .int .u8 a0_1] 70 (0, 0)) (up_ BK173.out)) : gb173 ≠ gb174)); have NB174_173 := Aside0.mk ((by rw [hg]; exact Nat.ne_of_gt (blk_lt (g := gb173) (o := .cells #[.int .u8 a0_0, .int .u8 a0_1] 70 (0, 0)) (up_ BK173.out)) : gb174 ≠ gb173)); replace BK173 := bb_ BK173 hb; clear hb hbox hg; have hnb17 := NB173_174.out; have hnc17 := NB174_173.out; obtain ⟨hcz18_0, hcz18_1⟩ := c2_ BK173; have hfz18_0 := blk_frozen BK173.out 0; have hfz18_1 := blk_frozen BK173.out 1; obtain ⟨hcz19_0, hcz19_1⟩ := c2_ BK174; have hfz19_0 := blk_frozen BK174.out 0; have hfz19_1 := blk_frozen BK174.out 1))
  go_ret
  exact ⟨re_, up_ HB.out⟩

/-! ### laws_eqLinkS: function 89 -/
def laws_eqLinkS.l0 : Nat → List (S70) → List (S70) → Int → Option (Bool)
 | 0, _, _, _ => none
 | k + 1, x0, x1, x5 => if x5 < (x0.length : Int) then (if 0 ≤ x5 then (if x5 < (x1.length : Int) then ((laws_eqLink.f ((rd_T70 x0 x5).f0) ((rd_T70 x0 x5).f1) ((rd_T70 x1 x5).f0) ((rd_T70 x1 x5).f1)).bind fun t177 => (if t177 = true then (laws_eqLinkS.l0 k x0 x1 (wrap64 (x5 + 1))) else (some false))) else (none)) else (none)) else (some true)
def laws_eqLinkS.f (k : Nat) (l0 : List (S70)) (l1 : List (S70)) : Option (Bool) := if (l0.length : Int) = (l1.length : Int) then (laws_eqLinkS.l0 k l0 l1 0) else (some false)
theorem laws_eqLinkS.mono_l : ∀ k, (∀ y0 y1 y2, LeO (laws_eqLinkS.l0 k y0 y1 y2) (laws_eqLinkS.l0 (k + 1) y0 y1 y2))
 | 0 => fun _ _ _ r h => by simp [laws_eqLinkS.l0] at h
 | k + 1 => by
  have ih0 := laws_eqLinkS.mono_l k
  ·intro y0 y1 y2
   unfold laws_eqLinkS.l0
   exact mn_
theorem laws_eqLinkS.mono : ∀ a0 a1 k, LeO (laws_eqLinkS.f k a0 a1) (laws_eqLinkS.f (k + 1) a0 a1) := by
 intro a0 a1 k
 have ih0 := laws_eqLinkS.mono_l k
 unfold laws_eqLinkS.f
 exact mn_
def laws_eqLinkS.T6 : Bool × List (List Nat × List Nat) := (true, [([], []), ([], []), ([0, 1], [0, 1]), ([2], [2]), ([], []), ([], []), ([4, 5], [4, 5]), ([6], [6]), ([3, 7], [3, 7]), ([8], [8])])
def laws_eqLinkS.B6 : List Nat := [0, 0, 3, 7, 0, 0, 48, 112, 255, 511]
theorem laws_eqLinkS.tab6 : rtab .any (opsOf Tryz.f89 6) = laws_eqLinkS.T6 := by kernel_rfl
theorem laws_eqLinkS.bits6 : waitsOk laws_eqLinkS.T6.2 laws_eqLinkS.B6 = true := by kernel_rfl
set_option maxHeartbeats 8000000 in
set_option maxRecDepth 100000 in
theorem laws_eqLinkS.calls (k : Nat) (A0 : Option Addr) (c0 : Nat) (l0 : List (S70)) (A1 : Option Addr) (c1 : Nat) (l1 : List (S70)) (r : Bool) (w : World) (hr0 : Kd.C k70 w A0 l0.length l0) (hc0 : l0.length ≤ c0) (hr1 : Kd.C k70 w A1 l1.length l1) (hc1 : l1.length ≤ c1) (h : laws_eqLinkS.f k l0 l1 = some r) :
  Calls Tryz.prog 89 #[.slice A0 l0.length c0, .slice A1 l1.length c1] w fun e w' => e = .returned (.bool r) ∧ Below w.heap.size w w' := by
 have hu70 := Tryz.underlying70
 have HR0 := Aside0.mk hr0
 have HC0 := Aside0.mk hc0
 clear hr0 hc0
 have HR1 := Aside0.mk hr1
 have HC1 := Aside0.mk hc1
 clear hr1 hc1
 have HB := Aside0.mk (Below.refl w.heap.size w)
 have H : (if (l0.length : Int) = (l1.length : Int) then (laws_eqLinkS.l0 k l0 l1 0) else (some false)) = some r := h
 clear h
 replace H := ieq_ H; rcases H with ⟨c3, c3b0, c3b1, H⟩ | ⟨c3, c3b0, c3b1, H⟩
 ·have c3b2 : (l0.length == l1.length) = true := by first | simpa using c3 | (simp at c3 ⊢; omega)
  clear c3
  have H' := Aside0.mk H
  clear H
  go_enter Tryz.func89, Tryz.ntmps89
  go_wp2
  go_loopg [5] k (fun kq v5 w' => ∃ (x5_1 : Int), v5 = .int .i64 x5_1 ∧ Aside0 (laws_eqLinkS.l0 kq l0 l1 x5_1 = some r) ∧ Aside0 (kq ≤ k) ∧ Aside0 (Below w.heap.size w w'))
  case atStart => exact ⟨(0), rs_, H', ⟨Nat.le_refl _⟩, ⟨up_ HB.out⟩⟩
  case round =>
   clear H'
   try clear c1
   try clear p2
   try clear c3
   try clear c3b0
   try clear c3b1
   try clear c3b2
   obtain ⟨x5_1, rfl, HA, HK1, HB⟩ := hrel
   cases gk with
   | zero => exact absurd HA.out (by simp [laws_eqLinkS.l0])
   | succ k1 =>
    have H := HA.out
    clear HA
    simp only [laws_eqLinkS.l0] at H
    replace H := its_ H; rcases H with ⟨c4b0, H⟩ | ⟨c4b0, H⟩
    ·replace H := its_ H; rcases H with ⟨c5b0, H⟩ | ⟨_, ⟨⟩⟩
     replace H := its_ H; rcases H with ⟨c6b0, H⟩ | ⟨_, ⟨⟩⟩
     replace H := bnd_ H; obtain ⟨t177, A7, H⟩ := H
     replace H := itb_ H; rcases H with ⟨rfl, H⟩ | ⟨rfl, H⟩
     ·have H' := Aside0.mk H
      clear H
      try go_wp2
      have n0_ := Aside0.mk (below_drew1 HB.out)
      clear HB
      have HB := n0_
      clear n0_
      have p175 : 0 ≤ (x5_1 : Int) := od_
      have q175 : x5_1 < (l0.length : Int) := od_
      obtain ⟨ad175, e175, hx175_0, hx175_1⟩ := at_T70 HR0.out x5_1 p175 q175
      have hw175_1 := hx175_1
      have hw175_0 := hx175_0
      cases e175
      replace hx175_0 := bh_ HB hx175_0
      replace hx175_1 := bh_ HB hx175_1
      replace p175 := eq_true p175
      replace q175 := eq_true q175
      have p176 : 0 ≤ (x5_1 : Int) := od_
      have q176 : x5_1 < (l1.length : Int) := od_
      obtain ⟨ad176, e176, hx176_0, hx176_1⟩ := at_T70 HR1.out x5_1 p176 q176
      have hw176_1 := hx176_1
      have hw176_0 := hx176_0
      cases e176
      replace hx176_0 := bh_ HB hx176_0
      replace hx176_1 := bh_ HB hx176_1
      replace p176 := eq_true p176
      replace q176 := eq_true q176
      refine start_ (n := 10) (S := fun w' => w'.cell? (ad175.add ((x5_1).toNat * 2)) = some (.int .u8 ((rd_T70 l0 x5_1).f0)) ∧ w'.cell? ⟨(ad175.add ((x5_1).toNat * 2)).block, (ad175.add ((x5_1).toNat * 2)).off + 1, none⟩ = some (.int .u8 ((rd_T70 l0 x5_1).f1)) ∧ w'.cell? (ad176.add ((x5_1).toNat * 2)) = some (.int .u8 ((rd_T70 l1 x5_1).f0)) ∧ w'.cell? ⟨(ad176.add ((x5_1).toNat * 2)).block, (ad176.add ((x5_1).toNat * 2)).off + 1, none⟩ = some (.int .u8 ((rd_T70 l1 x5_1).f1))) (ds := []) #[false, false, false, false, false, false, false, false, false, false] (by kernel_rfl) rfl rfl ⟨(bh_ HB hw175_0 :), (bh_ HB hw175_1 :), (bh_ HB hw176_0 :), (bh_ HB hw176_1 :)⟩ (fun hHeld => ?_); refine with_tabW laws_eqLinkS.tab6 laws_eqLinkS.bits6 (fun HT_ HW_ => ?_)
      generalize wr.drew = w9 at HB hx175_0 hx175_1 hx176_0 hx176_1 hHeld ⊢
      refine pu_ 0 (some 17) ?_
      refine pu_ 1 (some 18) ?_
      refine pu_ 2 (some 19) ?_
      refine pu_ 4 (some 21) ?_
      refine pu_ 5 (some 22) ?_
      refine pu_ 6 (some 23) ?_
      refine tk_ 3 (some 20) hHeld ?_
      refine tk_ 7 (some 24) hHeld ?_
      refine one_ (i := 8) (N := some 25) #[true, true, true, true, true, true, true, true, true, false] rfl rfl (one_of HT_.out (by kernel_rfl)) (by decide) (fun K hK => ?_)
      refine goes_ Tryz.func114 (by kernel_rfl) rfl #[.agg #[.int .u8 ((rd_T70 l0 x5_1).f0), .int .u8 ((rd_T70 l0 x5_1).f1)], .agg #[.int .u8 ((rd_T70 l1 x5_1).f0), .int .u8 ((rd_T70 l1 x5_1).f1)]] (by rfl) rfl rfl am_ ?_
      with_reducible refine (laws_eqLink.calls ((rd_T70 l0 x5_1).f0) ((rd_T70 l0 x5_1).f1) ((rd_T70 l1 x5_1).f0) ((rd_T70 l1 x5_1).f1) true _ A7.out).mono ?_
      rintro e w10 ⟨rfl, hb⟩
      refine ⟨_, rfl, ?_⟩
      have n0_ := bs_ HB hb
      clear HB
      have HB := n0_
      clear n0_
      (try clear hb)
      (try clear hb2)
      (try clear hk)
      (try clear hi)
      refine hK.out _ _ ⟨(bh_ HB hw175_0 :), (bh_ HB hw175_1 :), (bh_ HB hw176_0 :), (bh_ HB hw176_1 :)⟩ (fun hHeld => ?_)
      clear hK K
      refine nm_ ?_
      refine pu_ 9 (some 26) ?_
      refine done_ (done_of HT_.out (by kernel_rfl)) ?_
      try go_wp2
      go_roundg k1
      case measure => have := HK1.out; omega
      case rel => exact ⟨(wrap64 (x5_1 + 1)), rs_, H', ⟨by have := HK1.out; omega⟩, ⟨up_ HB.out⟩⟩
     ·obtain rfl := Option.some.inj H
      try go_wp2
      have n0_ := Aside0.mk (below_drew1 HB.out)
      clear HB
      have HB := n0_
      clear n0_
      have p175 : 0 ≤ (x5_1 : Int) := od_
      have q175 : x5_1 < (l0.length : Int) := od_
      obtain ⟨ad175, e175, hx175_0, hx175_1⟩ := at_T70 HR0.out x5_1 p175 q175
      have hw175_1 := hx175_1
      have hw175_0 := hx175_0
      cases e175
      replace hx175_0 := bh_ HB hx175_0
      replace hx175_1 := bh_ HB hx175_1
      replace p175 := eq_true p175
      replace q175 := eq_true q175
      have p176 : 0 ≤ (x5_1 : Int) := od_
      have q176 : x5_1 < (l1.length : Int) := od_
      obtain ⟨ad176, e176, hx176_0, hx176_1⟩ := at_T70 HR1.out x5_1 p176 q176
      have hw176_1 := hx176_1
      have hw176_0 := hx176_0
      cases e176
      replace hx176_0 := bh_ HB hx176_0
      replace hx176_1 := bh_ HB hx176_1
      replace p176 := eq_true p176
      replace q176 := eq_true q176
      refine start_ (n := 10) (S := fun w' => w'.cell? (ad175.add ((x5_1).toNat * 2)) = some (.int .u8 ((rd_T70 l0 x5_1).f0)) ∧ w'.cell? ⟨(ad175.add ((x5_1).toNat * 2)).block, (ad175.add ((x5_1).toNat * 2)).off + 1, none⟩ = some (.int .u8 ((rd_T70 l0 x5_1).f1)) ∧ w'.cell? (ad176.add ((x5_1).toNat * 2)) = some (.int .u8 ((rd_T70 l1 x5_1).f0)) ∧ w'.cell? ⟨(ad176.add ((x5_1).toNat * 2)).block, (ad176.add ((x5_1).toNat * 2)).off + 1, none⟩ = some (.int .u8 ((rd_T70 l1 x5_1).f1))) (ds := []) #[false, false, false, false, false, false, false, false, false, false] (by kernel_rfl) rfl rfl ⟨(bh_ HB hw175_0 :), (bh_ HB hw175_1 :), (bh_ HB hw176_0 :), (bh_ HB hw176_1 :)⟩ (fun hHeld => ?_); refine with_tabW laws_eqLinkS.tab6 laws_eqLinkS.bits6 (fun HT_ HW_ => ?_)
      generalize wr.drew = w11 at HB hx175_0 hx175_1 hx176_0 hx176_1 hHeld ⊢
      refine pu_ 0 (some 17) ?_
      refine pu_ 1 (some 18) ?_
      refine pu_ 2 (some 19) ?_
      refine pu_ 4 (some 21) ?_
      refine pu_ 5 (some 22) ?_
      refine pu_ 6 (some 23) ?_
      refine tk_ 3 (some 20) hHeld ?_
      refine tk_ 7 (some 24) hHeld ?_
      refine one_ (i := 8) (N := some 25) #[true, true, true, true, true, true, true, true, true, false] rfl rfl (one_of HT_.out (by kernel_rfl)) (by decide) (fun K hK => ?_)
      refine goes_ Tryz.func114 (by kernel_rfl) rfl #[.agg #[.int .u8 ((rd_T70 l0 x5_1).f0), .int .u8 ((rd_T70 l0 x5_1).f1)], .agg #[.int .u8 ((rd_T70 l1 x5_1).f0), .int .u8 ((rd_T70 l1 x5_1).f1)]] (by rfl) rfl rfl am_ ?_
      with_reducible refine (laws_eqLink.calls ((rd_T70 l0 x5_1).f0) ((rd_T70 l0 x5_1).f1) ((rd_T70 l1 x5_1).f0) ((rd_T70 l1 x5_1).f1) false _ A7.out).mono ?_
      rintro e w12 ⟨rfl, hb⟩
      refine ⟨_, rfl, ?_⟩
      have n0_ := bs_ HB hb
      clear HB
      have HB := n0_
      clear n0_
      (try clear hb)
      (try clear hb2)
      (try clear hk)
      (try clear hi)
      refine hK.out _ _ ⟨(bh_ HB hw175_0 :), (bh_ HB hw175_1 :), (bh_ HB hw176_0 :), (bh_ HB hw176_1 :)⟩ (fun hHeld => ?_)
      clear hK K
      refine nm_ ?_
      refine pu_ 9 (some 26) ?_
      refine done_ (done_of HT_.out (by kernel_rfl)) ?_
      try go_wp2
      go_ret
      exact ⟨re_, up_ HB.out⟩
    ·obtain rfl := Option.some.inj H
     go_wp2
     go_ret
     exact ⟨re_, up_ HB.out⟩
 ·have c3b2 : (l0.length == l1.length) = false := by first | simpa using c3 | (simp at c3 ⊢; omega)
  obtain rfl := Option.some.inj H
  go_enter Tryz.func89, Tryz.ntmps89
  go_wp2
  go_ret
  exact ⟨re_, up_ HB.out⟩

/-! ### laws_eqCandidate: function 65 -/
def laws_eqCandidate.f (k : Nat) (l0_0 : List (S70)) (l1_0 : List (S70)) : Option (Bool) := (laws_eqLinkS.f k l0_0 l1_0).bind fun t180 => (if t180 = true then (some true) else (some false))
theorem laws_eqCandidate.mono : ∀ a0 a1 k, LeO (laws_eqCandidate.f k a0 a1) (laws_eqCandidate.f (k + 1) a0 a1) := by
 intro a0 a1 k
 unfold laws_eqCandidate.f
 have m0 := laws_eqLinkS.mono
 exact mn_
set_option maxHeartbeats 8000000 in
set_option maxRecDepth 100000 in
theorem laws_eqCandidate.calls (k : Nat) (A0_0 : Option Addr) (c0_0 : Nat) (l0_0 : List (S70)) (A1_0 : Option Addr) (c1_0 : Nat) (l1_0 : List (S70)) (r : Bool) (w : World) (hr0_0 : Kd.C k70 w A0_0 l0_0.length l0_0) (hc0_0 : l0_0.length ≤ c0_0) (hr1_0 : Kd.C k70 w A1_0 l1_0.length l1_0) (hc1_0 : l1_0.length ≤ c1_0) (h : laws_eqCandidate.f k l0_0 l1_0 = some r) :
  Calls Tryz.prog 65 #[.agg #[.slice A0_0 l0_0.length c0_0], .agg #[.slice A1_0 l1_0.length c1_0]] w fun e w' => e = .returned (.bool r) ∧ Below w.heap.size w w' := by
 have hu50 := Tryz.underlying50
 have HR0_0 := Aside0.mk hr0_0
 have HC0_0 := Aside0.mk hc0_0
 clear hr0_0 hc0_0
 have HR1_0 := Aside0.mk hr1_0
 have HC1_0 := Aside0.mk hc1_0
 clear hr1_0 hc1_0
 have HB := Aside0.mk (Below.refl w.heap.size w)
 have H : ((laws_eqLinkS.f k l0_0 l1_0).bind fun t180 => (if t180 = true then (some true) else (some false))) = some r := h
 clear h
 replace H := bnd_ H; obtain ⟨t180, A3, H⟩ := H
 replace H := itb_ H; rcases H with ⟨rfl, H⟩ | ⟨rfl, H⟩
 ·obtain rfl := Option.some.inj H
  go_enter Tryz.func65, Tryz.ntmps65
  go_wp2_with (first | ((refine gd_ 2 ?_); refine bx_ 2 #[.slice A0_0 l0_0.length c0_0] 50 ?_; intro gb178 hg w5 hbox hb; have BK178 := Aside0.mk (hbox); have GW178 := gw_ HB hg; have GE178 := gw_ HB hg; replace HB := bs_ HB hb; clear hb hbox hg) | ((refine gd_ 3 ?_); refine bx_ 3 #[.slice A1_0 l1_0.length c1_0] 50 ?_; intro gb179 hg w6 hbox hb; have BK179 := Aside0.mk (hbox); have GW179 := gw_ HB hg; have GE179 := gw_ HB hg; replace HB := bs_ HB hb; have NB178_179 := Aside0.mk ((by rw [hg]; exact Nat.ne_of_lt (blk_lt (g := gb178) (o := .cells #[.slice A0_0 l0_0.length c0_0] 50 (0, 0)) (up_ BK178.out)) : gb178 ≠ gb179)); have NB179_178 := Aside0.mk ((by rw [hg]; exact Nat.ne_of_gt (blk_lt (g := gb178) (o := .cells #[.slice A0_0 l0_0.length c0_0] 50 (0, 0)) (up_ BK178.out)) : gb179 ≠ gb178)); replace BK178 := bb_ BK178 hb; clear hb hbox hg; have hnb7 := NB178_179.out; have hnc7 := NB179_178.out; have hcz8_0 := c1_ BK178; have hfz8_0 := blk_frozen BK178.out 0; have hcz9_0 := c1_ BK179; have hfz9_0 := blk_frozen BK179.out 0) | ((refine gc_ 89 ?_); refine gl_ (some 9) Tryz.func89 (laws_eqLinkS.calls k _ _ l0_0 _ _ l1_0 true _ (Kd.C_below HR0_0.out (up_ HB.out)) HC0_0.out (Kd.C_below HR1_0.out (up_ HB.out)) HC1_0.out A3.out) ?_; rintro e w10 ⟨rfl, hb⟩; refine ⟨_, rfl, ?_⟩; replace BK178 := bb_ BK178 hb; replace BK179 := bb_ BK179 hb; replace HB := bs_ HB hb; (try clear hb); (try clear hb2); (try clear hk); (try clear hi)))
  go_ret
  exact ⟨re_, up_ HB.out⟩
 ·obtain rfl := Option.some.inj H
  go_enter Tryz.func65, Tryz.ntmps65
  go_wp2_with (first | ((refine gd_ 2 ?_); refine bx_ 2 #[.slice A0_0 l0_0.length c0_0] 50 ?_; intro gb178 hg w11 hbox hb; have BK178 := Aside0.mk (hbox); have GW178 := gw_ HB hg; have GE178 := gw_ HB hg; replace HB := bs_ HB hb; clear hb hbox hg) | ((refine gd_ 3 ?_); refine bx_ 3 #[.slice A1_0 l1_0.length c1_0] 50 ?_; intro gb179 hg w12 hbox hb; have BK179 := Aside0.mk (hbox); have GW179 := gw_ HB hg; have GE179 := gw_ HB hg; replace HB := bs_ HB hb; have NB178_179 := Aside0.mk ((by rw [hg]; exact Nat.ne_of_lt (blk_lt (g := gb178) (o := .cells #[.slice A0_0 l0_0.length c0_0] 50 (0, 0)) (up_ BK178.out)) : gb178 ≠ gb179)); have NB179_178 := Aside0.mk ((by rw [hg]; exact Nat.ne_of_gt (blk_lt (g := gb178) (o := .cells #[.slice A0_0 l0_0.length c0_0] 50 (0, 0)) (up_ BK178.out)) : gb179 ≠ gb178)); replace BK178 := bb_ BK178 hb; clear hb hbox hg; have hnb13 := NB178_179.out; have hnc13 := NB179_178.out; have hcz14_0 := c1_ BK178; have hfz14_0 := blk_frozen BK178.out 0; have hcz15_0 := c1_ BK179; have hfz15_0 := blk_frozen BK179.out 0) | ((refine gc_ 89 ?_); refine gl_ (some 9) Tryz.func89 (laws_eqLinkS.calls k _ _ l0_0 _ _ l1_0 false _ (Kd.C_below HR0_0.out (up_ HB.out)) HC0_0.out (Kd.C_below HR1_0.out (up_ HB.out)) HC1_0.out A3.out) ?_; rintro e w16 ⟨rfl, hb⟩; refine ⟨_, rfl, ?_⟩; replace BK178 := bb_ BK178 hb; replace BK179 := bb_ BK179 hb; replace HB := bs_ HB hb; (try clear hb); (try clear hb2); (try clear hk); (try clear hi)))
  go_ret
  exact ⟨re_, up_ HB.out⟩

end Go.Proofs.YtkddpilambnicaaGreat.PFnExactWeightedWinners
