/- Walks of Go functions that the law FnExactHearRow uses: written by this session's program out of the kit's printer; each shows that a call comes to the answers of the Lean function beside it. Conditions: each contract's own. -/
import Derived.Test.YtkddpilambnicaaPFnExactHearRowx0
namespace Go.Proofs.Ytkddpilambnicaa.PFnExactHearRow
open Go.RowKit Go.Proofs.YtkddpilambnicaaW.PrintWords Go.Proofs.YtkddpilambnicaaW.PrintLast Go.Proofs.YtkddpilambnicaaW.PrintMore Go.Proofs.Ytkddpilambnicaa.Mac Go.Proofs.Ytkddpilambnicaa.Law
attribute [local go_sem] max2_int min2_int max_two min_two max_three min_three max_four min_four   -- for this text's walks alone
set_option linter.unusedVariables false
set_option linter.unusedSimpArgs false

/-! ### laws_szIntS: function 75 -/
def laws_szIntS.f (l0 : List Int) (a1 : Int) : Option (Int) := if (wrap64 (a1 - (l0.length : Int))) < 0 then (some (-1)) else (some (wrap64 (a1 - (l0.length : Int))))
set_option maxHeartbeats 8000000 in
set_option maxRecDepth 100000 in
theorem laws_szIntS.calls (A0 : Option Addr) (c0 : Nat) (l0 : List Int) (a1 : Int) (r : Int) (w : World) (hr0 : Kd.C (Kd.int .i64) w A0 l0.length l0) (hc0 : l0.length ≤ c0) (h : laws_szIntS.f l0 a1 = some r) :
  Calls Try.prog 75 #[.slice A0 l0.length c0, .int .i64 a1] w fun e w' => e = .returned (.int .i64 r) ∧ Drawn0 w w' := by
 have HR0 := Aside0.mk hr0
 have HC0 := Aside0.mk hc0
 clear hr0 hc0
 have H : (if (wrap64 (a1 - (l0.length : Int))) < 0 then (some (-1)) else (some (wrap64 (a1 - (l0.length : Int))))) = some r := h
 clear h
 replace H := its_ H; rcases H with ⟨c3b0, H⟩ | ⟨c3b0, H⟩
 ·obtain rfl := Option.some.inj H
  go_enter Try.func75, Try.ntmps75
  go_wp2
  go_ret
  exact ⟨rs_, dn_⟩
 ·obtain rfl := Option.some.inj H
  go_enter Try.func75, Try.ntmps75
  go_wp2
  go_ret
  exact ⟨rs_, dn_⟩

/-! ### laws_szIntSS: function 29 -/
def laws_szIntSS.l0 : Nat → List (List Int) → Int → Int → Option (Int)
 | 0, _, _, _ => none
 | k + 1, x0, x1, x5 => if x5 < (x0.length : Int) then (if 0 ≤ x5 then ((laws_szIntS.f (rd_L1 x0 x5) x1).bind fun t102 => (if t102 < 0 then (some (-1)) else (laws_szIntSS.l0 k x0 t102 (wrap64 (x5 + 1))))) else (none)) else (some x1)
def laws_szIntSS.f (k : Nat) (l0 : List (List Int)) (a1 : Int) : Option (Int) := if (wrap64 (a1 - (l0.length : Int))) < 0 then (some (-1)) else (laws_szIntSS.l0 k l0 (wrap64 (a1 - (l0.length : Int))) 0)
set_option maxHeartbeats 8000000 in
set_option maxRecDepth 100000 in
theorem laws_szIntSS.calls (k : Nat) (A0 : Option Addr) (c0 : Nat) (l0 : List (List Int)) (a1 : Int) (r : Int) (w : World) (hr0 : Kd.C (Kd.slice 3 (Kd.int .i64)) w A0 l0.length l0) (hc0 : l0.length ≤ c0) (h : laws_szIntSS.f k l0 a1 = some r) :
  Calls Try.prog 29 #[.slice A0 l0.length c0, .int .i64 a1] w fun e w' => e = .returned (.int .i64 r) ∧ Drawn0 w w' := by
 have HR0 := Aside0.mk hr0
 have HC0 := Aside0.mk hc0
 clear hr0 hc0
 have H : (if (wrap64 (a1 - (l0.length : Int))) < 0 then (some (-1)) else (laws_szIntSS.l0 k l0 (wrap64 (a1 - (l0.length : Int))) 0)) = some r := h
 clear h
 replace H := its_ H; rcases H with ⟨c3b0, H⟩ | ⟨c3b0, H⟩
 ·obtain rfl := Option.some.inj H
  go_enter Try.func29, Try.ntmps29
  go_wp2
  go_ret
  exact ⟨rs_, dn_⟩
 ·have H' := Aside0.mk H
  clear H
  go_enter Try.func29, Try.ntmps29
  go_wp2
  go_loopg [1, 5] k (fun kq v1 v5 w' => ∃ (x1_1 : Int) (x5_1 : Int), v1 = .int .i64 x1_1 ∧ v5 = .int .i64 x5_1 ∧ Aside0 (laws_szIntSS.l0 kq l0 x1_1 x5_1 = some r) ∧ Aside0 (kq ≤ k) ∧ Drawn0 w w')
  case atStart => exact ⟨(wrap64 (a1 - (l0.length : Int))), (0), rs_, rs_, H', ⟨Nat.le_refl _⟩, dn_⟩
  case round =>
   clear H'
   try clear c2
   try clear p2
   try clear c3
   try clear c3b0
   obtain ⟨x1_1, x5_1, rfl, rfl, HA, HK1, ⟨m1, rfl⟩⟩ := hrel
   cases gk with
   | zero => exact absurd HA.out (by simp [laws_szIntSS.l0])
   | succ k1 =>
    have H := HA.out
    clear HA
    simp only [laws_szIntSS.l0] at H
    replace H := its_ H; rcases H with ⟨c4b0, H⟩ | ⟨c4b0, H⟩
    ·replace H := its_ H; rcases H with ⟨c5b0, H⟩ | ⟨_, ⟨⟩⟩
     replace H := bnd_ H; obtain ⟨t102, A6, H⟩ := H
     replace H := its_ H; rcases H with ⟨c7b0, H⟩ | ⟨c7b0, H⟩
     ·obtain rfl := Option.some.inj H
      have p101 : 0 ≤ (x5_1 : Int) := od_
      have q101 : x5_1 < (l0.length : Int) := od_
      obtain ⟨ad101, A101_0, c101_0, e101, hx101_0, hl101_0, hi101_0⟩ := at_L1 HR0.out x5_1 p101 q101
      cases e101
      have HR101_0 := Aside0.mk hi101_0
      have HC101_0 := Aside0.mk hl101_0
      clear hi101_0 hl101_0
      replace p101 := eq_true p101
      replace q101 := eq_true q101
      go_wp2_with (first | ((refine gc_ 75 ?_); refine goesL_ (some 23) rfl rfl Try.func75 (by kernel_rfl) rfl #[.slice A101_0 (rd_L1 l0 x5_1).length c101_0, .int .i64 x1_1] rfl am_ ?_; (with_reducible refine (laws_szIntS.calls _ _ (rd_L1 l0 x5_1) x1_1 t102 _ ?side1 ?side2 A6.out).mono ?_); (case side1 => repeat (first | exact HR101_0.out | (with_reducible refine Kd.C_alloc ?_ _) | (with_reducible refine Kd.C_drewN ?_ _) | (with_reducible refine Kd.C_drew ?_))); (case side2 => exact HC101_0.out); rintro e w' ⟨rfl, ⟨nd, rfl⟩⟩; refine ⟨_, rfl, ?_⟩))
      go_ret
      exact ⟨rs_, dn_⟩
     ·have H' := Aside0.mk H
      clear H
      have p101 : 0 ≤ (x5_1 : Int) := od_
      have q101 : x5_1 < (l0.length : Int) := od_
      obtain ⟨ad101, A101_0, c101_0, e101, hx101_0, hl101_0, hi101_0⟩ := at_L1 HR0.out x5_1 p101 q101
      cases e101
      have HR101_0 := Aside0.mk hi101_0
      have HC101_0 := Aside0.mk hl101_0
      clear hi101_0 hl101_0
      replace p101 := eq_true p101
      replace q101 := eq_true q101
      go_wp2_with (first | ((refine gc_ 75 ?_); refine goesL_ (some 23) rfl rfl Try.func75 (by kernel_rfl) rfl #[.slice A101_0 (rd_L1 l0 x5_1).length c101_0, .int .i64 x1_1] rfl am_ ?_; (with_reducible refine (laws_szIntS.calls _ _ (rd_L1 l0 x5_1) x1_1 t102 _ ?side1 ?side2 A6.out).mono ?_); (case side1 => repeat (first | exact HR101_0.out | (with_reducible refine Kd.C_alloc ?_ _) | (with_reducible refine Kd.C_drewN ?_ _) | (with_reducible refine Kd.C_drew ?_))); (case side2 => exact HC101_0.out); rintro e w' ⟨rfl, ⟨nd, rfl⟩⟩; refine ⟨_, rfl, ?_⟩))
      go_roundg k1
      case measure => have := HK1.out; omega
      case rel => exact ⟨(t102), (wrap64 (x5_1 + 1)), rs_, rs_, H', ⟨by have := HK1.out; omega⟩, dn_⟩
    ·obtain rfl := Option.some.inj H
     go_wp2
     go_ret
     exact ⟨rs_, dn_⟩

/-! ### laws_szLearner: function 12 -/
def laws_szLearner.f (k : Nat) (a0_0 : Int) (l0_1 : List (List Int)) (a0_2 : Int) (a1 : Int) : Option (Int) := (laws_szIntSS.f k l0_1 a1).bind fun t104 => (if t104 < 0 then (some (-1)) else (some t104))
set_option maxHeartbeats 8000000 in
set_option maxRecDepth 100000 in
theorem laws_szLearner.calls (k : Nat) (a0_0 : Int) (A0_1 : Option Addr) (c0_1 : Nat) (l0_1 : List (List Int)) (a0_2 : Int) (a1 : Int) (r : Int) (w : World) (hr0_1 : Kd.C (Kd.slice 3 (Kd.int .i64)) w A0_1 l0_1.length l0_1) (hc0_1 : l0_1.length ≤ c0_1) (h : laws_szLearner.f k a0_0 l0_1 a0_2 a1 = some r) :
  Calls Try.prog 12 #[.agg #[.int .i64 a0_0, .slice A0_1 l0_1.length c0_1, .int .i64 a0_2], .int .i64 a1] w fun e w' => e = .returned (.int .i64 r) ∧ Below w.heap.size w w' := by
 have hu24 := Try.underlying24
 have HR0_1 := Aside0.mk hr0_1
 have HC0_1 := Aside0.mk hc0_1
 clear hr0_1 hc0_1
 have HB := Aside0.mk (Below.refl w.heap.size w)
 have H : ((laws_szIntSS.f k l0_1 a1).bind fun t104 => (if t104 < 0 then (some (-1)) else (some t104))) = some r := h
 clear h
 replace H := bnd_ H; obtain ⟨t104, A3, H⟩ := H
 replace H := its_ H; rcases H with ⟨c4b0, H⟩ | ⟨c4b0, H⟩
 ·obtain rfl := Option.some.inj H
  go_enter Try.func12, Try.ntmps12
  go_wp2_with (first | ((refine gd_ 2 ?_); refine bx_ 2 #[.int .i64 a0_0, .slice A0_1 l0_1.length c0_1, .int .i64 a0_2] 24 ?_; intro gb103 hg w5 hbox hb; have BK103 := Aside0.mk (hbox); have GW103 := gw_ HB hg; have GE103 := gw_ HB hg; replace HB := bs_ HB hb; clear hb hbox hg; obtain ⟨hcz6_0, hcz6_1, hcz6_2⟩ := c3_ BK103; have hfz6_0 := blk_frozen BK103.out 0; have hfz6_1 := blk_frozen BK103.out 1; have hfz6_2 := blk_frozen BK103.out 2) | ((refine gc_ 29 ?_); refine gq_ (some 8) Try.func29 (laws_szIntSS.calls k _ _ l0_1 a1 t104 _ (Kd.C_below HR0_1.out (up_ HB.out)) HC0_1.out A3.out) (fun nd => ?_)))
  go_ret
  exact ⟨re_, up_ HB.out⟩
 ·obtain rfl := Option.some.inj H
  go_enter Try.func12, Try.ntmps12
  go_wp2_with (first | ((refine gd_ 2 ?_); refine bx_ 2 #[.int .i64 a0_0, .slice A0_1 l0_1.length c0_1, .int .i64 a0_2] 24 ?_; intro gb103 hg w7 hbox hb; have BK103 := Aside0.mk (hbox); have GW103 := gw_ HB hg; have GE103 := gw_ HB hg; replace HB := bs_ HB hb; clear hb hbox hg; obtain ⟨hcz8_0, hcz8_1, hcz8_2⟩ := c3_ BK103; have hfz8_0 := blk_frozen BK103.out 0; have hfz8_1 := blk_frozen BK103.out 1; have hfz8_2 := blk_frozen BK103.out 2) | ((refine gc_ 29 ?_); refine gq_ (some 8) Try.func29 (laws_szIntSS.calls k _ _ l0_1 a1 t104 _ (Kd.C_below HR0_1.out (up_ HB.out)) HC0_1.out A3.out) (fun nd => ?_)))
  go_ret
  exact ⟨re_, up_ HB.out⟩

/-! ### laws_szRow: function 13 -/
def laws_szRow.f (l0_0 : List Int) (a1 : Int) : Option (Int) := (laws_szIntS.f l0_0 a1).bind fun t106 => (if t106 < 0 then (some (-1)) else (some t106))
set_option maxHeartbeats 8000000 in
set_option maxRecDepth 100000 in
theorem laws_szRow.calls (A0_0 : Option Addr) (c0_0 : Nat) (l0_0 : List Int) (a1 : Int) (r : Int) (w : World) (hr0_0 : Kd.C (Kd.int .i64) w A0_0 l0_0.length l0_0) (hc0_0 : l0_0.length ≤ c0_0) (h : laws_szRow.f l0_0 a1 = some r) :
  Calls Try.prog 13 #[.agg #[.slice A0_0 l0_0.length c0_0], .int .i64 a1] w fun e w' => e = .returned (.int .i64 r) ∧ Below w.heap.size w w' := by
 have hu27 := Try.underlying27
 have HR0_0 := Aside0.mk hr0_0
 have HC0_0 := Aside0.mk hc0_0
 clear hr0_0 hc0_0
 have HB := Aside0.mk (Below.refl w.heap.size w)
 have H : ((laws_szIntS.f l0_0 a1).bind fun t106 => (if t106 < 0 then (some (-1)) else (some t106))) = some r := h
 clear h
 replace H := bnd_ H; obtain ⟨t106, A3, H⟩ := H
 replace H := its_ H; rcases H with ⟨c4b0, H⟩ | ⟨c4b0, H⟩
 ·obtain rfl := Option.some.inj H
  go_enter Try.func13, Try.ntmps13
  go_wp2_with (first | ((refine gd_ 2 ?_); refine bx_ 2 #[.slice A0_0 l0_0.length c0_0] 27 ?_; intro gb105 hg w5 hbox hb; have BK105 := Aside0.mk (hbox); have GW105 := gw_ HB hg; have GE105 := gw_ HB hg; replace HB := bs_ HB hb; clear hb hbox hg; have hcz6_0 := c1_ BK105; have hfz6_0 := blk_frozen BK105.out 0) | ((refine gc_ 75 ?_); refine gq_ (some 8) Try.func75 (laws_szIntS.calls _ _ l0_0 a1 t106 _ (Kd.C_below HR0_0.out (up_ HB.out)) HC0_0.out A3.out) (fun nd => ?_)))
  go_ret
  exact ⟨re_, up_ HB.out⟩
 ·obtain rfl := Option.some.inj H
  go_enter Try.func13, Try.ntmps13
  go_wp2_with (first | ((refine gd_ 2 ?_); refine bx_ 2 #[.slice A0_0 l0_0.length c0_0] 27 ?_; intro gb105 hg w7 hbox hb; have BK105 := Aside0.mk (hbox); have GW105 := gw_ HB hg; have GE105 := gw_ HB hg; replace HB := bs_ HB hb; clear hb hbox hg; have hcz8_0 := c1_ BK105; have hfz8_0 := blk_frozen BK105.out 0) | ((refine gc_ 75 ?_); refine gq_ (some 8) Try.func75 (laws_szIntS.calls _ _ l0_0 a1 t106 _ (Kd.C_below HR0_0.out (up_ HB.out)) HC0_0.out A3.out) (fun nd => ?_)))
  go_ret
  exact ⟨re_, up_ HB.out⟩

/-! ### spec_l22Copy: function 76 -/
def spec_l22Copy.l0 : Nat → Int → Int → List (List Int) → Int → Int → List (List Int) → Int → Option (Int × (List (List Int)) × Int)
 | 0, _, _, _, _, _, _, _ => none
 | k + 1, x4, x108000, x108001, x108002, x110000, x110001, x110002 => if x4 < (x108001.length : Int) then ((some (([] : List Int) : List Int)).bind fun y110 => (if 0 ≤ x4 then (if y110.length + (rd_L1 x108001 x4).length < 17592186044416 then (if x110001.length < 5864062014805 then (spec_l22Copy.l0 k (wrap64 (x4 + 1)) x108000 x108001 x108002 x110000 (x110001 ++ [(y110 ++ (rd_L1 x108001 x4))]) x110002) else (none)) else (none)) else (none))) else (some (x110000, x110001, x110002))
def spec_l22Copy.f (k : Nat) (a0_0 : Int) (l0_1 : List (List Int)) (a0_2 : Int) : Option (Int × (List (List Int)) × Int) := spec_l22Copy.l0 k 0 a0_0 l0_1 a0_2 a0_0 ([] : List (List Int)) a0_2
def spec_l22Copy.T5 : Bool × List (List Nat × List Nat) := (true, [([], []), ([0], [0]), ([], []), ([], []), ([3], [3]), ([], []), ([4, 5], [4, 5]), ([6], [6]), ([2, 7], [2, 7]), ([8], [8]), ([1, 9, 8], [1, 9]), ([0, 1, 2, 3, 4, 5, 6, 7, 8, 9, 10], []), ([11, 10, 10, 0, 1, 2, 3, 4, 5, 6, 7, 8, 9, 10], [10, 11])])
def spec_l22Copy.B5 : List Nat := [0, 1, 0, 0, 8, 0, 56, 120, 252, 508, 1023, 2047, 4095]
theorem spec_l22Copy.tab5 : rtab .any (opsOf Try.f76 5) = spec_l22Copy.T5 := by kernel_rfl
theorem spec_l22Copy.bits5 : waitsOk spec_l22Copy.T5.2 spec_l22Copy.B5 = true := by kernel_rfl
set_option maxHeartbeats 8000000 in
set_option maxRecDepth 100000 in
theorem spec_l22Copy.calls (k : Nat) (a0_0 : Int) (A0_1 : Option Addr) (c0_1 : Nat) (l0_1 : List (List Int)) (a0_2 : Int) (r1 : Int) (r2 : List (List Int)) (r3 : Int) (w : World) (hr0_1 : Kd.C (Kd.slice 3 (Kd.int .i64)) w A0_1 l0_1.length l0_1) (hc0_1 : l0_1.length ≤ c0_1) (h : spec_l22Copy.f k a0_0 l0_1 a0_2 = some (r1, r2, r3)) :
  Calls Try.prog 76 #[.agg #[.int .i64 a0_0, .slice A0_1 l0_1.length c0_1, .int .i64 a0_2]] w fun e w' => ∃ v1_ : Value, e = .returned (.agg #[.int .i64 r1, v1_, .int .i64 r3]) ∧ Kd.S (Kd.slice 3 (Kd.int .i64)) 25 w' w.heap.size (fun _ => True) v1_ r2 ∧ Below w.heap.size w w' := by
 have hu30 := Try.underlying30
 have HR0_1 := Aside0.mk hr0_1
 have HC0_1 := Aside0.mk hc0_1
 clear hr0_1 hc0_1
 have HB := Aside0.mk (Below.refl w.heap.size w)
 have H : (spec_l22Copy.l0 k 0 a0_0 l0_1 a0_2 a0_0 ([] : List (List Int)) a0_2) = some (r1, r2, r3) := h
 clear h
 have H' := Aside0.mk H
 clear H
 go_enter Try.func76, Try.ntmps76
 go_wp2_with (first | ((refine gd_ 1 ?_); refine bx_ 1 #[.int .i64 a0_0, .slice A0_1 l0_1.length c0_1, .int .i64 a0_2] 30 ?_; intro gb107 hg w2 hbox hb; have BK107 := Aside0.mk (hbox); have GW107 := gw_ HB hg; have GE107 := gw_ HB hg; replace HB := bs_ HB hb; clear hb hbox hg) | ((refine gd_ 2 ?_); refine bx_ 2 #[.int .i64 0, .slice none 0 0, .int .i64 0] 30 ?_; intro gb108 hg w3 hbox hb; have BK108 := Aside0.mk (hbox); have GW108 := gw_ HB hg; have GE108 := gw_ HB hg; replace HB := bs_ HB hb; have NB107_108 := Aside0.mk ((by rw [hg]; exact Nat.ne_of_lt (blk_lt (g := gb107) (o := .cells #[.int .i64 a0_0, .slice A0_1 l0_1.length c0_1, .int .i64 a0_2] 30 (0, 0)) (up_ BK107.out)) : gb107 ≠ gb108)); have NB108_107 := Aside0.mk ((by rw [hg]; exact Nat.ne_of_gt (blk_lt (g := gb107) (o := .cells #[.int .i64 a0_0, .slice A0_1 l0_1.length c0_1, .int .i64 a0_2] 30 (0, 0)) (up_ BK107.out)) : gb108 ≠ gb107)); replace BK107 := bb_ BK107 hb; clear hb hbox hg; have hnb4 := NB107_108.out; have hnc4 := NB108_107.out; obtain ⟨hcz5_0, hcz5_1, hcz5_2⟩ := c3_ BK107; have hfz5_0 := blk_frozen BK107.out 0; have hfz5_1 := blk_frozen BK107.out 1; have hfz5_2 := blk_frozen BK107.out 2) | ((refine gd_ 3 ?_); refine bx_ 3 #[.int .i64 0, .slice none 0 0, .int .i64 0] 30 ?_; intro gb109 hg w6 hbox hb; have BK109 := Aside0.mk (hbox); have GW109 := gw_ HB hg; have GE109 := gw_ HB hg; replace HB := bs_ HB hb; have NB107_109 := Aside0.mk ((by rw [hg]; exact Nat.ne_of_lt (blk_lt (g := gb107) (o := .cells #[.int .i64 a0_0, .slice A0_1 l0_1.length c0_1, .int .i64 a0_2] 30 (0, 0)) (up_ BK107.out)) : gb107 ≠ gb109)); have NB109_107 := Aside0.mk ((by rw [hg]; exact Nat.ne_of_gt (blk_lt (g := gb107) (o := .cells #[.int .i64 a0_0, .slice A0_1 l0_1.length c0_1, .int .i64 a0_2] 30 (0, 0)) (up_ BK107.out)) : gb109 ≠ gb107)); replace BK107 := bb_ BK107 hb; have NB108_109 := Aside0.mk ((by rw [hg]; exact Nat.ne_of_lt (blk_lt (g := gb108) (o := .cells #[.int .i64 0, .slice none 0 0, .int .i64 0] 30 (0, 0)) (up_ BK108.out)) : gb108 ≠ gb109)); have NB109_108 := Aside0.mk ((by rw [hg]; exact Nat.ne_of_gt (blk_lt (g := gb108) (o := .cells #[.int .i64 0, .slice none 0 0, .int .i64 0] 30 (0, 0)) (up_ BK108.out)) : gb109 ≠ gb108)); replace BK108 := bb_ BK108 hb; clear hb hbox hg; have hnb7 := NB109_107.out; have hnc7 := NB107_109.out; have hnb8 := NB109_108.out; have hnc8 := NB108_109.out; obtain ⟨hcz9_0, hcz9_1, hcz9_2⟩ := c3_ BK109; have hfz9_0 := blk_frozen BK109.out 0; have hfz9_1 := blk_frozen BK109.out 1; have hfz9_2 := blk_frozen BK109.out 2))
 go_loopg [4] k (fun kq v4 w' => ∃ (x4_1 : Int) (x110001_1 : List (List Int)) (u110001 : Value), v4 = .int .i64 x4_1 ∧ Aside0 (spec_l22Copy.l0 kq x4_1 a0_0 l0_1 a0_2 a0_0 x110001_1 a0_2 = some (r1, r2, r3)) ∧ Aside0 (kq ≤ k) ∧ Aside0 (Kd.S (Kd.slice 3 (Kd.int .i64)) 25 w' w.heap.size (fun _ => True) u110001 x110001_1) ∧ Aside0 (w'.heap[gb107]? = some (.cells #[.int .i64 a0_0, (.slice A0_1 l0_1.length c0_1), .int .i64 a0_2] 30 (0, 0))) ∧ Aside0 (w'.heap[gb108]? = some (.cells #[.int .i64 0, (.slice none 0 0), .int .i64 0] 30 (0, 0))) ∧ Aside0 (w'.heap[gb109]? = some (.cells #[.int .i64 a0_0, u110001, .int .i64 a0_2] 30 (0, 0))) ∧ Aside0 (Below w.heap.size w w'))
 case atStart => exact ⟨(0), (([] : List (List Int))), (.slice none 0 0), rs_, H', ⟨Nat.le_refl _⟩, ⟨by first | exact Kd.S_nil _ _ _ _ _ | exact Kd.N_nil _ _ _ _ _ | exact Kd.V_nil _ _ _ _ _ | exact Kd.Q_nil _ _ _ _ _ | exact Kd.R_nil _ _ _ _ _⟩, ⟨by (with_reducible repeat (first | refine blk_drewN ?_ _ | refine blk_drew ?_ | refine blk_alloc ?_ _)); refine blk_far ?_ NB107_109.out _; (with_reducible repeat (first | refine blk_drewN ?_ _ | refine blk_drew ?_ | refine blk_alloc ?_ _)); refine blk_far ?_ NB107_109.out _; (with_reducible repeat (first | refine blk_drewN ?_ _ | refine blk_drew ?_ | refine blk_alloc ?_ _)); refine blk_far ?_ NB107_109.out _; (with_reducible repeat (first | refine blk_drewN ?_ _ | refine blk_drew ?_ | refine blk_alloc ?_ _)); exact BK107.out⟩, ⟨by (with_reducible repeat (first | refine blk_drewN ?_ _ | refine blk_drew ?_ | refine blk_alloc ?_ _)); refine blk_far ?_ NB108_109.out _; (with_reducible repeat (first | refine blk_drewN ?_ _ | refine blk_drew ?_ | refine blk_alloc ?_ _)); refine blk_far ?_ NB108_109.out _; (with_reducible repeat (first | refine blk_drewN ?_ _ | refine blk_drew ?_ | refine blk_alloc ?_ _)); refine blk_far ?_ NB108_109.out _; (with_reducible repeat (first | refine blk_drewN ?_ _ | refine blk_drew ?_ | refine blk_alloc ?_ _)); exact BK108.out⟩, ⟨by (with_reducible repeat (first | refine blk_drewN ?_ _ | refine blk_drew ?_ | refine blk_alloc ?_ _)); refine blk_put (cs := #[.int .i64 a0_0, .slice none 0 0, .int .i64 0]) ?_ 2 _ rfl; (with_reducible repeat (first | refine blk_drewN ?_ _ | refine blk_drew ?_ | refine blk_alloc ?_ _)); refine blk_put (cs := #[.int .i64 a0_0, .slice none 0 0, .int .i64 0]) ?_ 1 _ rfl; (with_reducible repeat (first | refine blk_drewN ?_ _ | refine blk_drew ?_ | refine blk_alloc ?_ _)); refine blk_put (cs := #[.int .i64 0, .slice none 0 0, .int .i64 0]) ?_ 0 _ rfl; (with_reducible repeat (first | refine blk_drewN ?_ _ | refine blk_drew ?_ | refine blk_alloc ?_ _)); exact BK109.out⟩, ⟨up_ HB.out⟩⟩
 case round =>
  clear H'
  try clear p2
  try clear c4
  try clear c7
  try clear c8
  try clear hcz5_0
  try clear hcz5_1
  try clear hcz5_2
  try clear hcz9_0
  try clear hcz9_1
  try clear hcz9_2
  try clear hfz5_0
  try clear hfz5_1
  try clear hfz5_2
  try clear hfz9_0
  try clear hfz9_1
  try clear hfz9_2
  obtain ⟨x4_1, x110001_1, u110001, rfl, HA, HK1, HO_110001, BK107, BK108, BK109, HB⟩ := hrel
  cases gk with
  | zero => exact absurd HA.out (by simp [spec_l22Copy.l0])
  | succ k1 =>
   have H := HA.out
   clear HA
   simp only [spec_l22Copy.l0] at H
   replace H := its_ H; rcases H with ⟨c10b0, H⟩ | ⟨c10b0, H⟩
   ·obtain ⟨y110, hy110⟩ : ∃ y_ : List Int, y_ = (([] : List Int)) := ⟨_, rfl⟩
    replace H : (if 0 ≤ x4_1 then (if y110.length + (rd_L1 l0_1 x4_1).length < 17592186044416 then (if x110001_1.length < 5864062014805 then (spec_l22Copy.l0 k1 (wrap64 (x4_1 + 1)) a0_0 l0_1 a0_2 a0_0 (x110001_1 ++ [(y110 ++ (rd_L1 l0_1 x4_1))]) a0_2) else (none)) else (none)) else (none)) = some (r1, r2, r3) := rh_ hy110 H
    have Ny110 := Aside0.mk hy110
    clear hy110
    replace H := its_ H; rcases H with ⟨c11b0, H⟩ | ⟨_, ⟨⟩⟩
    by_cases c12 : y110.length + (rd_L1 l0_1 x4_1).length < 17592186044416
    ·rw [if_pos c12] at H
     have LMc12 := Aside0.mk c12
     clear c12
     obtain ⟨y114, hy114⟩ : ∃ y_ : List Int, y_ = (y110 ++ (rd_L1 l0_1 x4_1)) := ⟨_, rfl⟩
     replace H : (if x110001_1.length < 5864062014805 then (spec_l22Copy.l0 k1 (wrap64 (x4_1 + 1)) a0_0 l0_1 a0_2 a0_0 (x110001_1 ++ [y114]) a0_2) else (none)) = some (r1, r2, r3) := rh_ hy114 H
     have Ny114 := Aside0.mk hy114
     clear hy114
     by_cases c13 : x110001_1.length < 5864062014805
     ·rw [if_pos c13] at H
      have LMc13 := Aside0.mk c13
      clear c13
      obtain ⟨y117, hy117⟩ : ∃ y_ : List (List Int), y_ = (x110001_1 ++ [y114]) := ⟨_, rfl⟩
      replace H : (spec_l22Copy.l0 k1 (wrap64 (x4_1 + 1)) a0_0 l0_1 a0_2 a0_0 y117 a0_2) = some (r1, r2, r3) := rh_ hy117 H
      have Ny117 := Aside0.mk hy117
      clear hy117
      have H' := Aside0.mk H
      clear H
      have hnb14 := NB107_108.out
      have hnc14 := NB108_107.out
      have hnb15 := NB107_109.out
      have hnc15 := NB109_107.out
      obtain ⟨hcz16_0, hcz16_1, hcz16_2⟩ := c3_ BK107
      have hfz16_0 := blk_frozen BK107.out 0
      have hfz16_1 := blk_frozen BK107.out 1
      have hfz16_2 := blk_frozen BK107.out 2
      try go_wp2
      have n0_ := Aside0.mk (Kd.S_drew HO_110001.out)
      have n1_ := Aside0.mk (blk_drew BK107.out)
      have n2_ := Aside0.mk (blk_drew BK108.out)
      have n3_ := Aside0.mk (blk_drew BK109.out)
      have n4_ := Aside0.mk (below_drew1 HB.out)
      clear HO_110001
      clear BK107
      clear BK108
      clear BK109
      clear HB
      have HO_110001 := n0_
      have BK107 := n1_
      have BK108 := n2_
      have BK109 := n3_
      have HB := n4_
      clear n0_ n1_ n2_ n3_ n4_
      have p113 : 0 ≤ (x4_1 : Int) := od_
      have q113 : x4_1 < (l0_1.length : Int) := od_
      obtain ⟨ad113, A113_0, c113_0, e113, hx113_0, hl113_0, hi113_0⟩ := at_L1 HR0_1.out x4_1 p113 q113
      have hw113_0 := hx113_0
      cases e113
      replace hx113_0 := bh_ HB hx113_0
      have HR113_0 := Aside0.mk hi113_0
      have HC113_0 := Aside0.mk hl113_0
      clear hi113_0 hl113_0
      replace p113 := eq_true p113
      replace q113 := eq_true q113
      refine start_ (n := 13) (S := fun w' => w'.cell? ⟨gb109, 0, none⟩ = some (.int .i64 a0_0) ∧ w'.cell? ⟨gb109, 1, none⟩ = some (u110001) ∧ w'.cell? ⟨gb109, 2, none⟩ = some (.int .i64 a0_2) ∧ w'.cell? ⟨gb107, 0, none⟩ = some (.int .i64 a0_0) ∧ w'.cell? ⟨gb107, 1, none⟩ = some (.slice (some ad113) l0_1.length c0_1) ∧ w'.cell? ⟨gb107, 2, none⟩ = some (.int .i64 a0_2) ∧ w'.cell? (ad113.add (x4_1).toNat) = some (.slice A113_0 (rd_L1 l0_1 x4_1).length c113_0)) (ds := [12]) #[false, false, false, false, false, false, false, false, false, false, false, false, false] (by kernel_rfl) rfl rfl ⟨(blk_cell BK109.out 0).trans rfl, (blk_cell BK109.out 1).trans rfl, (blk_cell BK109.out 2).trans rfl, (blk_cell BK107.out 0).trans rfl, (blk_cell BK107.out 1).trans rfl, (blk_cell BK107.out 2).trans rfl, (bh_ HB hw113_0 :)⟩ (fun hHeld => ?_); refine with_tabW spec_l22Copy.tab5 spec_l22Copy.bits5 (fun HT_ HW_ => ?_)
      generalize wr.drew = w17 at HO_110001 BK107 BK108 BK109 HB HR113_0 hx113_0 hHeld ⊢
      refine pu_ 0 (some 17) ?_
      refine pu_ 3 (some 20) ?_
      refine pu_ 5 (some 22) ?_
      refine tk_ 1 (some 18) hHeld ?_
      refine tk_ 4 (some 21) hHeld ?_
      refine pu_ 6 (some 23) ?_
      refine tk_ 7 (some 24) hHeld ?_
      refine one_ (i := 2) (N := some 19) #[true, true, true, true, true, true, true, true, false, false, false, false, false] rfl rfl (one_of HT_.out (by kernel_rfl)) (by decide) (fun K hK => ?_)
      refine Kd.R_lit_step (Kd.int .i64) _ 3 ?hg (N := 19) ?hd (xs := ([] : List Int)) (inner := []) (ok := fun _ => True) (okp := fun _ => True) ?hr ?hp (fun _ hk => hk) trivial (Below.refl _ _) (Nat.le_refl _) (by simp) ?_; (case hd => rfl); (case hg => rfl); (case hr => first | (go_simp; done) | (go_simp; rfl)); (case hp => exact (Reps.none _ _))
      intro v111 w18 ho19 hb hg_ hnew_
      clear hg_ hnew_
      (first | rw [← Ny110.out] at ho19 | (simp only [Int.reduceToNat] at ho19; rw [← Ny110.out] at ho19))
      have n0_ := Aside0.mk (Kd.S_elder' (up_ HO_110001.out) (Kd.R_base ho19) hb)
      have n1_ := Aside0.mk (Kd.R_lower ho19 (below_size (up_ HB.out)))
      have n2_ := bb_ BK107 hb
      have n3_ := bb_ BK108 hb
      have n4_ := bb_ BK109 hb
      have n5_ := bs_ HB hb
      clear HO_110001
      clear BK107
      clear BK108
      clear BK109
      clear HB
      have HO_110001 := n0_
      have HO112 := n1_
      have BK107 := n2_
      have BK108 := n3_
      have BK109 := n4_
      have HB := n5_
      clear n0_ n1_ n2_ n3_ n4_ n5_
      clear hb ho19
      refine hK.out _ _ ⟨(blk_cell BK109.out 0).trans rfl, (blk_cell BK109.out 1).trans rfl, (blk_cell BK109.out 2).trans rfl, (blk_cell BK107.out 0).trans rfl, (blk_cell BK107.out 1).trans rfl, (blk_cell BK107.out 2).trans rfl, (bh_ HB hw113_0 :)⟩ (fun hHeld => ?_)
      clear hK K
      refine nm_ ?_
      refine one_ (i := 8) (N := some 25) #[true, true, true, true, true, true, true, true, true, false, false, false, false] rfl rfl (one_of HT_.out (by kernel_rfl)) (by decide) (fun K hK => ?_)
      refine Kd.R_append_rows_step (Kd.int .i64) (w0 := w) w.heap.size (by rfl) (.tmp 19) (.tmp 24) 25 3 (.int .i64 0) 8 rfl Try.underlying25 info3 rfl (by decide) (by omega) v111 y110 (rd_L1 l0_1 x4_1) _ _ _ (fun _ => True) (fun _ => False) rfl rfl ?aO ?aR (fun _ _ h => h) (fun _ h => h.elim) ?aF ?aB ?aS ?aL ?_
      (case aR => exact Kd.C_below HR113_0.out (up_ HB.out))
      (case aB => exact (up_ HB.out))
      (case aF => exact (fun _ _ => trivial))
      (case aO => exact (up_ HO112.out))
      (case aS => exact (below_size (up_ HB.out)))
      (case aL => have := LMc12.out; omega)
      intro v115 w20 ho hb hg hat
      rw [← Ny114.out] at ho
      have n0_ := Aside0.mk (Kd.S_after (ok := (fun _ => True)) (up_ HO_110001.out) hg hat)
      have n1_ := Aside0.mk (blk_grown (g := gb107) (o := .cells #[.int .i64 a0_0, .slice (some ad113) l0_1.length c0_1, .int .i64 a0_2] 30 (0, 0)) (up_ BK107.out) hg (Kd.R_ne HO112.out BK107.out (by decide)))
      have n2_ := Aside0.mk (blk_grown (g := gb108) (o := .cells #[.int .i64 0, .slice none 0 0, .int .i64 0] 30 (0, 0)) (up_ BK108.out) hg (Kd.R_ne HO112.out BK108.out (by decide)))
      have n3_ := Aside0.mk (blk_grown (g := gb109) (o := .cells #[.int .i64 a0_0, u110001, .int .i64 a0_2] 30 (0, 0)) (up_ BK109.out) hg (Kd.R_ne HO112.out BK109.out (by decide)))
      have n4_ := Aside0.mk (hb)
      have n5_ := Aside0.mk (ho)
      clear HO_110001
      clear BK107
      clear BK108
      clear BK109
      clear HB
      clear HO112
      have HO_110001 := n0_
      have BK107 := n1_
      have BK108 := n2_
      have BK109 := n3_
      have HB := n4_
      have HO116 := n5_
      clear n0_ n1_ n2_ n3_ n4_ n5_
      clear ho hb hg hat
      obtain ⟨Ao22, co22, eo22⟩ := Kd.R_slice HO116.out
      (first | subst eo22 | (injection eo22 with f1_ f2_ f3_; have f4_ := f1_.symm; have f5_ := f3_.symm; clear f1_ f2_ f3_; subst f4_; subst f5_))
      refine hK.out _ _ ⟨(blk_cell BK109.out 0).trans rfl, (blk_cell BK109.out 1).trans rfl, (blk_cell BK109.out 2).trans rfl, (blk_cell BK107.out 0).trans rfl, (blk_cell BK107.out 1).trans rfl, (blk_cell BK107.out 2).trans rfl, (bh_ HB hw113_0 :)⟩ (fun hHeld => ?_)
      clear hK K
      refine nm_ ?_
      refine one_ (i := 9) (N := some 26) #[true, true, true, true, true, true, true, true, true, true, false, false, false] rfl rfl (one_of HT_.out (by kernel_rfl)) (by decide) (fun K hK => ?_)
      refine value_ (w1 := ?_) (v := ?_) (by rfl) rfl ?_ ?_
      rotate_left 2
      ·go_simp
       constructor
       ·rfl
       ·rfl
      refine hK.out _ _ ⟨(blk_cell (blk_alloc BK109.out _) 0).trans rfl, (blk_cell (blk_alloc BK109.out _) 1).trans rfl, (blk_cell (blk_alloc BK109.out _) 2).trans rfl, (blk_cell (blk_alloc BK107.out _) 0).trans rfl, (blk_cell (blk_alloc BK107.out _) 1).trans rfl, (blk_cell (blk_alloc BK107.out _) 2).trans rfl, (World.cell?_alloc_lt _ _ _ (World.block_lt_of_cell? _ _ ((bh_ HB hw113_0 :)))).trans ((bh_ HB hw113_0 :))⟩ (fun hHeld => ?_)
      clear hK K
      refine nm_ ?_
      refine one_ (i := 10) (N := some 27) #[true, true, true, true, true, true, true, true, true, true, true, false, false] rfl rfl (one_of HT_.out (by kernel_rfl)) (by decide) (fun K hK => ?_)
      refine Kd.S_append_step (Kd.slice 3 (Kd.int .i64)) (w0 := w) w.heap.size (by rfl) (.tmp 18) (.tmp 26) 22 25 (.slice none 0 0) 24 rfl Try.underlying22 info25 rfl (by decide) (by omega) u110001 x110001_1 y114 [.slice Ao22 y114.length co22] (fun _ => True) (fun k_ => some k_ = (.slice Ao22 y114.length co22 : Value).ownBlock) rfl rfl ?aP (fun k_ hk_ => ((Kd.R_mono (ok' := fun k_ => ((fun _ => True)) k_ ∧ some k_ ≠ (u110001 : Value).ownBlock) (Kd.R_apart' (HO116.out) (Kd.S_typed HO_110001.out) (by decide)) (fun k_ hk => ⟨trivial, hk.2⟩))).1 k_ hk_.symm) ?aF ?aO ?aB ?aS ?aL ?_
      (case aP => exact Kd.M_row (Kd.R_mono (Kd.R_tight rfl (Kd.R_mono (ok' := fun k_ => ((fun _ => True)) k_ ∧ some k_ ≠ (u110001 : Value).ownBlock) (Kd.R_apart' (HO116.out) (Kd.S_typed HO_110001.out) (by decide)) (fun k_ hk => ⟨trivial, hk.2⟩))) (fun _ h_ => h_)))
      (case aB => exact (up_ HB.out))
      (case aF => exact (fun _ _ => trivial))
      (case aO => exact (by (with_reducible repeat (first | apply Kd.S_alloc | apply Kd.S_drewN | apply Kd.S_drew)); exact Kd.S_mono HO_110001.out (fun k_ hk => ⟨trivial, fun e_ => hk.2 e_⟩)))
      (case aS => exact (below_size (up_ HB.out)))
      (case aL => have := LMc13.out; omega)
      intro v118 w21 ho hb hg hat
      rw [← Ny117.out] at ho
      have n0_ := Aside0.mk (blk_grown (g := gb107) (o := .cells #[.int .i64 a0_0, .slice (some ad113) l0_1.length c0_1, .int .i64 a0_2] 30 (0, 0)) (up_ BK107.out) hg (Kd.S_ne HO_110001.out BK107.out (by decide)))
      have n1_ := Aside0.mk (blk_grown (g := gb108) (o := .cells #[.int .i64 0, .slice none 0 0, .int .i64 0] 30 (0, 0)) (up_ BK108.out) hg (Kd.S_ne HO_110001.out BK108.out (by decide)))
      have n2_ := Aside0.mk (blk_grown (g := gb109) (o := .cells #[.int .i64 a0_0, u110001, .int .i64 a0_2] 30 (0, 0)) (up_ BK109.out) hg (Kd.S_ne HO_110001.out BK109.out (by decide)))
      have n3_ := Aside0.mk (hb)
      have n4_ := Aside0.mk (ho)
      clear BK107
      clear BK108
      clear BK109
      clear HB
      clear HO_110001
      clear HO116
      have BK107 := n0_
      have BK108 := n1_
      have BK109 := n2_
      have HB := n3_
      have HO119 := n4_
      clear n0_ n1_ n2_ n3_ n4_
      clear ho hb hg hat
      obtain ⟨Ao23, co23, eo23⟩ := Kd.S_slice HO119.out
      (first | subst eo23 | (injection eo23 with f1_ f2_ f3_; have f4_ := f1_.symm; have f5_ := f3_.symm; clear f1_ f2_ f3_; subst f4_; subst f5_))
      refine hK.out _ _ ⟨(blk_cell BK109.out 0).trans rfl, (blk_cell BK109.out 1).trans rfl, (blk_cell BK109.out 2).trans rfl, (blk_cell BK107.out 0).trans rfl, (blk_cell BK107.out 1).trans rfl, (blk_cell BK107.out 2).trans rfl, (bh_ HB hw113_0 :)⟩ (fun hHeld => ?_)
      clear hK K
      refine nm_ ?_
      refine pu_ 11 (some 28) ?_
      refine last_ (i := 12) (N := none) #[true, true, true, true, true, true, true, true, true, true, true, true, true] rfl rfl (one_of HT_.out (by kernel_rfl)) (by decide) (fun K hK => ?_)
      have hs24 : w21.cell? ⟨gb109, 1, none⟩ = some (u110001) := (blk_cell BK109.out 1).trans rfl
      have hfs24 := blk_frozen BK109.out 1
      have hns24_0 := NB107_109.out
      have hns24_1 := NB108_109.out
      have hms24_0 := NB109_107.out
      have hms24_1 := NB109_108.out
      refine skip_ (w1 := ?_) (by rfl) rfl ?_ ?_
      rotate_left
      ·go_simp
       rfl
      refine hK.out _ _ ?_
      clear hK K
      refine done_ (done_of HT_.out (by kernel_rfl)) ?_
      try go_wp2
      go_roundg k1
      case measure => have := HK1.out; omega
      case rel => exact ⟨(wrap64 (x4_1 + 1)), (y117), (.slice Ao23 y117.length co23), rs_, H', ⟨by have := HK1.out; omega⟩, ⟨by (with_reducible repeat (first | apply Kd.S_alloc | apply Kd.S_drewN | apply Kd.S_drew)); exact Kd.S_mono (Kd.S_far (p := ⟨gb109, 1, none⟩) (Kd.S_types HO119.out BK109.out (by decide)) (fun _ hk => hk.2) (.slice Ao23 y117.length co23)) (fun _ hk => trivial)⟩, ⟨by (with_reducible repeat (first | refine blk_drewN ?_ _ | refine blk_drew ?_ | refine blk_alloc ?_ _)); refine blk_far ?_ NB107_109.out _; (with_reducible repeat (first | refine blk_drewN ?_ _ | refine blk_drew ?_ | refine blk_alloc ?_ _)); exact BK107.out⟩, ⟨by (with_reducible repeat (first | refine blk_drewN ?_ _ | refine blk_drew ?_ | refine blk_alloc ?_ _)); refine blk_far ?_ NB108_109.out _; (with_reducible repeat (first | refine blk_drewN ?_ _ | refine blk_drew ?_ | refine blk_alloc ?_ _)); exact BK108.out⟩, ⟨by (with_reducible repeat (first | refine blk_drewN ?_ _ | refine blk_drew ?_ | refine blk_alloc ?_ _)); refine blk_put (cs := #[.int .i64 a0_0, u110001, .int .i64 a0_2]) ?_ 1 _ rfl; (with_reducible repeat (first | refine blk_drewN ?_ _ | refine blk_drew ?_ | refine blk_alloc ?_ _)); exact BK109.out⟩, ⟨up_ HB.out⟩⟩
     ·rw [if_neg c13] at H
      exact absurd H (by simp)
    ·rw [if_neg c12] at H
     exact absurd H (by simp)
   ·simp only [Option.some.injEq, Prod.mk.injEq] at H
    obtain ⟨rfl, rfl, rfl⟩ := H
    have hnb25 := NB107_108.out
    have hnc25 := NB108_107.out
    have hnb26 := NB107_109.out
    have hnc26 := NB109_107.out
    obtain ⟨hcz27_0, hcz27_1, hcz27_2⟩ := c3_ BK107
    have hfz27_0 := blk_frozen BK107.out 0
    have hfz27_1 := blk_frozen BK107.out 1
    have hfz27_2 := blk_frozen BK107.out 2
    have hnb28 := NB109_108.out
    have hnc28 := NB108_109.out
    obtain ⟨hcz29_0, hcz29_1, hcz29_2⟩ := c3_ BK109
    have hfz29_0 := blk_frozen BK109.out 0
    have hfz29_1 := blk_frozen BK109.out 1
    have hfz29_2 := blk_frozen BK109.out 2
    obtain ⟨hcz30_0, hcz30_1, hcz30_2⟩ := c3_ BK108
    have hfz30_0 := blk_frozen BK108.out 0
    have hfz30_1 := blk_frozen BK108.out 1
    have hfz30_2 := blk_frozen BK108.out 2
    obtain ⟨Ao31, co31, eo31⟩ := Kd.S_slice HO_110001.out
    subst eo31
    go_wp2
    refine bodyPost_ret (results_cell_row rfl _ _ gb108 30 #[.int .i64 a0_0, .slice Ao31 x110001_1.length co31, .int .i64 a0_2] (0, 0) _ rfl (by (with_reducible repeat (first | refine blk_drewN ?_ _ | refine blk_drew ?_ | refine blk_alloc ?_ _)); refine blk_put (cs := #[.int .i64 a0_0, .slice Ao31 x110001_1.length co31, .int .i64 0]) ?_ 2 _ rfl; (with_reducible repeat (first | refine blk_drewN ?_ _ | refine blk_drew ?_ | refine blk_alloc ?_ _)); refine blk_put (cs := #[.int .i64 a0_0, .slice none 0 0, .int .i64 0]) ?_ 1 _ rfl; (with_reducible repeat (first | refine blk_drewN ?_ _ | refine blk_drew ?_ | refine blk_alloc ?_ _)); refine blk_put (cs := #[.int .i64 0, .slice none 0 0, .int .i64 0]) ?_ 0 _ rfl; (with_reducible repeat (first | refine blk_drewN ?_ _ | refine blk_drew ?_ | refine blk_alloc ?_ _)); exact BK108.out) Try.underlying30 rfl (by kernel_rfl)) rfl ?_
    exact ⟨_, re_, by (with_reducible repeat (first | apply Kd.S_alloc | apply Kd.S_drewN | apply Kd.S_drew)); exact Kd.S_mono (Kd.S_far (p := ⟨gb108, 2, none⟩) (Kd.S_far (p := ⟨gb108, 1, none⟩) (Kd.S_far (p := ⟨gb108, 0, none⟩) (Kd.S_types HO_110001.out BK108.out (by decide)) (fun _ hk => hk.2) (.int .i64 a0_0)) (fun _ hk => hk.2) (.slice Ao31 x110001_1.length co31)) (fun _ hk => hk.2) (.int .i64 a0_2)) (fun _ hk => trivial), up_ HB.out⟩

/-! ### spec_l1In: function 95 -/
def spec_l1In.f (a0 : Int) (a1 : Int) (a2 : Int) : Option (Bool) := if a0 ≥ a1 then (some (decide (a0 ≤ a2))) else (some false)
set_option maxHeartbeats 8000000 in
set_option maxRecDepth 100000 in
theorem spec_l1In.calls (a0 : Int) (a1 : Int) (a2 : Int) (r : Bool) (w : World) (h : spec_l1In.f a0 a1 a2 = some r) :
  Calls Try.prog 95 #[.int .i64 a0, .int .i64 a1, .int .i64 a2] w fun e w' => e = .returned (.bool r) ∧ Drawn0 w w' := by
 have H : (if a0 ≥ a1 then (some (decide (a0 ≤ a2))) else (some false)) = some r := h
 clear h
 by_cases c4 : a0 ≥ a1
 ·rw [if_pos c4] at H
  have c4b0 : decide (a1 ≤ a0) = true := decide_eq_true c4
  clear c4
  obtain rfl := Option.some.inj H
  go_enter Try.func95, Try.ntmps95
  go_wp2
  go_ret
  exact ⟨rs_, dn_⟩
 ·rw [if_neg c4] at H
  have c4b0 : decide (a1 ≤ a0) = false := decide_eq_false c4
  clear c4
  obtain rfl := Option.some.inj H
  go_enter Try.func95, Try.ntmps95
  go_wp2
  go_ret
  exact ⟨rs_, dn_⟩

/-! ### spec_l12Has: function 147 -/
def spec_l12Has.l0 : Nat → List Int → Int → Int → Option (Bool)
 | 0, _, _, _ => none
 | k + 1, x0, x1, x5 => if x5 < (x0.length : Int) then (if 0 ≤ x5 then (if (rd x0 x5) = x1 then (some true) else (spec_l12Has.l0 k x0 x1 (wrap64 (x5 + 1)))) else (none)) else (some false)
def spec_l12Has.f (k : Nat) (l0 : List Int) (a1 : Int) : Option (Bool) := spec_l12Has.l0 k l0 a1 0
set_option maxHeartbeats 8000000 in
set_option maxRecDepth 100000 in
theorem spec_l12Has.calls (k : Nat) (A0 : Option Addr) (c0 : Nat) (l0 : List Int) (a1 : Int) (r : Bool) (w : World) (hr0 : Kd.C (Kd.int .i64) w A0 l0.length l0) (hc0 : l0.length ≤ c0) (h : spec_l12Has.f k l0 a1 = some r) :
  Calls Try.prog 147 #[.slice A0 l0.length c0, .int .i64 a1] w fun e w' => e = .returned (.bool r) ∧ Drawn0 w w' := by
 have HR0 := Aside0.mk hr0
 have HC0 := Aside0.mk hc0
 clear hr0 hc0
 have H : (spec_l12Has.l0 k l0 a1 0) = some r := h
 clear h
 have H' := Aside0.mk H
 clear H
 go_enter Try.func147, Try.ntmps147
 go_wp2
 go_loopg [5] k (fun kq v5 w' => ∃ (x5_1 : Int), v5 = .int .i64 x5_1 ∧ Aside0 (spec_l12Has.l0 kq l0 a1 x5_1 = some r) ∧ Aside0 (kq ≤ k) ∧ Drawn0 w w')
 case atStart => exact ⟨(0), rs_, H', ⟨Nat.le_refl _⟩, dn_⟩
 case round =>
  clear H'
  try clear c1
  try clear p2
  obtain ⟨x5_1, rfl, HA, HK1, ⟨m1, rfl⟩⟩ := hrel
  cases gk with
  | zero => exact absurd HA.out (by simp [spec_l12Has.l0])
  | succ k1 =>
   have H := HA.out
   clear HA
   simp only [spec_l12Has.l0] at H
   replace H := its_ H; rcases H with ⟨c3b0, H⟩ | ⟨c3b0, H⟩
   ·replace H := its_ H; rcases H with ⟨c4b0, H⟩ | ⟨_, ⟨⟩⟩
    replace H := ieq_ H; rcases H with ⟨-, c5b0, c5b1, H⟩ | ⟨c5, c5b0, c5b1, H⟩
    ·obtain rfl := Option.some.inj H
     have p120 : 0 ≤ (x5_1 : Int) := od_
     have q120 : x5_1 < (l0.length : Int) := od_
     obtain ⟨ad120, e120, hx120_0⟩ := Kd.at_int HR0.out x5_1 p120 q120
     cases e120
     replace p120 := eq_true p120
     replace q120 := eq_true q120
     go_wp2
     go_ret
     exact ⟨rs_, dn_⟩
    ·have H' := Aside0.mk H
     clear H
     have p120 : 0 ≤ (x5_1 : Int) := od_
     have q120 : x5_1 < (l0.length : Int) := od_
     obtain ⟨ad120, e120, hx120_0⟩ := Kd.at_int HR0.out x5_1 p120 q120
     cases e120
     replace p120 := eq_true p120
     replace q120 := eq_true q120
     go_wp2
     go_roundg k1
     case measure => have := HK1.out; omega
     case rel => exact ⟨(wrap64 (x5_1 + 1)), rs_, H', ⟨by have := HK1.out; omega⟩, dn_⟩
   ·obtain rfl := Option.some.inj H
    go_wp2
    go_ret
    exact ⟨rs_, dn_⟩

end Go.Proofs.Ytkddpilambnicaa.PFnExactHearRow
