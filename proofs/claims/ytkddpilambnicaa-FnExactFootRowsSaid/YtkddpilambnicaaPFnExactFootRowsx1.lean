/- Walks of Go functions that the law FnExactFootRows uses: written by this session's program out of the kit's printer; each shows that a call comes to the answers of the Lean function beside it. Conditions: each contract's own. -/
import Derived.Test.YtkddpilambnicaaPFnExactFootRowsx0
namespace Go.Proofs.Ytkddpilambnicaa.PFnExactFootRows
open Go.RowKit Go.Proofs.YtkddpilambnicaaW.PrintWords Go.Proofs.YtkddpilambnicaaW.PrintLast Go.Proofs.YtkddpilambnicaaW.PrintMore Go.Proofs.Ytkddpilambnicaa.Mac Go.Proofs.Ytkddpilambnicaa.Law
attribute [local go_sem] max2_int min2_int max_two min_two max_three min_three max_four min_four   -- for this text's walks alone
set_option linter.unusedVariables false
set_option linter.unusedSimpArgs false

/-! ### laws_eqIntS: function 33 -/
def laws_eqIntS.l0 : Nat → List Int → List Int → Int → Option (Bool)
 | 0, _, _, _ => none
 | k + 1, x0, x1, x5 => if x5 < (x0.length : Int) then (if 0 ≤ x5 then (if x5 < (x1.length : Int) then (if (rd x0 x5) = (rd x1 x5) then (laws_eqIntS.l0 k x0 x1 (wrap64 (x5 + 1))) else (some false)) else (none)) else (none)) else (some true)
def laws_eqIntS.f (k : Nat) (l0 : List Int) (l1 : List Int) : Option (Bool) := if (l0.length : Int) = (l1.length : Int) then (laws_eqIntS.l0 k l0 l1 0) else (some false)
set_option maxHeartbeats 8000000 in
set_option maxRecDepth 100000 in
theorem laws_eqIntS.calls (k : Nat) (A0 : Option Addr) (c0 : Nat) (l0 : List Int) (A1 : Option Addr) (c1 : Nat) (l1 : List Int) (r : Bool) (w : World) (hr0 : Kd.C (Kd.int .i64) w A0 l0.length l0) (hc0 : l0.length ≤ c0) (hr1 : Kd.C (Kd.int .i64) w A1 l1.length l1) (hc1 : l1.length ≤ c1) (h : laws_eqIntS.f k l0 l1 = some r) :
  Calls Try.prog 33 #[.slice A0 l0.length c0, .slice A1 l1.length c1] w fun e w' => e = .returned (.bool r) ∧ Drawn0 w w' := by
 have HR0 := Aside0.mk hr0
 have HC0 := Aside0.mk hc0
 clear hr0 hc0
 have HR1 := Aside0.mk hr1
 have HC1 := Aside0.mk hc1
 clear hr1 hc1
 have H : (if (l0.length : Int) = (l1.length : Int) then (laws_eqIntS.l0 k l0 l1 0) else (some false)) = some r := h
 clear h
 replace H := ieq_ H; rcases H with ⟨c3, c3b0, c3b1, H⟩ | ⟨c3, c3b0, c3b1, H⟩
 ·have c3b2 : (l0.length == l1.length) = true := by first | simpa using c3 | (simp at c3 ⊢; omega)
  clear c3
  have H' := Aside0.mk H
  clear H
  go_enter Try.func33, Try.ntmps33
  go_wp2
  repeat (go_quiet (fail); try go_wp2)
  go_loopg [5] k (fun kq v5 w' => ∃ (x5_1 : Int), v5 = .int .i64 x5_1 ∧ Aside0 (laws_eqIntS.l0 kq l0 l1 x5_1 = some r) ∧ Aside0 (kq ≤ k) ∧ Drawn0 w w')
  case atStart => exact ⟨(0), rs_, H', ⟨Nat.le_refl _⟩, dn_⟩
  case round =>
   clear H'
   try clear c1
   try clear p2
   try clear c3
   try clear c3b0
   try clear c3b1
   try clear c3b2
   obtain ⟨x5_1, rfl, HA, HK1, ⟨m1, rfl⟩⟩ := hrel
   cases gk with
   | zero => exact absurd HA.out (by simp [laws_eqIntS.l0])
   | succ k1 =>
    have H := HA.out
    clear HA
    simp only [laws_eqIntS.l0] at H
    replace H := its_ H; rcases H with ⟨c4b0, H⟩ | ⟨c4b0, H⟩
    ·replace H := its_ H; rcases H with ⟨c5b0, H⟩ | ⟨_, ⟨⟩⟩
     replace H := its_ H; rcases H with ⟨c6b0, H⟩ | ⟨_, ⟨⟩⟩
     replace H := ieq_ H; rcases H with ⟨-, c7b0, c7b1, H⟩ | ⟨c7, c7b0, c7b1, H⟩
     ·have H' := Aside0.mk H
      clear H
      have p101 : 0 ≤ (x5_1 : Int) := od_
      have q101 : x5_1 < (l0.length : Int) := od_
      obtain ⟨ad101, e101, hx101_0⟩ := Kd.at_int HR0.out x5_1 p101 q101
      cases e101
      replace p101 := eq_true p101
      replace q101 := eq_true q101
      have p102 : 0 ≤ (x5_1 : Int) := od_
      have q102 : x5_1 < (l1.length : Int) := od_
      obtain ⟨ad102, e102, hx102_0⟩ := Kd.at_int HR1.out x5_1 p102 q102
      cases e102
      replace p102 := eq_true p102
      replace q102 := eq_true q102
      go_wp2
      repeat (go_quiet (fail); try go_wp2)
      go_roundg k1
      case measure => have := HK1.out; omega
      case rel => exact ⟨(wrap64 (x5_1 + 1)), rs_, H', ⟨by have := HK1.out; omega⟩, dn_⟩
     ·obtain rfl := Option.some.inj H
      have p101 : 0 ≤ (x5_1 : Int) := od_
      have q101 : x5_1 < (l0.length : Int) := od_
      obtain ⟨ad101, e101, hx101_0⟩ := Kd.at_int HR0.out x5_1 p101 q101
      cases e101
      replace p101 := eq_true p101
      replace q101 := eq_true q101
      have p102 : 0 ≤ (x5_1 : Int) := od_
      have q102 : x5_1 < (l1.length : Int) := od_
      obtain ⟨ad102, e102, hx102_0⟩ := Kd.at_int HR1.out x5_1 p102 q102
      cases e102
      replace p102 := eq_true p102
      replace q102 := eq_true q102
      go_wp2
      repeat (go_quiet (fail); try go_wp2)
      go_ret
      exact ⟨rs_, dn_⟩
    ·obtain rfl := Option.some.inj H
     go_wp2
     repeat (go_quiet (fail); try go_wp2)
     go_ret
     exact ⟨rs_, dn_⟩
 ·have c3b2 : (l0.length == l1.length) = false := by first | simpa using c3 | (simp at c3 ⊢; omega)
  obtain rfl := Option.some.inj H
  go_enter Try.func33, Try.ntmps33
  go_wp2
  repeat (go_quiet (fail); try go_wp2)
  go_ret
  exact ⟨rs_, dn_⟩

/-! ### laws_eqRow: function 19 -/
def laws_eqRow.f (k : Nat) (l0_0 : List Int) (l1_0 : List Int) : Option (Bool) := (laws_eqIntS.f k l0_0 l1_0).bind fun t105 => (if t105 = true then (some true) else (some false))
set_option maxHeartbeats 8000000 in
set_option maxRecDepth 100000 in
theorem laws_eqRow.calls (k : Nat) (A0_0 : Option Addr) (c0_0 : Nat) (l0_0 : List Int) (A1_0 : Option Addr) (c1_0 : Nat) (l1_0 : List Int) (r : Bool) (w : World) (hr0_0 : Kd.C (Kd.int .i64) w A0_0 l0_0.length l0_0) (hc0_0 : l0_0.length ≤ c0_0) (hr1_0 : Kd.C (Kd.int .i64) w A1_0 l1_0.length l1_0) (hc1_0 : l1_0.length ≤ c1_0) (h : laws_eqRow.f k l0_0 l1_0 = some r) :
  Calls Try.prog 19 #[.agg #[.slice A0_0 l0_0.length c0_0], .agg #[.slice A1_0 l1_0.length c1_0]] w fun e w' => e = .returned (.bool r) ∧ Below w.heap.size w w' := by
 have hu34 := Try.underlying34
 have HR0_0 := Aside0.mk hr0_0
 have HC0_0 := Aside0.mk hc0_0
 clear hr0_0 hc0_0
 have HR1_0 := Aside0.mk hr1_0
 have HC1_0 := Aside0.mk hc1_0
 clear hr1_0 hc1_0
 have HB := Aside0.mk (Below.refl w.heap.size w)
 have H : ((laws_eqIntS.f k l0_0 l1_0).bind fun t105 => (if t105 = true then (some true) else (some false))) = some r := h
 clear h
 replace H := bnd_ H; obtain ⟨t105, A3, H⟩ := H
 replace H := itb_ H; rcases H with ⟨rfl, H⟩ | ⟨rfl, H⟩
 ·obtain rfl := Option.some.inj H
  go_enter Try.func19, Try.ntmps19
  go_wp2_with (first | ((with_reducible refine gd_ 2 ?_); refine bx_ 2 #[.slice A0_0 l0_0.length c0_0] 34 ?_; intro gb103 hg w5 hbox hb; have BK103 := Aside0.mk (hbox); have GW103 := gw_ HB hg; have GE103 := gw_ HB hg; replace HB := bs_ HB hb; clear hb hbox hg) | ((with_reducible refine gd_ 3 ?_); refine bx_ 3 #[.slice A1_0 l1_0.length c1_0] 34 ?_; intro gb104 hg w6 hbox hb; have BK104 := Aside0.mk (hbox); have GW104 := gw_ HB hg; have GE104 := gw_ HB hg; replace HB := bs_ HB hb; have NB103_104 := Aside0.mk ((by rw [hg]; exact Nat.ne_of_lt (blk_lt (g := gb103) (o := .cells #[.slice A0_0 l0_0.length c0_0] 34 (0, 0)) (up_ BK103.out)) : gb103 ≠ gb104)); have NB104_103 := Aside0.mk ((by rw [hg]; exact Nat.ne_of_gt (blk_lt (g := gb103) (o := .cells #[.slice A0_0 l0_0.length c0_0] 34 (0, 0)) (up_ BK103.out)) : gb104 ≠ gb103)); replace BK103 := bb_ BK103 hb; clear hb hbox hg; have hnb7 := NB103_104.out; have hnc7 := NB104_103.out; have hcz8_0 := c1_ BK103; have hfz8_0 := blk_frozen BK103.out 0; have hcz9_0 := c1_ BK104; have hfz9_0 := blk_frozen BK104.out 0) | ((with_reducible refine gc_ 33 ?_); refine gq_ (some 9) Try.func33 (laws_eqIntS.calls k _ _ l0_0 _ _ l1_0 true _ (Kd.C_below HR0_0.out (up_ HB.out)) HC0_0.out (Kd.C_below HR1_0.out (up_ HB.out)) HC1_0.out A3.out) (fun nd => ?_)))
  go_ret
  exact ⟨re_, up_ HB.out⟩
 ·obtain rfl := Option.some.inj H
  go_enter Try.func19, Try.ntmps19
  go_wp2_with (first | ((with_reducible refine gd_ 2 ?_); refine bx_ 2 #[.slice A0_0 l0_0.length c0_0] 34 ?_; intro gb103 hg w10 hbox hb; have BK103 := Aside0.mk (hbox); have GW103 := gw_ HB hg; have GE103 := gw_ HB hg; replace HB := bs_ HB hb; clear hb hbox hg) | ((with_reducible refine gd_ 3 ?_); refine bx_ 3 #[.slice A1_0 l1_0.length c1_0] 34 ?_; intro gb104 hg w11 hbox hb; have BK104 := Aside0.mk (hbox); have GW104 := gw_ HB hg; have GE104 := gw_ HB hg; replace HB := bs_ HB hb; have NB103_104 := Aside0.mk ((by rw [hg]; exact Nat.ne_of_lt (blk_lt (g := gb103) (o := .cells #[.slice A0_0 l0_0.length c0_0] 34 (0, 0)) (up_ BK103.out)) : gb103 ≠ gb104)); have NB104_103 := Aside0.mk ((by rw [hg]; exact Nat.ne_of_gt (blk_lt (g := gb103) (o := .cells #[.slice A0_0 l0_0.length c0_0] 34 (0, 0)) (up_ BK103.out)) : gb104 ≠ gb103)); replace BK103 := bb_ BK103 hb; clear hb hbox hg; have hnb12 := NB103_104.out; have hnc12 := NB104_103.out; have hcz13_0 := c1_ BK103; have hfz13_0 := blk_frozen BK103.out 0; have hcz14_0 := c1_ BK104; have hfz14_0 := blk_frozen BK104.out 0) | ((with_reducible refine gc_ 33 ?_); refine gq_ (some 9) Try.func33 (laws_eqIntS.calls k _ _ l0_0 _ _ l1_0 false _ (Kd.C_below HR0_0.out (up_ HB.out)) HC0_0.out (Kd.C_below HR1_0.out (up_ HB.out)) HC1_0.out A3.out) (fun nd => ?_)))
  go_ret
  exact ⟨re_, up_ HB.out⟩

/-! ### laws_eqRowS: function 27 -/
def laws_eqRowS.l0 : Nat → List (S34) → List (S34) → Int → Option (Bool)
 | 0, _, _, _ => none
 | k + 1, x0, x1, x5 => if x5 < (x0.length : Int) then (if 0 ≤ x5 then (if x5 < (x1.length : Int) then ((laws_eqRow.f k ((rd_T34 x0 x5).f0) ((rd_T34 x1 x5).f0)).bind fun t108 => (if t108 = true then (laws_eqRowS.l0 k x0 x1 (wrap64 (x5 + 1))) else (some false))) else (none)) else (none)) else (some true)
def laws_eqRowS.f (k : Nat) (l0 : List (S34)) (l1 : List (S34)) : Option (Bool) := if (l0.length : Int) = (l1.length : Int) then (laws_eqRowS.l0 k l0 l1 0) else (some false)
def laws_eqRowS.T6 : Bool × List (List Nat × List Nat) := (true, [([], []), ([], []), ([0, 1], [0, 1]), ([2], [2]), ([], []), ([], []), ([4, 5], [4, 5]), ([6], [6]), ([3, 7], [3, 7]), ([8], [8])])
def laws_eqRowS.B6 : List Nat := [0, 0, 3, 7, 0, 0, 48, 112, 255, 511]
theorem laws_eqRowS.tab6 : rtab .any (opsOf Try.f27 6) = laws_eqRowS.T6 := by kernel_rfl
theorem laws_eqRowS.bits6 : waitsOk laws_eqRowS.T6.2 laws_eqRowS.B6 = true := by kernel_rfl
set_option maxHeartbeats 8000000 in
set_option maxRecDepth 100000 in
theorem laws_eqRowS.calls (k : Nat) (A0 : Option Addr) (c0 : Nat) (l0 : List (S34)) (A1 : Option Addr) (c1 : Nat) (l1 : List (S34)) (r : Bool) (w : World) (hr0 : Kd.C k34 w A0 l0.length l0) (hc0 : l0.length ≤ c0) (hr1 : Kd.C k34 w A1 l1.length l1) (hc1 : l1.length ≤ c1) (h : laws_eqRowS.f k l0 l1 = some r) :
  Calls Try.prog 27 #[.slice A0 l0.length c0, .slice A1 l1.length c1] w fun e w' => e = .returned (.bool r) ∧ Below w.heap.size w w' := by
 have hu34 := Try.underlying34
 have HR0 := Aside0.mk hr0
 have HC0 := Aside0.mk hc0
 clear hr0 hc0
 have HR1 := Aside0.mk hr1
 have HC1 := Aside0.mk hc1
 clear hr1 hc1
 have HB := Aside0.mk (Below.refl w.heap.size w)
 have H : (if (l0.length : Int) = (l1.length : Int) then (laws_eqRowS.l0 k l0 l1 0) else (some false)) = some r := h
 clear h
 replace H := ieq_ H; rcases H with ⟨c3, c3b0, c3b1, H⟩ | ⟨c3, c3b0, c3b1, H⟩
 ·have c3b2 : (l0.length == l1.length) = true := by first | simpa using c3 | (simp at c3 ⊢; omega)
  clear c3
  have H' := Aside0.mk H
  clear H
  go_enter Try.func27, Try.ntmps27
  go_wp2
  go_loopg [5] k (fun kq v5 w' => ∃ (x5_1 : Int), v5 = .int .i64 x5_1 ∧ Aside0 (laws_eqRowS.l0 kq l0 l1 x5_1 = some r) ∧ Aside0 (kq ≤ k) ∧ Aside0 (Below w.heap.size w w'))
  case atStart => exact ⟨(0), rs_, H', ⟨Nat.le_refl _⟩, ⟨up_ HB.out⟩⟩
  case round =>
   clear H'
   try clear c1
   try clear c2
   try clear p2
   try clear c3
   try clear c3b0
   try clear c3b1
   try clear c3b2
   obtain ⟨x5_1, rfl, HA, HK1, HB⟩ := hrel
   cases gk with
   | zero => exact absurd HA.out (by simp [laws_eqRowS.l0])
   | succ k1 =>
    have H := HA.out
    clear HA
    simp only [laws_eqRowS.l0] at H
    replace H := its_ H; rcases H with ⟨c4b0, H⟩ | ⟨c4b0, H⟩
    ·replace H := its_ H; rcases H with ⟨c5b0, H⟩ | ⟨_, ⟨⟩⟩
     replace H := its_ H; rcases H with ⟨c6b0, H⟩ | ⟨_, ⟨⟩⟩
     replace H := bnd_ H; obtain ⟨t108, A7, H⟩ := H
     replace H := itb_ H; rcases H with ⟨rfl, H⟩ | ⟨rfl, H⟩
     ·have H' := Aside0.mk H
      clear H
      try go_wp2
      have n0_ := Aside0.mk (below_drew1 HB.out)
      clear HB
      have HB := n0_
      clear n0_
      have p106 : 0 ≤ (x5_1 : Int) := od_
      have q106 : x5_1 < (l0.length : Int) := od_
      obtain ⟨ad106, A106_0, c106_0, e106, hx106_0, hl106_0, hi106_0⟩ := at_T34 HR0.out x5_1 p106 q106
      have hw106_0 := hx106_0
      cases e106
      replace hx106_0 := bh_ HB hx106_0
      have HR106_0 := Aside0.mk hi106_0
      have HC106_0 := Aside0.mk hl106_0
      clear hi106_0 hl106_0
      replace p106 := eq_true p106
      replace q106 := eq_true q106
      have p107 : 0 ≤ (x5_1 : Int) := od_
      have q107 : x5_1 < (l1.length : Int) := od_
      obtain ⟨ad107, A107_0, c107_0, e107, hx107_0, hl107_0, hi107_0⟩ := at_T34 HR1.out x5_1 p107 q107
      have hw107_0 := hx107_0
      cases e107
      replace hx107_0 := bh_ HB hx107_0
      have HR107_0 := Aside0.mk hi107_0
      have HC107_0 := Aside0.mk hl107_0
      clear hi107_0 hl107_0
      replace p107 := eq_true p107
      replace q107 := eq_true q107
      refine start_ (n := 10) (S := fun w' => w'.cell? (ad106.add (x5_1).toNat) = some (.slice A106_0 ((rd_T34 l0 x5_1).f0).length c106_0) ∧ w'.cell? (ad107.add (x5_1).toNat) = some (.slice A107_0 ((rd_T34 l1 x5_1).f0).length c107_0)) (ds := []) #[false, false, false, false, false, false, false, false, false, false] (by kernel_rfl) rfl rfl ⟨(bh_ HB hw106_0 :), (bh_ HB hw107_0 :)⟩ (fun hHeld => ?_); refine with_tabW laws_eqRowS.tab6 laws_eqRowS.bits6 (fun HT_ HW_ => ?_)
      generalize wr.drew = w9 at HB HR106_0 HR107_0 hx106_0 hx107_0 hHeld ⊢
      refine pu_ 0 (some 17) ?_
      refine pu_ 1 (some 18) ?_
      refine pu_ 2 (some 19) ?_
      refine pu_ 4 (some 21) ?_
      refine pu_ 5 (some 22) ?_
      refine pu_ 6 (some 23) ?_
      refine tk_ 3 (some 20) hHeld ?_
      refine tk_ 7 (some 24) hHeld ?_
      refine one_ (i := 8) (N := some 25) #[true, true, true, true, true, true, true, true, true, false] rfl rfl (one_of HT_.out (by kernel_rfl)) (by decide) (fun K hK => ?_)
      refine goes_ Try.func19 (by kernel_rfl) rfl #[.agg #[.slice A106_0 ((rd_T34 l0 x5_1).f0).length c106_0], .agg #[.slice A107_0 ((rd_T34 l1 x5_1).f0).length c107_0]] (by rfl) rfl rfl am_ ?_
      with_reducible refine (laws_eqRow.calls k1 _ _ ((rd_T34 l0 x5_1).f0) _ _ ((rd_T34 l1 x5_1).f0) true _ ?side1 ?side2 ?side3 ?side4 A7.out).mono ?_
      (case side1 => exact Kd.C_below HR106_0.out (up_ HB.out))
      (case side2 => exact HC106_0.out)
      (case side3 => exact Kd.C_below HR107_0.out (up_ HB.out))
      (case side4 => exact HC107_0.out)
      rintro e w10 ⟨rfl, hb⟩
      refine ⟨_, rfl, ?_⟩
      have n0_ := bs_ HB hb
      clear HB
      have HB := n0_
      clear n0_
      (try clear hb)
      (try clear hb2)
      (try clear hk)
      (try clear hi)
      refine hK.out _ _ ⟨(bh_ HB hw106_0 :), (bh_ HB hw107_0 :)⟩ (fun hHeld => ?_)
      clear hK K
      refine nm_ ?_
      refine pu_ 9 (some 26) ?_
      refine done_ (done_of HT_.out (by kernel_rfl)) ?_
      try go_wp2
      go_roundg k1
      case measure => have := HK1.out; omega
      case rel => exact ⟨(wrap64 (x5_1 + 1)), rs_, H', ⟨by have := HK1.out; omega⟩, ⟨up_ HB.out⟩⟩
     ·obtain rfl := Option.some.inj H
      try go_wp2
      have n0_ := Aside0.mk (below_drew1 HB.out)
      clear HB
      have HB := n0_
      clear n0_
      have p106 : 0 ≤ (x5_1 : Int) := od_
      have q106 : x5_1 < (l0.length : Int) := od_
      obtain ⟨ad106, A106_0, c106_0, e106, hx106_0, hl106_0, hi106_0⟩ := at_T34 HR0.out x5_1 p106 q106
      have hw106_0 := hx106_0
      cases e106
      replace hx106_0 := bh_ HB hx106_0
      have HR106_0 := Aside0.mk hi106_0
      have HC106_0 := Aside0.mk hl106_0
      clear hi106_0 hl106_0
      replace p106 := eq_true p106
      replace q106 := eq_true q106
      have p107 : 0 ≤ (x5_1 : Int) := od_
      have q107 : x5_1 < (l1.length : Int) := od_
      obtain ⟨ad107, A107_0, c107_0, e107, hx107_0, hl107_0, hi107_0⟩ := at_T34 HR1.out x5_1 p107 q107
      have hw107_0 := hx107_0
      cases e107
      replace hx107_0 := bh_ HB hx107_0
      have HR107_0 := Aside0.mk hi107_0
      have HC107_0 := Aside0.mk hl107_0
      clear hi107_0 hl107_0
      replace p107 := eq_true p107
      replace q107 := eq_true q107
      refine start_ (n := 10) (S := fun w' => w'.cell? (ad106.add (x5_1).toNat) = some (.slice A106_0 ((rd_T34 l0 x5_1).f0).length c106_0) ∧ w'.cell? (ad107.add (x5_1).toNat) = some (.slice A107_0 ((rd_T34 l1 x5_1).f0).length c107_0)) (ds := []) #[false, false, false, false, false, false, false, false, false, false] (by kernel_rfl) rfl rfl ⟨(bh_ HB hw106_0 :), (bh_ HB hw107_0 :)⟩ (fun hHeld => ?_); refine with_tabW laws_eqRowS.tab6 laws_eqRowS.bits6 (fun HT_ HW_ => ?_)
      generalize wr.drew = w11 at HB HR106_0 HR107_0 hx106_0 hx107_0 hHeld ⊢
      refine pu_ 0 (some 17) ?_
      refine pu_ 1 (some 18) ?_
      refine pu_ 2 (some 19) ?_
      refine pu_ 4 (some 21) ?_
      refine pu_ 5 (some 22) ?_
      refine pu_ 6 (some 23) ?_
      refine tk_ 3 (some 20) hHeld ?_
      refine tk_ 7 (some 24) hHeld ?_
      refine one_ (i := 8) (N := some 25) #[true, true, true, true, true, true, true, true, true, false] rfl rfl (one_of HT_.out (by kernel_rfl)) (by decide) (fun K hK => ?_)
      refine goes_ Try.func19 (by kernel_rfl) rfl #[.agg #[.slice A106_0 ((rd_T34 l0 x5_1).f0).length c106_0], .agg #[.slice A107_0 ((rd_T34 l1 x5_1).f0).length c107_0]] (by rfl) rfl rfl am_ ?_
      with_reducible refine (laws_eqRow.calls k1 _ _ ((rd_T34 l0 x5_1).f0) _ _ ((rd_T34 l1 x5_1).f0) false _ ?side1 ?side2 ?side3 ?side4 A7.out).mono ?_
      (case side1 => exact Kd.C_below HR106_0.out (up_ HB.out))
      (case side2 => exact HC106_0.out)
      (case side3 => exact Kd.C_below HR107_0.out (up_ HB.out))
      (case side4 => exact HC107_0.out)
      rintro e w12 ⟨rfl, hb⟩
      refine ⟨_, rfl, ?_⟩
      have n0_ := bs_ HB hb
      clear HB
      have HB := n0_
      clear n0_
      (try clear hb)
      (try clear hb2)
      (try clear hk)
      (try clear hi)
      refine hK.out _ _ ⟨(bh_ HB hw106_0 :), (bh_ HB hw107_0 :)⟩ (fun hHeld => ?_)
      clear hK K
      refine nm_ ?_
      refine pu_ 9 (some 26) ?_
      refine done_ (done_of HT_.out (by kernel_rfl)) ?_
      try go_wp2
      go_ret
      exact ⟨re_, up_ HB.out⟩
    ·obtain rfl := Option.some.inj H
     go_wp2
     go_ret
     exact ⟨re_, up_ HB.out⟩
 ·have c3b2 : (l0.length == l1.length) = false := by first | simpa using c3 | (simp at c3 ⊢; omega)
  obtain rfl := Option.some.inj H
  go_enter Try.func27, Try.ntmps27
  go_wp2
  go_ret
  exact ⟨re_, up_ HB.out⟩

/-! ### laws_markIntS: function 36 -/
def laws_markIntS.l0 : Nat → List Int → Int → Int → Option (Int × List Int)
 | 0, _, _, _ => none
 | k + 1, x0, x1, x5 => if x5 < (x0.length : Int) then (if 0 ≤ x5 then (laws_markIntS.l0 k (x0.set (x5 : Int).toNat x1) (wrap64 (x1 + 1)) (wrap64 (x5 + 1))) else (none)) else (some (x1, x0))
def laws_markIntS.f (k : Nat) (l0 : List Int) (a1 : Int) : Option (Int × List Int) := laws_markIntS.l0 k l0 a1 0
set_option maxHeartbeats 8000000 in
set_option maxRecDepth 100000 in
theorem laws_markIntS.calls (k : Nat) (P0_ : Nat → Prop) (u9000_ : Value) (l0 : List Int) (a1 : Int) (r1 : Int) (r2 : List Int) (w0 w : World) (hB : Below w0.heap.size w0 w) (ho0 : Kd.R (Kd.int .i64) 3 w w0.heap.size P0_ u9000_ l0) (h : laws_markIntS.f k l0 a1 = some (r1, r2)) :
  Calls Try.prog 36 #[u9000_, .int .i64 a1] w fun e w' => e = .returned (.int .i64 r1) ∧ Kd.R (Kd.int .i64) 3 w' w0.heap.size (fun k_ => (P0_ k_ ∨ w.heap.size ≤ k_)) u9000_ r2 ∧ Below w0.heap.size w0 w' ∧ Kept w w' (fun k_ => P0_ k_) := by
 have HO0 := Aside0.mk (show Kd.R (Kd.int .i64) 3 w w0.heap.size (fun k_ => (P0_ k_ ∨ w.heap.size ≤ k_)) u9000_ l0 from Kd.R_mono ho0 (fun k_ hk => (.inl hk)))
 have HK := Aside0.mk (Kept.refl w (fun k_ => P0_ k_))
 have HW0 := Aside0.mk hB.size
 have HB := Aside0.mk hB
 clear hB
 have H : (laws_markIntS.l0 k l0 a1 0) = some (r1, r2) := h
 clear h
 have H' := Aside0.mk H
 clear H
 go_enter Try.func36, Try.ntmps36
 go_wp2
 go_loopg [1, 5] k (fun kq v1 v5 w' => ∃ (x0_1 : List Int) (x1_1 : Int) (x5_1 : Int), v1 = .int .i64 x1_1 ∧ v5 = .int .i64 x5_1 ∧ Aside0 (laws_markIntS.l0 kq x0_1 x1_1 x5_1 = some (r1, r2)) ∧ Aside0 (kq ≤ k) ∧ Aside0 (Kd.R (Kd.int .i64) 3 w' w0.heap.size (fun k_ => (P0_ k_ ∨ w.heap.size ≤ k_)) u9000_ x0_1) ∧ Aside0 (Kept w w' (fun k_ => P0_ k_)) ∧ Aside0 (Below w0.heap.size w0 w'))
 case atStart => exact ⟨(l0), (a1), (0), rs_, rs_, H', ⟨Nat.le_refl _⟩, ⟨up_ HO0.out⟩, ⟨by repeat (first | (with_reducible first | exact HK.out | apply Kept.alloc | apply Kept.drewN | apply Kept.drew) | exact HK.out)⟩, ⟨up_ HB.out⟩⟩
 case round =>
  clear H'
  try clear p2
  obtain ⟨x0_1, x1_1, x5_1, rfl, rfl, HA, HK1, HO_0, HK, HB⟩ := hrel
  cases gk with
  | zero => exact absurd HA.out (by simp [laws_markIntS.l0])
  | succ k1 =>
   have H := HA.out
   clear HA
   simp only [laws_markIntS.l0] at H
   replace H := its_ H; rcases H with ⟨c3b0, H⟩ | ⟨c3b0, H⟩
   ·replace H := its_ H; rcases H with ⟨c4b0, H⟩ | ⟨_, ⟨⟩⟩
    obtain ⟨y109, hy109⟩ : ∃ y_ : List Int, y_ = (x0_1.set (x5_1 : Int).toNat x1_1) := ⟨_, rfl⟩
    replace H : (laws_markIntS.l0 k1 y109 (wrap64 (x1_1 + 1)) (wrap64 (x5_1 + 1))) = some (r1, r2) := rh_ hy109 H
    have Ny109 := Aside0.mk hy109
    clear hy109
    have H' := Aside0.mk H
    clear H
    obtain ⟨Ao6, co6, eo6⟩ := Kd.R_slice HO_0.out
    subst eo6
    have p5 : 0 ≤ (x5_1 : Int) := od_
    have q5 : (x5_1 : Int) < ((x0_1.length : Int) : Int) := od_
    obtain ⟨go5, co5, eo5, gb5, gl5, cl5, HG5⟩ := Kd.R_form HO_0.out (by omega)
    (first | cases eo5 | (injection eo5 with ea_ en_ ec_; (first | subst ea_ | (injection ea_ with ea_; subst ea_)); subst ec_; clear en_))
    have GB5 := Aside0.mk gb5
    have GG5 := Aside0.mk HG5
    clear gb5 gl5 HG5
    have HMgo5 := Aside0.mk (show (P0_ go5 ∨ w.heap.size ≤ go5) from (HO_0.out.1 _ rfl))
    obtain ⟨hx5_0, hf5_0⟩ := Kd.R_celln 0 HO_0.out (x5_1 : Int) p5 q5
    replace p5 := eq_true p5
    replace q5 := eq_true q5
    have HP7 := Kd.R_putg HO_0.out (x5_1 : Int) x1_1
    go_wp2_with (first | ((with_reducible refine gate_store (t := 3) (p := 15) rfl ?_); refine store_event (t := 3) (p := 15) (v := ?vo_w8) (w1 := (wr.setCell ⟨go5, (x5_1 : Int).toNat, none⟩ (.int .i64 x1_1))) ?hg ?ho ?hn ?hr ?_; (case ho => rfl); (case hg => rfl); (case hn => rfl); (case hr => first | (go_simp; done) | (go_simp; rfl)); intro w8 hw; have hg : wr.grownBy w8 (some go5) := (by rw [hw]; exact HP7.2); have hp_ : Kd.R (Kd.int .i64) 3 w8 w0.heap.size (fun k_ => (P0_ k_ ∨ w.heap.size ≤ k_)) (.slice (some ⟨go5, 0, none⟩) x0_1.length co6) y109 := (by rw [hw, Ny109.out]; exact HP7.1); clear HP7; replace HB := Aside0.mk ((by rw [hw]; exact below_set (HB.out) GB5.out : Below w0.heap.size w0 w8)); replace HK := Aside0.mk (Kept.of_grown (S := (fun k_ => P0_ k_)) hg (by repeat (first | (with_reducible first | exact HK.out | apply Kept.alloc | apply Kept.drewN | apply Kept.drew) | exact HK.out)) (fun k_ e_ => (HO_0.out.1 k_ e_))); replace HO_0 := Aside0.mk (hp_); clear hg hw hp_))
    go_roundg k1
    case measure => have := HK1.out; omega
    case rel => exact ⟨(y109), (wrap64 (x1_1 + 1)), (wrap64 (x5_1 + 1)), rs_, rs_, H', ⟨by have := HK1.out; omega⟩, ⟨up_ HO_0.out⟩, ⟨by repeat (first | (with_reducible first | exact HK.out | apply Kept.alloc | apply Kept.drewN | apply Kept.drew) | exact HK.out)⟩, ⟨up_ HB.out⟩⟩
   ·simp only [Option.some.injEq, Prod.mk.injEq] at H
    obtain ⟨rfl, rfl⟩ := H
    obtain ⟨Ao9, co9, eo9⟩ := Kd.R_slice HO_0.out
    subst eo9
    go_wp2
    go_ret
    exact ⟨re_, by (with_reducible repeat (first | apply Kd.R_alloc | apply Kd.R_drewN | apply Kd.R_drew)); exact HO_0.out, up_ HB.out, by repeat (first | (with_reducible first | exact HK.out | apply Kept.alloc | apply Kept.drewN | apply Kept.drew) | exact HK.out)⟩

/-! ### laws_markRowS: function 28 -/
def laws_markRowS.l0 : Nat → List (S34) → Int → Int → Option (Int × List (S34))
 | 0, _, _, _ => none
 | k + 1, x0, x1, x5 => if x5 < (x0.length : Int) then (if 0 ≤ x5 then ((laws_markIntS.f k (x0.getD x5.toNat z34).f0 x1).bind fun bt => laws_markRowS.l0 k (x0.set x5.toNat ⟨bt.2⟩) bt.1 (wrap64 (x5 + 1))) else none) else some (x1, x0)
def laws_markRowS.f (k : Nat) (l0 : List (S34)) (a1 : Int) : Option (Int × List (S34)) := laws_markRowS.l0 k l0 a1 0
set_option maxHeartbeats 2000000 in
set_option maxRecDepth 100000 in
theorem laws_markRowS.calls (k : Nat) (P0_ : Nat → Prop) (u9000_ : Value) (l0 : List (S34)) (a1 : Int) (r1 : Int) (r2 : List (S34)) (w0 w : World) (hB : Below w0.heap.size w0 w) (ho0 : Kd.S k34 34 w w0.heap.size P0_ u9000_ l0) (h : laws_markRowS.f k l0 a1 = some (r1, r2)) :
  Calls Try.prog 28 #[u9000_, .int .i64 a1] w fun e w' => e = .returned (.int .i64 r1) ∧ Kd.S k34 34 w' w0.heap.size (fun k_ => (P0_ k_ ∨ w.heap.size ≤ k_)) u9000_ r2 ∧ Below w0.heap.size w0 w' ∧ Kept w w' (fun k_ => P0_ k_) := by
 have H' : laws_markRowS.l0 k l0 a1 0 = some (r1, r2) := h
 clear h
 obtain ⟨A, c, rfl⟩ := Kd.S_slice ho0
 generalize hln : l0.length = ln at *
 go_enter Try.func28, Try.ntmps28
 go_wp2
 go_loopg [1, 5] k (fun kq v1 v5 w' => ∃ (x0_1 : List (S34)) (x1_1 : Int) (x5_1 : Int), v1 = .int .i64 x1_1 ∧ v5 = .int .i64 x5_1 ∧ Aside0 (laws_markRowS.l0 kq x0_1 x1_1 x5_1 = some (r1, r2)) ∧ Aside0 (kq ≤ k) ∧ Aside0 (Kd.S k34 34 w' w0.heap.size P0_ (.slice A ln c) x0_1) ∧ Aside0 (Kept w w' (fun k_ => P0_ k_)) ∧ Aside0 (Below w0.heap.size w0 w'))
 case atStart => exact ⟨l0, a1, 0, rfl, rfl, ⟨H'⟩, ⟨Nat.le_refl _⟩, ⟨by (with_reducible repeat (first | apply Kd.S_alloc | apply Kd.S_drewN | apply Kd.S_drew)); exact ho0⟩, ⟨Kept.refl _ _⟩, ⟨hB⟩⟩
 case round =>
  clear H'
  obtain ⟨x0_1, x1_1, x5_1, rfl, rfl, HA, HK1, HS, HK, HB⟩ := hrel
  have hl := Aside0.mk ((Kd.S_reads' HS.out).1)
  cases gk with
  | zero => exact absurd HA.out (by simp [laws_markRowS.l0])
  | succ k1 =>
   have H := HA.out
   clear HA
   simp only [laws_markRowS.l0] at H
   by_cases c3 : x5_1 < (x0_1.length : Int)
   ·rw [if_pos c3] at H
    have c3b0 : decide (x5_1 < (ln : Int)) = true := decide_eq_true (by have := hl.out; omega)
    by_cases c4 : 0 ≤ x5_1
    ·rw [if_pos c4] at H
     obtain ⟨⟨y1, y2⟩, hm, H⟩ := Option.bind_eq_some_iff.mp H
     obtain ⟨g, cap, hAe, hbase, hg, cells, hcells⟩ := Kd.S_form HS.out (by omega)
     injection hAe with e1 e2 e3
     subst e1
     subst e3
     clear e2
     obtain ⟨oki, cs, hcl, hM, hcc, hoki, hH⟩ := Kd.S_lend HS.out z34 x5_1 c4 (by have := hl.out; omega)
     obtain ⟨y0, hy0⟩ : ∃ y : S34, x0_1.getD x5_1.toNat z34 = y := ⟨_, rfl⟩
     rw [hy0] at hM hm
     clear hy0
     obtain ⟨y0⟩ := y0
     obtain ⟨v, rfl, hR⟩ := hM
     have hcell : wr.cell? ⟨g, x5_1.toNat, none⟩ = some v := by
      have := hcc 0 v rfl
      rw [show k34.sz = 1 from rfl] at this
      simpa using this
     replace hR : Kd.R (Kd.int .i64) 3 wr w0.heap.size oki v y0 := hR
     obtain ⟨vA, vc, rfl⟩ := Kd.R_slice hR
     have p5 : (0 ≤ x5_1) = True := eq_true c4
     have q5 : (x5_1 < (ln : Int)) = True := eq_true (by have := hl.out; omega)
     have hcall := laws_markIntS.calls k1 oki _ _ x1_1 y1 y2 w0 wr HB.out hR hm
     clear hcc
     go_wp2_with (go_at_call 36; (with_reducible refine hcall.mono ?_); rintro e w2 ⟨rfl, hR2, hB2, hK2⟩)
     have hR3 : Kd.R (Kd.int .i64) 3 w2 w0.heap.size oki _ y2 := Kd.R_reok rfl hR2 hR.1
     have hS2 := Kd.H_back (Kd.H_step hH (fun k_ _ hn hlt => hK2.2 k_ hlt hn)) (x' := (⟨y2⟩ : S34)) (okp := oki) ⟨_, rfl, hR3⟩ (fun _ hk => hk)
     go_roundg k1
     case measure => have := HK1.out; omega
     case rel => exact ⟨x0_1.set x5_1.toNat ⟨y2⟩, y1, wrap64 (x5_1 + 1), rfl, (by first | rfl | (simp; done)), ⟨H⟩, ⟨by have := HK1.out; omega⟩, ⟨hS2⟩, ⟨HK.out.then_ hK2 (fun k_ hk => .inl (hoki k_ hk).1)⟩, ⟨hB2⟩⟩
    ·rw [if_neg c4] at H
     exact absurd H (by simp)
   ·rw [if_neg c3] at H
    have c3b0 : decide (x5_1 < (ln : Int)) = false := decide_eq_false (by have := hl.out; omega)
    simp only [Option.some.injEq, Prod.mk.injEq] at H
    obtain ⟨rfl, rfl⟩ := H
    go_wp2
    go_ret
    exact ⟨rfl, Kd.S_mono HS.out (fun _ hk => .inl hk), HB.out, HK.out⟩

/-! ### laws_szIntS: function 75 -/
def laws_szIntS.f (l0 : List Int) (a1 : Int) : Option (Int) := if (wrap64 (a1 - (l0.length : Int))) < 0 then (some (-1)) else (some (wrap64 (a1 - (l0.length : Int))))
set_option maxHeartbeats 8000000 in
set_option maxRecDepth 100000 in
theorem laws_szIntS.calls (A0 : Option Addr) (c0 : Nat) (l0 : List Int) (a1 : Int) (r : Int) (w : World) (hr0 : Kd.C (Kd.int .i64) w A0 l0.length l0) (hc0 : l0.length ≤ c0) (h : laws_szIntS.f l0 a1 = some r) :
  Calls Try.prog 75 #[.slice A0 l0.length c0, .int .i64 a1] w fun e w' => e = .returned (.int .i64 r) ∧ Drawn0 w w' := by
 have HR0 := Aside0.mk hr0
 have HC0 := Aside0.mk hc0
 clear hr0 hc0
 have H : (if (wrap64 (a1 - (l0.length : Int))) < 0 then (some (-1)) else (some (wrap64 (a1 - (l0.length : Int))))) = some r := h
 clear h
 replace H := its_ H; rcases H with ⟨c3b0, H⟩ | ⟨c3b0, H⟩
 ·obtain rfl := Option.some.inj H
  go_enter Try.func75, Try.ntmps75
  go_wp2
  go_ret
  exact ⟨rs_, dn_⟩
 ·obtain rfl := Option.some.inj H
  go_enter Try.func75, Try.ntmps75
  go_wp2
  go_ret
  exact ⟨rs_, dn_⟩

/-! ### laws_szWord: function 54 -/
def laws_szWord.f (l0_0 : List Int) (a1 : Int) : Option (Int) := (laws_szIntS.f l0_0 a1).bind fun t111 => (if t111 < 0 then (some (-1)) else (some t111))
set_option maxHeartbeats 8000000 in
set_option maxRecDepth 100000 in
theorem laws_szWord.calls (A0_0 : Option Addr) (c0_0 : Nat) (l0_0 : List Int) (a1 : Int) (r : Int) (w : World) (hr0_0 : Kd.C (Kd.int .i64) w A0_0 l0_0.length l0_0) (hc0_0 : l0_0.length ≤ c0_0) (h : laws_szWord.f l0_0 a1 = some r) :
  Calls Try.prog 54 #[.agg #[.slice A0_0 l0_0.length c0_0], .int .i64 a1] w fun e w' => e = .returned (.int .i64 r) ∧ Below w.heap.size w w' := by
 have hu78 := Try.underlying78
 have HR0_0 := Aside0.mk hr0_0
 have HC0_0 := Aside0.mk hc0_0
 clear hr0_0 hc0_0
 have HB := Aside0.mk (Below.refl w.heap.size w)
 have H : ((laws_szIntS.f l0_0 a1).bind fun t111 => (if t111 < 0 then (some (-1)) else (some t111))) = some r := h
 clear h
 replace H := bnd_ H; obtain ⟨t111, A3, H⟩ := H
 replace H := its_ H; rcases H with ⟨c4b0, H⟩ | ⟨c4b0, H⟩
 ·obtain rfl := Option.some.inj H
  go_enter Try.func54, Try.ntmps54
  go_wp2_with (first | ((with_reducible refine gd_ 2 ?_); refine bx_ 2 #[.slice A0_0 l0_0.length c0_0] 78 ?_; intro gb110 hg w5 hbox hb; have BK110 := Aside0.mk (hbox); have GW110 := gw_ HB hg; have GE110 := gw_ HB hg; replace HB := bs_ HB hb; clear hb hbox hg; have hcz6_0 := c1_ BK110; have hfz6_0 := blk_frozen BK110.out 0) | ((with_reducible refine gc_ 75 ?_); refine gq_ (some 8) Try.func75 (laws_szIntS.calls _ _ l0_0 a1 t111 _ (Kd.C_below HR0_0.out (up_ HB.out)) HC0_0.out A3.out) (fun nd => ?_)))
  go_ret
  exact ⟨re_, up_ HB.out⟩
 ·obtain rfl := Option.some.inj H
  go_enter Try.func54, Try.ntmps54
  go_wp2_with (first | ((with_reducible refine gd_ 2 ?_); refine bx_ 2 #[.slice A0_0 l0_0.length c0_0] 78 ?_; intro gb110 hg w7 hbox hb; have BK110 := Aside0.mk (hbox); have GW110 := gw_ HB hg; have GE110 := gw_ HB hg; replace HB := bs_ HB hb; clear hb hbox hg; have hcz8_0 := c1_ BK110; have hfz8_0 := blk_frozen BK110.out 0) | ((with_reducible refine gc_ 75 ?_); refine gq_ (some 8) Try.func75 (laws_szIntS.calls _ _ l0_0 a1 t111 _ (Kd.C_below HR0_0.out (up_ HB.out)) HC0_0.out A3.out) (fun nd => ?_)))
  go_ret
  exact ⟨re_, up_ HB.out⟩

/-! ### laws_szFootS: function 118 -/
def laws_szFootS.f (l0 : List (S170)) (a1 : Int) : Option (Int) := if (wrap64 (a1 - (l0.length : Int))) < 0 then (some (-1)) else (some (wrap64 (a1 - (l0.length : Int))))
set_option maxHeartbeats 8000000 in
set_option maxRecDepth 100000 in
theorem laws_szFootS.calls (A0 : Option Addr) (c0 : Nat) (l0 : List (S170)) (a1 : Int) (r : Int) (w : World) (hr0 : Kd.C k170 w A0 l0.length l0) (hc0 : l0.length ≤ c0) (h : laws_szFootS.f l0 a1 = some r) :
  Calls Try.prog 118 #[.slice A0 l0.length c0, .int .i64 a1] w fun e w' => e = .returned (.int .i64 r) ∧ Drawn0 w w' := by
 have HR0 := Aside0.mk hr0
 have HC0 := Aside0.mk hc0
 clear hr0 hc0
 have H : (if (wrap64 (a1 - (l0.length : Int))) < 0 then (some (-1)) else (some (wrap64 (a1 - (l0.length : Int))))) = some r := h
 clear h
 replace H := its_ H; rcases H with ⟨c3b0, H⟩ | ⟨c3b0, H⟩
 ·obtain rfl := Option.some.inj H
  go_enter Try.func118, Try.ntmps118
  go_wp2
  go_ret
  exact ⟨rs_, dn_⟩
 ·obtain rfl := Option.some.inj H
  go_enter Try.func118, Try.ntmps118
  go_wp2
  go_ret
  exact ⟨rs_, dn_⟩

end Go.Proofs.Ytkddpilambnicaa.PFnExactFootRows
