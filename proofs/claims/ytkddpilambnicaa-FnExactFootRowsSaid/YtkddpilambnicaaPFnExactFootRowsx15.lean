/- Walks of Go functions that the law FnExactFootRows uses: written by this session's program out of the kit's printer; each shows that a call comes to the answers of the Lean function beside it. Conditions: each contract's own. -/
import Derived.Test.YtkddpilambnicaaPFnExactFootRowsx0
import Derived.Test.YtkddpilambnicaaPFnExactFootRowsx1
namespace Go.Proofs.Ytkddpilambnicaa.PFnExactFootRows
open Go.RowKit Go.Proofs.YtkddpilambnicaaW.PrintWords Go.Proofs.YtkddpilambnicaaW.PrintLast Go.Proofs.YtkddpilambnicaaW.PrintMore Go.Proofs.Ytkddpilambnicaa.Mac Go.Proofs.Ytkddpilambnicaa.Law
attribute [local go_sem] max2_int min2_int max_two min_two max_three min_three max_four min_four   -- for this text's walks alone
set_option linter.unusedVariables false
set_option linter.unusedSimpArgs false

/-! ### laws_eqFoot: function 179 -/
def laws_eqFoot.f (a0_0 : Int) (a0_1 : Int) (a0_2 : Int) (a1_0 : Int) (a1_1 : Int) (a1_2 : Int) : Option (Bool) := if a0_0 = a1_0 then (if a0_1 = a1_1 then (if a0_2 = a1_2 then (some true) else (some false)) else (some false)) else (some false)
set_option maxHeartbeats 8000000 in
set_option maxRecDepth 100000 in
theorem laws_eqFoot.calls (a0_0 : Int) (a0_1 : Int) (a0_2 : Int) (a1_0 : Int) (a1_1 : Int) (a1_2 : Int) (r : Bool) (w : World) (h : laws_eqFoot.f a0_0 a0_1 a0_2 a1_0 a1_1 a1_2 = some r) :
  Calls Try.prog 179 #[.agg #[.int .i64 a0_0, .int .i64 a0_1, .int .i64 a0_2], .agg #[.int .i64 a1_0, .int .i64 a1_1, .int .i64 a1_2]] w fun e w' => e = .returned (.bool r) ∧ Below w.heap.size w w' := by
 have hu166 := Try.underlying166
 have HB := Aside0.mk (Below.refl w.heap.size w)
 have H : (if a0_0 = a1_0 then (if a0_1 = a1_1 then (if a0_2 = a1_2 then (some true) else (some false)) else (some false)) else (some false)) = some r := h
 clear h
 replace H := ieq_ H; rcases H with ⟨-, c3b0, c3b1, H⟩ | ⟨c3, c3b0, c3b1, H⟩
 ·replace H := ieq_ H; rcases H with ⟨-, c4b0, c4b1, H⟩ | ⟨c4, c4b0, c4b1, H⟩
  ·replace H := ieq_ H; rcases H with ⟨-, c5b0, c5b1, H⟩ | ⟨c5, c5b0, c5b1, H⟩
   ·obtain rfl := Option.some.inj H
    go_enter Try.func179, Try.ntmps179
    go_wp2_with (first | ((with_reducible refine gd_ 2 ?_); refine bx_ 2 #[.int .i64 a0_0, .int .i64 a0_1, .int .i64 a0_2] 166 ?_; intro gb434 hg w6 hbox hb; have BK434 := Aside0.mk (hbox); have GW434 := gw_ HB hg; have GE434 := gw_ HB hg; replace HB := bs_ HB hb; clear hb hbox hg) | ((with_reducible refine gd_ 3 ?_); refine bx_ 3 #[.int .i64 a1_0, .int .i64 a1_1, .int .i64 a1_2] 166 ?_; intro gb435 hg w7 hbox hb; have BK435 := Aside0.mk (hbox); have GW435 := gw_ HB hg; have GE435 := gw_ HB hg; replace HB := bs_ HB hb; have NB434_435 := Aside0.mk ((by rw [hg]; exact Nat.ne_of_lt (blk_lt (g := gb434) (o := .cells #[.int .i64 a0_0, .int .i64 a0_1, .int .i64 a0_2] 166 (0, 0)) (up_ BK434.out)) : gb434 ≠ gb435)); have NB435_434 := Aside0.mk ((by rw [hg]; exact Nat.ne_of_gt (blk_lt (g := gb434) (o := .cells #[.int .i64 a0_0, .int .i64 a0_1, .int .i64 a0_2] 166 (0, 0)) (up_ BK434.out)) : gb435 ≠ gb434)); replace BK434 := bb_ BK434 hb; clear hb hbox hg; have hnb8 := NB434_435.out; have hnc8 := NB435_434.out; obtain ⟨hcz9_0, hcz9_1, hcz9_2⟩ := c3_ BK434; have hfz9_0 := blk_frozen BK434.out 0; have hfz9_1 := blk_frozen BK434.out 1; have hfz9_2 := blk_frozen BK434.out 2; obtain ⟨hcz10_0, hcz10_1, hcz10_2⟩ := c3_ BK435; have hfz10_0 := blk_frozen BK435.out 0; have hfz10_1 := blk_frozen BK435.out 1; have hfz10_2 := blk_frozen BK435.out 2))
    go_ret
    exact ⟨re_, up_ HB.out⟩
   ·obtain rfl := Option.some.inj H
    go_enter Try.func179, Try.ntmps179
    go_wp2_with (first | ((with_reducible refine gd_ 2 ?_); refine bx_ 2 #[.int .i64 a0_0, .int .i64 a0_1, .int .i64 a0_2] 166 ?_; intro gb434 hg w11 hbox hb; have BK434 := Aside0.mk (hbox); have GW434 := gw_ HB hg; have GE434 := gw_ HB hg; replace HB := bs_ HB hb; clear hb hbox hg) | ((with_reducible refine gd_ 3 ?_); refine bx_ 3 #[.int .i64 a1_0, .int .i64 a1_1, .int .i64 a1_2] 166 ?_; intro gb435 hg w12 hbox hb; have BK435 := Aside0.mk (hbox); have GW435 := gw_ HB hg; have GE435 := gw_ HB hg; replace HB := bs_ HB hb; have NB434_435 := Aside0.mk ((by rw [hg]; exact Nat.ne_of_lt (blk_lt (g := gb434) (o := .cells #[.int .i64 a0_0, .int .i64 a0_1, .int .i64 a0_2] 166 (0, 0)) (up_ BK434.out)) : gb434 ≠ gb435)); have NB435_434 := Aside0.mk ((by rw [hg]; exact Nat.ne_of_gt (blk_lt (g := gb434) (o := .cells #[.int .i64 a0_0, .int .i64 a0_1, .int .i64 a0_2] 166 (0, 0)) (up_ BK434.out)) : gb435 ≠ gb434)); replace BK434 := bb_ BK434 hb; clear hb hbox hg; have hnb13 := NB434_435.out; have hnc13 := NB435_434.out; obtain ⟨hcz14_0, hcz14_1, hcz14_2⟩ := c3_ BK434; have hfz14_0 := blk_frozen BK434.out 0; have hfz14_1 := blk_frozen BK434.out 1; have hfz14_2 := blk_frozen BK434.out 2; obtain ⟨hcz15_0, hcz15_1, hcz15_2⟩ := c3_ BK435; have hfz15_0 := blk_frozen BK435.out 0; have hfz15_1 := blk_frozen BK435.out 1; have hfz15_2 := blk_frozen BK435.out 2))
    go_ret
    exact ⟨re_, up_ HB.out⟩
  ·obtain rfl := Option.some.inj H
   go_enter Try.func179, Try.ntmps179
   go_wp2_with (first | ((with_reducible refine gd_ 2 ?_); refine bx_ 2 #[.int .i64 a0_0, .int .i64 a0_1, .int .i64 a0_2] 166 ?_; intro gb434 hg w16 hbox hb; have BK434 := Aside0.mk (hbox); have GW434 := gw_ HB hg; have GE434 := gw_ HB hg; replace HB := bs_ HB hb; clear hb hbox hg) | ((with_reducible refine gd_ 3 ?_); refine bx_ 3 #[.int .i64 a1_0, .int .i64 a1_1, .int .i64 a1_2] 166 ?_; intro gb435 hg w17 hbox hb; have BK435 := Aside0.mk (hbox); have GW435 := gw_ HB hg; have GE435 := gw_ HB hg; replace HB := bs_ HB hb; have NB434_435 := Aside0.mk ((by rw [hg]; exact Nat.ne_of_lt (blk_lt (g := gb434) (o := .cells #[.int .i64 a0_0, .int .i64 a0_1, .int .i64 a0_2] 166 (0, 0)) (up_ BK434.out)) : gb434 ≠ gb435)); have NB435_434 := Aside0.mk ((by rw [hg]; exact Nat.ne_of_gt (blk_lt (g := gb434) (o := .cells #[.int .i64 a0_0, .int .i64 a0_1, .int .i64 a0_2] 166 (0, 0)) (up_ BK434.out)) : gb435 ≠ gb434)); replace BK434 := bb_ BK434 hb; clear hb hbox hg; have hnb18 := NB434_435.out; have hnc18 := NB435_434.out; obtain ⟨hcz19_0, hcz19_1, hcz19_2⟩ := c3_ BK434; have hfz19_0 := blk_frozen BK434.out 0; have hfz19_1 := blk_frozen BK434.out 1; have hfz19_2 := blk_frozen BK434.out 2; obtain ⟨hcz20_0, hcz20_1, hcz20_2⟩ := c3_ BK435; have hfz20_0 := blk_frozen BK435.out 0; have hfz20_1 := blk_frozen BK435.out 1; have hfz20_2 := blk_frozen BK435.out 2))
   go_ret
   exact ⟨re_, up_ HB.out⟩
 ·obtain rfl := Option.some.inj H
  go_enter Try.func179, Try.ntmps179
  go_wp2_with (first | ((with_reducible refine gd_ 2 ?_); refine bx_ 2 #[.int .i64 a0_0, .int .i64 a0_1, .int .i64 a0_2] 166 ?_; intro gb434 hg w21 hbox hb; have BK434 := Aside0.mk (hbox); have GW434 := gw_ HB hg; have GE434 := gw_ HB hg; replace HB := bs_ HB hb; clear hb hbox hg) | ((with_reducible refine gd_ 3 ?_); refine bx_ 3 #[.int .i64 a1_0, .int .i64 a1_1, .int .i64 a1_2] 166 ?_; intro gb435 hg w22 hbox hb; have BK435 := Aside0.mk (hbox); have GW435 := gw_ HB hg; have GE435 := gw_ HB hg; replace HB := bs_ HB hb; have NB434_435 := Aside0.mk ((by rw [hg]; exact Nat.ne_of_lt (blk_lt (g := gb434) (o := .cells #[.int .i64 a0_0, .int .i64 a0_1, .int .i64 a0_2] 166 (0, 0)) (up_ BK434.out)) : gb434 ≠ gb435)); have NB435_434 := Aside0.mk ((by rw [hg]; exact Nat.ne_of_gt (blk_lt (g := gb434) (o := .cells #[.int .i64 a0_0, .int .i64 a0_1, .int .i64 a0_2] 166 (0, 0)) (up_ BK434.out)) : gb435 ≠ gb434)); replace BK434 := bb_ BK434 hb; clear hb hbox hg; have hnb23 := NB434_435.out; have hnc23 := NB435_434.out; obtain ⟨hcz24_0, hcz24_1, hcz24_2⟩ := c3_ BK434; have hfz24_0 := blk_frozen BK434.out 0; have hfz24_1 := blk_frozen BK434.out 1; have hfz24_2 := blk_frozen BK434.out 2; obtain ⟨hcz25_0, hcz25_1, hcz25_2⟩ := c3_ BK435; have hfz25_0 := blk_frozen BK435.out 0; have hfz25_1 := blk_frozen BK435.out 1; have hfz25_2 := blk_frozen BK435.out 2))
  go_ret
  exact ⟨re_, up_ HB.out⟩

/-! ### laws_eqFootS: function 134 -/
def laws_eqFootS.l0 : Nat → List (S166) → List (S166) → Int → Option (Bool)
 | 0, _, _, _ => none
 | k + 1, x0, x1, x5 => if x5 < (x0.length : Int) then (if 0 ≤ x5 then (if x5 < (x1.length : Int) then ((laws_eqFoot.f ((rd_T166 x0 x5).f0) ((rd_T166 x0 x5).f1) ((rd_T166 x0 x5).f2) ((rd_T166 x1 x5).f0) ((rd_T166 x1 x5).f1) ((rd_T166 x1 x5).f2)).bind fun t438 => (if t438 = true then (laws_eqFootS.l0 k x0 x1 (wrap64 (x5 + 1))) else (some false))) else (none)) else (none)) else (some true)
def laws_eqFootS.f (k : Nat) (l0 : List (S166)) (l1 : List (S166)) : Option (Bool) := if (l0.length : Int) = (l1.length : Int) then (laws_eqFootS.l0 k l0 l1 0) else (some false)
def laws_eqFootS.T6 : Bool × List (List Nat × List Nat) := (true, [([], []), ([], []), ([0, 1], [0, 1]), ([2], [2]), ([], []), ([], []), ([4, 5], [4, 5]), ([6], [6]), ([3, 7], [3, 7]), ([8], [8])])
def laws_eqFootS.B6 : List Nat := [0, 0, 3, 7, 0, 0, 48, 112, 255, 511]
theorem laws_eqFootS.tab6 : rtab .any (opsOf Try.f134 6) = laws_eqFootS.T6 := by kernel_rfl
theorem laws_eqFootS.bits6 : waitsOk laws_eqFootS.T6.2 laws_eqFootS.B6 = true := by kernel_rfl
set_option maxHeartbeats 8000000 in
set_option maxRecDepth 100000 in
theorem laws_eqFootS.calls (k : Nat) (A0 : Option Addr) (c0 : Nat) (l0 : List (S166)) (A1 : Option Addr) (c1 : Nat) (l1 : List (S166)) (r : Bool) (w : World) (hr0 : Kd.C k166 w A0 l0.length l0) (hc0 : l0.length ≤ c0) (hr1 : Kd.C k166 w A1 l1.length l1) (hc1 : l1.length ≤ c1) (h : laws_eqFootS.f k l0 l1 = some r) :
  Calls Try.prog 134 #[.slice A0 l0.length c0, .slice A1 l1.length c1] w fun e w' => e = .returned (.bool r) ∧ Below w.heap.size w w' := by
 have hu166 := Try.underlying166
 have HR0 := Aside0.mk hr0
 have HC0 := Aside0.mk hc0
 clear hr0 hc0
 have HR1 := Aside0.mk hr1
 have HC1 := Aside0.mk hc1
 clear hr1 hc1
 have HB := Aside0.mk (Below.refl w.heap.size w)
 have H : (if (l0.length : Int) = (l1.length : Int) then (laws_eqFootS.l0 k l0 l1 0) else (some false)) = some r := h
 clear h
 replace H := ieq_ H; rcases H with ⟨c3, c3b0, c3b1, H⟩ | ⟨c3, c3b0, c3b1, H⟩
 ·have c3b2 : (l0.length == l1.length) = true := by first | simpa using c3 | (simp at c3 ⊢; omega)
  clear c3
  have H' := Aside0.mk H
  clear H
  go_enter Try.func134, Try.ntmps134
  go_wp2
  go_loopg [5] k (fun kq v5 w' => ∃ (x5_1 : Int), v5 = .int .i64 x5_1 ∧ Aside0 (laws_eqFootS.l0 kq l0 l1 x5_1 = some r) ∧ Aside0 (kq ≤ k) ∧ Aside0 (Below w.heap.size w w'))
  case atStart => exact ⟨(0), rs_, H', ⟨Nat.le_refl _⟩, ⟨up_ HB.out⟩⟩
  case round =>
   clear H'
   try clear c1
   try clear p2
   try clear c3
   try clear c3b0
   try clear c3b1
   try clear c3b2
   obtain ⟨x5_1, rfl, HA, HK1, HB⟩ := hrel
   cases gk with
   | zero => exact absurd HA.out (by simp [laws_eqFootS.l0])
   | succ k1 =>
    have H := HA.out
    clear HA
    simp only [laws_eqFootS.l0] at H
    replace H := its_ H; rcases H with ⟨c4b0, H⟩ | ⟨c4b0, H⟩
    ·replace H := its_ H; rcases H with ⟨c5b0, H⟩ | ⟨_, ⟨⟩⟩
     replace H := its_ H; rcases H with ⟨c6b0, H⟩ | ⟨_, ⟨⟩⟩
     replace H := bnd_ H; obtain ⟨t438, A7, H⟩ := H
     replace H := itb_ H; rcases H with ⟨rfl, H⟩ | ⟨rfl, H⟩
     ·have H' := Aside0.mk H
      clear H
      try go_wp2
      have n0_ := Aside0.mk (below_drew1 HB.out)
      clear HB
      have HB := n0_
      clear n0_
      have p436 : 0 ≤ (x5_1 : Int) := od_
      have q436 : x5_1 < (l0.length : Int) := od_
      obtain ⟨ad436, e436, hx436_0, hx436_1, hx436_2⟩ := at_T166 HR0.out x5_1 p436 q436
      have hw436_2 := hx436_2
      have hw436_1 := hx436_1
      have hw436_0 := hx436_0
      cases e436
      replace hx436_0 := bh_ HB hx436_0
      replace hx436_1 := bh_ HB hx436_1
      replace hx436_2 := bh_ HB hx436_2
      replace p436 := eq_true p436
      replace q436 := eq_true q436
      have p437 : 0 ≤ (x5_1 : Int) := od_
      have q437 : x5_1 < (l1.length : Int) := od_
      obtain ⟨ad437, e437, hx437_0, hx437_1, hx437_2⟩ := at_T166 HR1.out x5_1 p437 q437
      have hw437_2 := hx437_2
      have hw437_1 := hx437_1
      have hw437_0 := hx437_0
      cases e437
      replace hx437_0 := bh_ HB hx437_0
      replace hx437_1 := bh_ HB hx437_1
      replace hx437_2 := bh_ HB hx437_2
      replace p437 := eq_true p437
      replace q437 := eq_true q437
      refine start_ (n := 10) (S := fun w' => w'.cell? (ad436.add ((x5_1).toNat * 3)) = some (.int .i64 ((rd_T166 l0 x5_1).f0)) ∧ w'.cell? ⟨(ad436.add ((x5_1).toNat * 3)).block, (ad436.add ((x5_1).toNat * 3)).off + 1, none⟩ = some (.int .i64 ((rd_T166 l0 x5_1).f1)) ∧ w'.cell? ⟨(ad436.add ((x5_1).toNat * 3)).block, (ad436.add ((x5_1).toNat * 3)).off + 2, none⟩ = some (.int .i64 ((rd_T166 l0 x5_1).f2)) ∧ w'.cell? (ad437.add ((x5_1).toNat * 3)) = some (.int .i64 ((rd_T166 l1 x5_1).f0)) ∧ w'.cell? ⟨(ad437.add ((x5_1).toNat * 3)).block, (ad437.add ((x5_1).toNat * 3)).off + 1, none⟩ = some (.int .i64 ((rd_T166 l1 x5_1).f1)) ∧ w'.cell? ⟨(ad437.add ((x5_1).toNat * 3)).block, (ad437.add ((x5_1).toNat * 3)).off + 2, none⟩ = some (.int .i64 ((rd_T166 l1 x5_1).f2))) (ds := []) #[false, false, false, false, false, false, false, false, false, false] (by kernel_rfl) rfl rfl ⟨(bh_ HB hw436_0 :), (bh_ HB hw436_1 :), (bh_ HB hw436_2 :), (bh_ HB hw437_0 :), (bh_ HB hw437_1 :), (bh_ HB hw437_2 :)⟩ (fun hHeld => ?_); refine with_tabW laws_eqFootS.tab6 laws_eqFootS.bits6 (fun HT_ HW_ => ?_)
      generalize wr.drew = w9 at HB hx436_0 hx436_1 hx436_2 hx437_0 hx437_1 hx437_2 hHeld ⊢
      refine pu_ 0 (some 17) ?_
      refine pu_ 1 (some 18) ?_
      refine pu_ 2 (some 19) ?_
      refine pu_ 4 (some 21) ?_
      refine pu_ 5 (some 22) ?_
      refine pu_ 6 (some 23) ?_
      refine tk_ 3 (some 20) hHeld ?_
      refine tk_ 7 (some 24) hHeld ?_
      refine one_ (i := 8) (N := some 25) #[true, true, true, true, true, true, true, true, true, false] rfl rfl (one_of HT_.out (by kernel_rfl)) (by decide) (fun K hK => ?_)
      refine goes_ Try.func179 (by kernel_rfl) rfl #[.agg #[.int .i64 ((rd_T166 l0 x5_1).f0), .int .i64 ((rd_T166 l0 x5_1).f1), .int .i64 ((rd_T166 l0 x5_1).f2)], .agg #[.int .i64 ((rd_T166 l1 x5_1).f0), .int .i64 ((rd_T166 l1 x5_1).f1), .int .i64 ((rd_T166 l1 x5_1).f2)]] (by rfl) rfl rfl am_ ?_
      with_reducible refine (laws_eqFoot.calls ((rd_T166 l0 x5_1).f0) ((rd_T166 l0 x5_1).f1) ((rd_T166 l0 x5_1).f2) ((rd_T166 l1 x5_1).f0) ((rd_T166 l1 x5_1).f1) ((rd_T166 l1 x5_1).f2) true _ A7.out).mono ?_
      rintro e w10 ⟨rfl, hb⟩
      refine ⟨_, rfl, ?_⟩
      have n0_ := bs_ HB hb
      clear HB
      have HB := n0_
      clear n0_
      (try clear hb)
      (try clear hb2)
      (try clear hk)
      (try clear hi)
      refine hK.out _ _ ⟨(bh_ HB hw436_0 :), (bh_ HB hw436_1 :), (bh_ HB hw436_2 :), (bh_ HB hw437_0 :), (bh_ HB hw437_1 :), (bh_ HB hw437_2 :)⟩ (fun hHeld => ?_)
      clear hK K
      refine nm_ ?_
      refine pu_ 9 (some 26) ?_
      refine done_ (done_of HT_.out (by kernel_rfl)) ?_
      try go_wp2
      go_roundg k1
      case measure => have := HK1.out; omega
      case rel => exact ⟨(wrap64 (x5_1 + 1)), rs_, H', ⟨by have := HK1.out; omega⟩, ⟨up_ HB.out⟩⟩
     ·obtain rfl := Option.some.inj H
      try go_wp2
      have n0_ := Aside0.mk (below_drew1 HB.out)
      clear HB
      have HB := n0_
      clear n0_
      have p436 : 0 ≤ (x5_1 : Int) := od_
      have q436 : x5_1 < (l0.length : Int) := od_
      obtain ⟨ad436, e436, hx436_0, hx436_1, hx436_2⟩ := at_T166 HR0.out x5_1 p436 q436
      have hw436_2 := hx436_2
      have hw436_1 := hx436_1
      have hw436_0 := hx436_0
      cases e436
      replace hx436_0 := bh_ HB hx436_0
      replace hx436_1 := bh_ HB hx436_1
      replace hx436_2 := bh_ HB hx436_2
      replace p436 := eq_true p436
      replace q436 := eq_true q436
      have p437 : 0 ≤ (x5_1 : Int) := od_
      have q437 : x5_1 < (l1.length : Int) := od_
      obtain ⟨ad437, e437, hx437_0, hx437_1, hx437_2⟩ := at_T166 HR1.out x5_1 p437 q437
      have hw437_2 := hx437_2
      have hw437_1 := hx437_1
      have hw437_0 := hx437_0
      cases e437
      replace hx437_0 := bh_ HB hx437_0
      replace hx437_1 := bh_ HB hx437_1
      replace hx437_2 := bh_ HB hx437_2
      replace p437 := eq_true p437
      replace q437 := eq_true q437
      refine start_ (n := 10) (S := fun w' => w'.cell? (ad436.add ((x5_1).toNat * 3)) = some (.int .i64 ((rd_T166 l0 x5_1).f0)) ∧ w'.cell? ⟨(ad436.add ((x5_1).toNat * 3)).block, (ad436.add ((x5_1).toNat * 3)).off + 1, none⟩ = some (.int .i64 ((rd_T166 l0 x5_1).f1)) ∧ w'.cell? ⟨(ad436.add ((x5_1).toNat * 3)).block, (ad436.add ((x5_1).toNat * 3)).off + 2, none⟩ = some (.int .i64 ((rd_T166 l0 x5_1).f2)) ∧ w'.cell? (ad437.add ((x5_1).toNat * 3)) = some (.int .i64 ((rd_T166 l1 x5_1).f0)) ∧ w'.cell? ⟨(ad437.add ((x5_1).toNat * 3)).block, (ad437.add ((x5_1).toNat * 3)).off + 1, none⟩ = some (.int .i64 ((rd_T166 l1 x5_1).f1)) ∧ w'.cell? ⟨(ad437.add ((x5_1).toNat * 3)).block, (ad437.add ((x5_1).toNat * 3)).off + 2, none⟩ = some (.int .i64 ((rd_T166 l1 x5_1).f2))) (ds := []) #[false, false, false, false, false, false, false, false, false, false] (by kernel_rfl) rfl rfl ⟨(bh_ HB hw436_0 :), (bh_ HB hw436_1 :), (bh_ HB hw436_2 :), (bh_ HB hw437_0 :), (bh_ HB hw437_1 :), (bh_ HB hw437_2 :)⟩ (fun hHeld => ?_); refine with_tabW laws_eqFootS.tab6 laws_eqFootS.bits6 (fun HT_ HW_ => ?_)
      generalize wr.drew = w11 at HB hx436_0 hx436_1 hx436_2 hx437_0 hx437_1 hx437_2 hHeld ⊢
      refine pu_ 0 (some 17) ?_
      refine pu_ 1 (some 18) ?_
      refine pu_ 2 (some 19) ?_
      refine pu_ 4 (some 21) ?_
      refine pu_ 5 (some 22) ?_
      refine pu_ 6 (some 23) ?_
      refine tk_ 3 (some 20) hHeld ?_
      refine tk_ 7 (some 24) hHeld ?_
      refine one_ (i := 8) (N := some 25) #[true, true, true, true, true, true, true, true, true, false] rfl rfl (one_of HT_.out (by kernel_rfl)) (by decide) (fun K hK => ?_)
      refine goes_ Try.func179 (by kernel_rfl) rfl #[.agg #[.int .i64 ((rd_T166 l0 x5_1).f0), .int .i64 ((rd_T166 l0 x5_1).f1), .int .i64 ((rd_T166 l0 x5_1).f2)], .agg #[.int .i64 ((rd_T166 l1 x5_1).f0), .int .i64 ((rd_T166 l1 x5_1).f1), .int .i64 ((rd_T166 l1 x5_1).f2)]] (by rfl) rfl rfl am_ ?_
      with_reducible refine (laws_eqFoot.calls ((rd_T166 l0 x5_1).f0) ((rd_T166 l0 x5_1).f1) ((rd_T166 l0 x5_1).f2) ((rd_T166 l1 x5_1).f0) ((rd_T166 l1 x5_1).f1) ((rd_T166 l1 x5_1).f2) false _ A7.out).mono ?_
      rintro e w12 ⟨rfl, hb⟩
      refine ⟨_, rfl, ?_⟩
      have n0_ := bs_ HB hb
      clear HB
      have HB := n0_
      clear n0_
      (try clear hb)
      (try clear hb2)
      (try clear hk)
      (try clear hi)
      refine hK.out _ _ ⟨(bh_ HB hw436_0 :), (bh_ HB hw436_1 :), (bh_ HB hw436_2 :), (bh_ HB hw437_0 :), (bh_ HB hw437_1 :), (bh_ HB hw437_2 :)⟩ (fun hHeld => ?_)
      clear hK K
      refine nm_ ?_
      refine pu_ 9 (some 26) ?_
      refine done_ (done_of HT_.out (by kernel_rfl)) ?_
      try go_wp2
      go_ret
      exact ⟨re_, up_ HB.out⟩
    ·obtain rfl := Option.some.inj H
     go_wp2
     go_ret
     exact ⟨re_, up_ HB.out⟩
 ·have c3b2 : (l0.length == l1.length) = false := by first | simpa using c3 | (simp at c3 ⊢; omega)
  obtain rfl := Option.some.inj H
  go_enter Try.func134, Try.ntmps134
  go_wp2
  go_ret
  exact ⟨re_, up_ HB.out⟩

/-! ### laws_eqFooting: function 61 -/
def laws_eqFooting.f (k : Nat) (a0_0 : Int) (l0_1 : List (S166)) (a0_2 : Int) (a1_0 : Int) (l1_1 : List (S166)) (a1_2 : Int) : Option (Bool) := if a0_0 = a1_0 then ((laws_eqFootS.f k l0_1 l1_1).bind fun t441 => (if t441 = true then (if a0_2 = a1_2 then (some true) else (some false)) else (some false))) else (some false)
set_option maxHeartbeats 8000000 in
set_option maxRecDepth 100000 in
theorem laws_eqFooting.calls (k : Nat) (a0_0 : Int) (A0_1 : Option Addr) (c0_1 : Nat) (l0_1 : List (S166)) (a0_2 : Int) (a1_0 : Int) (A1_1 : Option Addr) (c1_1 : Nat) (l1_1 : List (S166)) (a1_2 : Int) (r : Bool) (w : World) (hr0_1 : Kd.C k166 w A0_1 l0_1.length l0_1) (hc0_1 : l0_1.length ≤ c0_1) (hr1_1 : Kd.C k166 w A1_1 l1_1.length l1_1) (hc1_1 : l1_1.length ≤ c1_1) (h : laws_eqFooting.f k a0_0 l0_1 a0_2 a1_0 l1_1 a1_2 = some r) :
  Calls Try.prog 61 #[.agg #[.int .i64 a0_0, .slice A0_1 l0_1.length c0_1, .int .i64 a0_2], .agg #[.int .i64 a1_0, .slice A1_1 l1_1.length c1_1, .int .i64 a1_2]] w fun e w' => e = .returned (.bool r) ∧ Below w.heap.size w w' := by
 have hu90 := Try.underlying90
 have HR0_1 := Aside0.mk hr0_1
 have HC0_1 := Aside0.mk hc0_1
 clear hr0_1 hc0_1
 have HR1_1 := Aside0.mk hr1_1
 have HC1_1 := Aside0.mk hc1_1
 clear hr1_1 hc1_1
 have HB := Aside0.mk (Below.refl w.heap.size w)
 have H : (if a0_0 = a1_0 then ((laws_eqFootS.f k l0_1 l1_1).bind fun t441 => (if t441 = true then (if a0_2 = a1_2 then (some true) else (some false)) else (some false))) else (some false)) = some r := h
 clear h
 replace H := ieq_ H; rcases H with ⟨-, c3b0, c3b1, H⟩ | ⟨c3, c3b0, c3b1, H⟩
 ·replace H := bnd_ H; obtain ⟨t441, A4, H⟩ := H
  replace H := itb_ H; rcases H with ⟨rfl, H⟩ | ⟨rfl, H⟩
  ·replace H := ieq_ H; rcases H with ⟨-, c6b0, c6b1, H⟩ | ⟨c6, c6b0, c6b1, H⟩
   ·obtain rfl := Option.some.inj H
    go_enter Try.func61, Try.ntmps61
    go_wp2_with (first | ((with_reducible refine gd_ 2 ?_); refine bx_ 2 #[.int .i64 a0_0, .slice A0_1 l0_1.length c0_1, .int .i64 a0_2] 90 ?_; intro gb439 hg w7 hbox hb; have BK439 := Aside0.mk (hbox); have GW439 := gw_ HB hg; have GE439 := gw_ HB hg; replace HB := bs_ HB hb; clear hb hbox hg) | ((with_reducible refine gd_ 3 ?_); refine bx_ 3 #[.int .i64 a1_0, .slice A1_1 l1_1.length c1_1, .int .i64 a1_2] 90 ?_; intro gb440 hg w8 hbox hb; have BK440 := Aside0.mk (hbox); have GW440 := gw_ HB hg; have GE440 := gw_ HB hg; replace HB := bs_ HB hb; have NB439_440 := Aside0.mk ((by rw [hg]; exact Nat.ne_of_lt (blk_lt (g := gb439) (o := .cells #[.int .i64 a0_0, .slice A0_1 l0_1.length c0_1, .int .i64 a0_2] 90 (0, 0)) (up_ BK439.out)) : gb439 ≠ gb440)); have NB440_439 := Aside0.mk ((by rw [hg]; exact Nat.ne_of_gt (blk_lt (g := gb439) (o := .cells #[.int .i64 a0_0, .slice A0_1 l0_1.length c0_1, .int .i64 a0_2] 90 (0, 0)) (up_ BK439.out)) : gb440 ≠ gb439)); replace BK439 := bb_ BK439 hb; clear hb hbox hg; have hnb9 := NB439_440.out; have hnc9 := NB440_439.out; obtain ⟨hcz10_0, hcz10_1, hcz10_2⟩ := c3_ BK439; have hfz10_0 := blk_frozen BK439.out 0; have hfz10_1 := blk_frozen BK439.out 1; have hfz10_2 := blk_frozen BK439.out 2; obtain ⟨hcz11_0, hcz11_1, hcz11_2⟩ := c3_ BK440; have hfz11_0 := blk_frozen BK440.out 0; have hfz11_1 := blk_frozen BK440.out 1; have hfz11_2 := blk_frozen BK440.out 2) | ((with_reducible refine gc_ 134 ?_); refine gl_ (some 14) Try.func134 (laws_eqFootS.calls k _ _ l0_1 _ _ l1_1 true _ (Kd.C_below HR0_1.out (up_ HB.out)) HC0_1.out (Kd.C_below HR1_1.out (up_ HB.out)) HC1_1.out A4.out) ?_; rintro e w12 ⟨rfl, hb⟩; refine ⟨_, rfl, ?_⟩; replace BK439 := bb_ BK439 hb; replace BK440 := bb_ BK440 hb; replace HB := bs_ HB hb; (try clear hb); (try clear hb2); (try clear hk); (try clear hi); obtain ⟨hcz13_0, hcz13_1, hcz13_2⟩ := c3_ BK439; have hfz13_0 := blk_frozen BK439.out 0; have hfz13_1 := blk_frozen BK439.out 1; have hfz13_2 := blk_frozen BK439.out 2; obtain ⟨hcz14_0, hcz14_1, hcz14_2⟩ := c3_ BK440; have hfz14_0 := blk_frozen BK440.out 0; have hfz14_1 := blk_frozen BK440.out 1; have hfz14_2 := blk_frozen BK440.out 2))
    go_ret
    exact ⟨re_, up_ HB.out⟩
   ·obtain rfl := Option.some.inj H
    go_enter Try.func61, Try.ntmps61
    go_wp2_with (first | ((with_reducible refine gd_ 2 ?_); refine bx_ 2 #[.int .i64 a0_0, .slice A0_1 l0_1.length c0_1, .int .i64 a0_2] 90 ?_; intro gb439 hg w15 hbox hb; have BK439 := Aside0.mk (hbox); have GW439 := gw_ HB hg; have GE439 := gw_ HB hg; replace HB := bs_ HB hb; clear hb hbox hg) | ((with_reducible refine gd_ 3 ?_); refine bx_ 3 #[.int .i64 a1_0, .slice A1_1 l1_1.length c1_1, .int .i64 a1_2] 90 ?_; intro gb440 hg w16 hbox hb; have BK440 := Aside0.mk (hbox); have GW440 := gw_ HB hg; have GE440 := gw_ HB hg; replace HB := bs_ HB hb; have NB439_440 := Aside0.mk ((by rw [hg]; exact Nat.ne_of_lt (blk_lt (g := gb439) (o := .cells #[.int .i64 a0_0, .slice A0_1 l0_1.length c0_1, .int .i64 a0_2] 90 (0, 0)) (up_ BK439.out)) : gb439 ≠ gb440)); have NB440_439 := Aside0.mk ((by rw [hg]; exact Nat.ne_of_gt (blk_lt (g := gb439) (o := .cells #[.int .i64 a0_0, .slice A0_1 l0_1.length c0_1, .int .i64 a0_2] 90 (0, 0)) (up_ BK439.out)) : gb440 ≠ gb439)); replace BK439 := bb_ BK439 hb; clear hb hbox hg; have hnb17 := NB439_440.out; have hnc17 := NB440_439.out; obtain ⟨hcz18_0, hcz18_1, hcz18_2⟩ := c3_ BK439; have hfz18_0 := blk_frozen BK439.out 0; have hfz18_1 := blk_frozen BK439.out 1; have hfz18_2 := blk_frozen BK439.out 2; obtain ⟨hcz19_0, hcz19_1, hcz19_2⟩ := c3_ BK440; have hfz19_0 := blk_frozen BK440.out 0; have hfz19_1 := blk_frozen BK440.out 1; have hfz19_2 := blk_frozen BK440.out 2) | ((with_reducible refine gc_ 134 ?_); refine gl_ (some 14) Try.func134 (laws_eqFootS.calls k _ _ l0_1 _ _ l1_1 true _ (Kd.C_below HR0_1.out (up_ HB.out)) HC0_1.out (Kd.C_below HR1_1.out (up_ HB.out)) HC1_1.out A4.out) ?_; rintro e w20 ⟨rfl, hb⟩; refine ⟨_, rfl, ?_⟩; replace BK439 := bb_ BK439 hb; replace BK440 := bb_ BK440 hb; replace HB := bs_ HB hb; (try clear hb); (try clear hb2); (try clear hk); (try clear hi); obtain ⟨hcz21_0, hcz21_1, hcz21_2⟩ := c3_ BK439; have hfz21_0 := blk_frozen BK439.out 0; have hfz21_1 := blk_frozen BK439.out 1; have hfz21_2 := blk_frozen BK439.out 2; obtain ⟨hcz22_0, hcz22_1, hcz22_2⟩ := c3_ BK440; have hfz22_0 := blk_frozen BK440.out 0; have hfz22_1 := blk_frozen BK440.out 1; have hfz22_2 := blk_frozen BK440.out 2))
    go_ret
    exact ⟨re_, up_ HB.out⟩
  ·obtain rfl := Option.some.inj H
   go_enter Try.func61, Try.ntmps61
   go_wp2_with (first | ((with_reducible refine gd_ 2 ?_); refine bx_ 2 #[.int .i64 a0_0, .slice A0_1 l0_1.length c0_1, .int .i64 a0_2] 90 ?_; intro gb439 hg w23 hbox hb; have BK439 := Aside0.mk (hbox); have GW439 := gw_ HB hg; have GE439 := gw_ HB hg; replace HB := bs_ HB hb; clear hb hbox hg) | ((with_reducible refine gd_ 3 ?_); refine bx_ 3 #[.int .i64 a1_0, .slice A1_1 l1_1.length c1_1, .int .i64 a1_2] 90 ?_; intro gb440 hg w24 hbox hb; have BK440 := Aside0.mk (hbox); have GW440 := gw_ HB hg; have GE440 := gw_ HB hg; replace HB := bs_ HB hb; have NB439_440 := Aside0.mk ((by rw [hg]; exact Nat.ne_of_lt (blk_lt (g := gb439) (o := .cells #[.int .i64 a0_0, .slice A0_1 l0_1.length c0_1, .int .i64 a0_2] 90 (0, 0)) (up_ BK439.out)) : gb439 ≠ gb440)); have NB440_439 := Aside0.mk ((by rw [hg]; exact Nat.ne_of_gt (blk_lt (g := gb439) (o := .cells #[.int .i64 a0_0, .slice A0_1 l0_1.length c0_1, .int .i64 a0_2] 90 (0, 0)) (up_ BK439.out)) : gb440 ≠ gb439)); replace BK439 := bb_ BK439 hb; clear hb hbox hg; have hnb25 := NB439_440.out; have hnc25 := NB440_439.out; obtain ⟨hcz26_0, hcz26_1, hcz26_2⟩ := c3_ BK439; have hfz26_0 := blk_frozen BK439.out 0; have hfz26_1 := blk_frozen BK439.out 1; have hfz26_2 := blk_frozen BK439.out 2; obtain ⟨hcz27_0, hcz27_1, hcz27_2⟩ := c3_ BK440; have hfz27_0 := blk_frozen BK440.out 0; have hfz27_1 := blk_frozen BK440.out 1; have hfz27_2 := blk_frozen BK440.out 2) | ((with_reducible refine gc_ 134 ?_); refine gl_ (some 14) Try.func134 (laws_eqFootS.calls k _ _ l0_1 _ _ l1_1 false _ (Kd.C_below HR0_1.out (up_ HB.out)) HC0_1.out (Kd.C_below HR1_1.out (up_ HB.out)) HC1_1.out A4.out) ?_; rintro e w28 ⟨rfl, hb⟩; refine ⟨_, rfl, ?_⟩; replace BK439 := bb_ BK439 hb; replace BK440 := bb_ BK440 hb; replace HB := bs_ HB hb; (try clear hb); (try clear hb2); (try clear hk); (try clear hi)))
   go_ret
   exact ⟨re_, up_ HB.out⟩
 ·obtain rfl := Option.some.inj H
  go_enter Try.func61, Try.ntmps61
  go_wp2_with (first | ((with_reducible refine gd_ 2 ?_); refine bx_ 2 #[.int .i64 a0_0, .slice A0_1 l0_1.length c0_1, .int .i64 a0_2] 90 ?_; intro gb439 hg w29 hbox hb; have BK439 := Aside0.mk (hbox); have GW439 := gw_ HB hg; have GE439 := gw_ HB hg; replace HB := bs_ HB hb; clear hb hbox hg) | ((with_reducible refine gd_ 3 ?_); refine bx_ 3 #[.int .i64 a1_0, .slice A1_1 l1_1.length c1_1, .int .i64 a1_2] 90 ?_; intro gb440 hg w30 hbox hb; have BK440 := Aside0.mk (hbox); have GW440 := gw_ HB hg; have GE440 := gw_ HB hg; replace HB := bs_ HB hb; have NB439_440 := Aside0.mk ((by rw [hg]; exact Nat.ne_of_lt (blk_lt (g := gb439) (o := .cells #[.int .i64 a0_0, .slice A0_1 l0_1.length c0_1, .int .i64 a0_2] 90 (0, 0)) (up_ BK439.out)) : gb439 ≠ gb440)); have NB440_439 := Aside0.mk ((by rw [hg]; exact Nat.ne_of_gt (blk_lt (g := gb439) (o := .cells #[.int .i64 a0_0, .slice A0_1 l0_1.length c0_1, .int .i64 a0_2] 90 (0, 0)) (up_ BK439.out)) : gb440 ≠ gb439)); replace BK439 := bb_ BK439 hb; clear hb hbox hg; have hnb31 := NB439_440.out; have hnc31 := NB440_439.out; obtain ⟨hcz32_0, hcz32_1, hcz32_2⟩ := c3_ BK439; have hfz32_0 := blk_frozen BK439.out 0; have hfz32_1 := blk_frozen BK439.out 1; have hfz32_2 := blk_frozen BK439.out 2; obtain ⟨hcz33_0, hcz33_1, hcz33_2⟩ := c3_ BK440; have hfz33_0 := blk_frozen BK440.out 0; have hfz33_1 := blk_frozen BK440.out 1; have hfz33_2 := blk_frozen BK440.out 2))
  go_ret
  exact ⟨re_, up_ HB.out⟩

/-! ### laws_markWord: function 62 -/
def laws_markWord.f (k : Nat) (l0_0 : List Int) (a1 : Int) : Option (Int × List Int) := (laws_markIntS.f k l0_0 a1).bind fun bt443 => (some (bt443.1, bt443.2))
set_option maxHeartbeats 8000000 in
set_option maxRecDepth 100000 in
theorem laws_markWord.calls (k : Nat) (P0_0_ : Nat → Prop) (u9000_ : Value) (l0_0 : List Int) (a1 : Int) (r1 : Int) (r2 : List Int) (w0 w : World) (hB : Below w0.heap.size w0 w) (ho0_0 : Kd.R (Kd.int .i64) 3 w w0.heap.size P0_0_ u9000_ l0_0) (h : laws_markWord.f k l0_0 a1 = some (r1, r2)) :
  Calls Try.prog 62 #[.agg #[u9000_], .int .i64 a1] w fun e w' => e = .returned (.int .i64 r1) ∧ Kd.R (Kd.int .i64) 3 w' w0.heap.size (fun k_ => (P0_0_ k_ ∨ w.heap.size ≤ k_)) u9000_ r2 ∧ Below w0.heap.size w0 w' ∧ Kept w w' (fun k_ => P0_0_ k_) := by
 have hu86 := Try.underlying86
 have HO0_0 := Aside0.mk (show Kd.R (Kd.int .i64) 3 w w0.heap.size (fun k_ => (P0_0_ k_ ∨ w.heap.size ≤ k_)) u9000_ l0_0 from Kd.R_mono ho0_0 (fun k_ hk => (.inl hk)))
 have HK := Aside0.mk (Kept.refl w (fun k_ => P0_0_ k_))
 have HW0 := Aside0.mk hB.size
 have HB := Aside0.mk hB
 clear hB
 have H : ((laws_markIntS.f k l0_0 a1).bind fun bt443 => (some (bt443.1, bt443.2))) = some (r1, r2) := h
 clear h
 replace H := Option.bind_eq_some_iff.mp H
 obtain ⟨⟨t443, t444⟩, A30, H⟩ := H
 replace H : (some (t443, t444)) = some (r1, r2) := H
 have A3 := Aside0.mk A30
 clear A30
 simp only [Option.some.injEq, Prod.mk.injEq] at H
 obtain ⟨rfl, rfl⟩ := H
 obtain ⟨Ao4, co4, eo4⟩ := Kd.R_slice HO0_0.out
 subst eo4
 go_enter Try.func62, Try.ntmps62
 go_wp2_with (first | ((with_reducible refine gd_ 2 ?_); refine bx_ 2 #[.slice Ao4 l0_0.length co4] 86 ?_; intro gb442 hg w5 hbox hb; replace HO0_0 := Aside0.mk (Kd.R_below (up_ HO0_0.out) hb); have BK442 := Aside0.mk (hbox); have GW442 := Aside0.mk ((by rw [hg]; exact (by first | exact HK.out.1 | exact (show Kept w _ (fun k_ => P0_0_ k_) from by repeat (first | (with_reducible first | exact HK.out | apply Kept.alloc | apply Kept.drewN | apply Kept.drew) | exact HK.out)).1) : w.heap.size ≤ gb442)); replace HK := Aside0.mk (Kept.below (S := (fun k_ => P0_0_ k_)) (by repeat (first | (with_reducible first | exact HK.out | apply Kept.alloc | apply Kept.drewN | apply Kept.drew) | exact HK.out)) hb); have GE442 := Aside0.mk ((by rw [hg]; exact (below_size (up_ HB.out)) : w0.heap.size ≤ gb442)); replace HB := bs_ HB hb; clear hb hbox hg; have hcz6_0 := c1_ BK442; have hfz6_0 := blk_frozen BK442.out 0) | ((with_reducible refine gc_ 36 ?_); refine goesL_ (some 8) rfl rfl Try.func36 (by kernel_rfl) rfl #[.slice Ao4 l0_0.length co4, .int .i64 a1] rfl am_ ?_; (with_reducible refine (laws_markIntS.calls k (fun k_ => some k_ = (.slice Ao4 l0_0.length co4 : Value).ownBlock) (.slice Ao4 l0_0.length co4) l0_0 a1 t443 t444 w0 _ ?side1 ?side2 A3.out).mono ?_); (case side1 => repeat (first | (with_reducible first | exact HB.out | apply below_alloc | apply pw_below_drewN | apply below_drew1 | refine below_set ?_ GE442.out) | exact HB.out)); (case side2 => exact Kd.R_tight rfl HO0_0.out); rintro e w7 ⟨rfl, hy0, hb, hkp⟩; refine ⟨_, rfl, ?_⟩; replace BK442 := Aside0.mk (blk_kept (up_ BK442.out) hkp (fun hs_ => (fun e_ => (Kd.R_ne HO0_0.out BK442.out (by decide)) e_) hs_)); replace HK := Aside0.mk (Kept.then_ (S := (fun k_ => P0_0_ k_)) (by repeat (first | (with_reducible first | exact HK.out | apply Kept.alloc | apply Kept.drewN | apply Kept.drew | refine Kept.setCell ?_ (.inr GW442.out) _) | exact HK.out)) hkp (fun k_ hs_ => (fun e_ => (HO0_0.out.1 k_ e_.symm)) hs_)); replace HO0_0 := Aside0.mk (Kd.R_reok rfl hy0 (fun k_ e_ => HO0_0.out.1 k_ e_)); replace HB := Aside0.mk (hb); (try clear hb); (try clear hkp); (try clear hy0)))
 go_ret
 exact ⟨re_, by (with_reducible repeat (first | apply Kd.R_alloc | apply Kd.R_drewN | apply Kd.R_drew)); exact HO0_0.out, up_ HB.out, by repeat (first | (with_reducible first | exact HK.out | apply Kept.alloc | apply Kept.drewN | apply Kept.drew | refine Kept.setCell ?_ (.inr GW442.out) _) | exact HK.out)⟩

/-! ### laws_markFootS: function 135 -/
def laws_markFootS.l0 : Nat → List (S166) → Int → Int → Option (Int × (List (S166)))
 | 0, _, _, _ => none
 | k + 1, x0, x1, x5 => if x5 < (x0.length : Int) then (if 0 ≤ x5 then ((some (x0.set (x5 : Int).toNat (⟨x1, (rd_T166 x0 x5).f1, (rd_T166 x0 x5).f2⟩ : S166) : List (S166))).bind fun y445 => ((some (y445.set (x5 : Int).toNat (⟨(rd_T166 y445 x5).f0, wrap64 (x1 + 1), (rd_T166 y445 x5).f2⟩ : S166) : List (S166))).bind fun y446 => (laws_markFootS.l0 k (y446.set (x5 : Int).toNat (⟨(rd_T166 y446 x5).f0, (rd_T166 y446 x5).f1, wrap64 ((wrap64 (x1 + 1)) + 1)⟩ : S166)) (wrap64 ((wrap64 ((wrap64 (x1 + 1)) + 1)) + 1)) (wrap64 (x5 + 1))))) else (none)) else (some (x1, x0))
def laws_markFootS.f (k : Nat) (l0 : List (S166)) (a1 : Int) : Option (Int × (List (S166))) := laws_markFootS.l0 k l0 a1 0
set_option maxHeartbeats 8000000 in
set_option maxRecDepth 100000 in
theorem laws_markFootS.calls (k : Nat) (P0_ : Nat → Prop) (u9000_ : Value) (l0 : List (S166)) (a1 : Int) (r1 : Int) (r2 : List (S166)) (w0 w : World) (hB : Below w0.heap.size w0 w) (ho0 : Kd.R k166 166 w w0.heap.size P0_ u9000_ l0) (h : laws_markFootS.f k l0 a1 = some (r1, r2)) :
  Calls Try.prog 135 #[u9000_, .int .i64 a1] w fun e w' => e = .returned (.int .i64 r1) ∧ Kd.R k166 166 w' w0.heap.size (fun k_ => (P0_ k_ ∨ w.heap.size ≤ k_)) u9000_ r2 ∧ Below w0.heap.size w0 w' ∧ Kept w w' (fun k_ => P0_ k_) := by
 have HO0 := Aside0.mk (show Kd.R k166 166 w w0.heap.size (fun k_ => (P0_ k_ ∨ w.heap.size ≤ k_)) u9000_ l0 from Kd.R_mono ho0 (fun k_ hk => (.inl hk)))
 have HK := Aside0.mk (Kept.refl w (fun k_ => P0_ k_))
 have HW0 := Aside0.mk hB.size
 have HB := Aside0.mk hB
 clear hB
 have H : (laws_markFootS.l0 k l0 a1 0) = some (r1, r2) := h
 clear h
 have H' := Aside0.mk H
 clear H
 go_enter Try.func135, Try.ntmps135
 go_wp2
 go_loopg [1, 5] k (fun kq v1 v5 w' => ∃ (x0_1 : List (S166)) (x1_1 : Int) (x5_1 : Int), v1 = .int .i64 x1_1 ∧ v5 = .int .i64 x5_1 ∧ Aside0 (laws_markFootS.l0 kq x0_1 x1_1 x5_1 = some (r1, r2)) ∧ Aside0 (kq ≤ k) ∧ Aside0 (Kd.R k166 166 w' w0.heap.size (fun k_ => (P0_ k_ ∨ w.heap.size ≤ k_)) u9000_ x0_1) ∧ Aside0 (Kept w w' (fun k_ => P0_ k_)) ∧ Aside0 (Below w0.heap.size w0 w'))
 case atStart => exact ⟨(l0), (a1), (0), rs_, rs_, H', ⟨Nat.le_refl _⟩, ⟨up_ HO0.out⟩, ⟨by repeat (first | (with_reducible first | exact HK.out | apply Kept.alloc | apply Kept.drewN | apply Kept.drew) | exact HK.out)⟩, ⟨up_ HB.out⟩⟩
 case round =>
  clear H'
  try clear c1
  try clear p2
  obtain ⟨x0_1, x1_1, x5_1, rfl, rfl, HA, HK1, HO_0, HK, HB⟩ := hrel
  cases gk with
  | zero => exact absurd HA.out (by simp [laws_markFootS.l0])
  | succ k1 =>
   have H := HA.out
   clear HA
   simp only [laws_markFootS.l0] at H
   replace H := its_ H; rcases H with ⟨c3b0, H⟩ | ⟨c3b0, H⟩
   ·replace H := its_ H; rcases H with ⟨c4b0, H⟩ | ⟨_, ⟨⟩⟩
    obtain ⟨y445, hy445⟩ : ∃ y_ : List (S166), y_ = (x0_1.set (x5_1 : Int).toNat (⟨x1_1, (rd_T166 x0_1 x5_1).f1, (rd_T166 x0_1 x5_1).f2⟩ : S166)) := ⟨_, rfl⟩
    replace H : ((some (y445.set (x5_1 : Int).toNat (⟨(rd_T166 y445 x5_1).f0, wrap64 (x1_1 + 1), (rd_T166 y445 x5_1).f2⟩ : S166) : List (S166))).bind fun y446 => (laws_markFootS.l0 k1 (y446.set (x5_1 : Int).toNat (⟨(rd_T166 y446 x5_1).f0, (rd_T166 y446 x5_1).f1, wrap64 ((wrap64 (x1_1 + 1)) + 1)⟩ : S166)) (wrap64 ((wrap64 ((wrap64 (x1_1 + 1)) + 1)) + 1)) (wrap64 (x5_1 + 1)))) = some (r1, r2) := rh_ hy445 H
    have Ny445 := Aside0.mk hy445
    clear hy445
    obtain ⟨y446, hy446⟩ : ∃ y_ : List (S166), y_ = (y445.set (x5_1 : Int).toNat (⟨(rd_T166 y445 x5_1).f0, wrap64 (x1_1 + 1), (rd_T166 y445 x5_1).f2⟩ : S166)) := ⟨_, rfl⟩
    replace H : (laws_markFootS.l0 k1 (y446.set (x5_1 : Int).toNat (⟨(rd_T166 y446 x5_1).f0, (rd_T166 y446 x5_1).f1, wrap64 ((wrap64 (x1_1 + 1)) + 1)⟩ : S166)) (wrap64 ((wrap64 ((wrap64 (x1_1 + 1)) + 1)) + 1)) (wrap64 (x5_1 + 1))) = some (r1, r2) := rh_ hy446 H
    have Ny446 := Aside0.mk hy446
    clear hy446
    obtain ⟨y447, hy447⟩ : ∃ y_ : List (S166), y_ = (y446.set (x5_1 : Int).toNat (⟨(rd_T166 y446 x5_1).f0, (rd_T166 y446 x5_1).f1, wrap64 ((wrap64 (x1_1 + 1)) + 1)⟩ : S166)) := ⟨_, rfl⟩
    replace H : (laws_markFootS.l0 k1 y447 (wrap64 ((wrap64 ((wrap64 (x1_1 + 1)) + 1)) + 1)) (wrap64 (x5_1 + 1))) = some (r1, r2) := rh_ hy447 H
    have Ny447 := Aside0.mk hy447
    clear hy447
    have H' := Aside0.mk H
    clear H
    obtain ⟨Ao8, co8, eo8⟩ := Kd.R_slice HO_0.out
    subst eo8
    have p5 : 0 ≤ (x5_1 : Int) := od_
    have q5 : (x5_1 : Int) < ((x0_1.length : Int) : Int) := od_
    obtain ⟨go5, co5, eo5, gb5, gl5, cl5, HG5⟩ := Kd.R_form HO_0.out (by omega)
    (first | cases eo5 | (injection eo5 with ea_ en_ ec_; (first | subst ea_ | (injection ea_ with ea_; subst ea_)); subst ec_; clear en_))
    have GB5 := Aside0.mk gb5
    have GG5 := Aside0.mk HG5
    clear gb5 gl5 HG5
    have HMgo5 := Aside0.mk (show (P0_ go5 ∨ w.heap.size ≤ go5) from (HO_0.out.1 _ rfl))
    obtain ⟨ce5, hcl5, hM5, hcc5, hfr5⟩ := Kd.R_elem HO_0.out z166 (x5_1 : Int) p5 q5
    obtain rfl := k166_openM hM5
    have hx5_0 : wr.cell? ⟨go5, (x5_1 : Int).toNat * 3, none⟩ = some (.int .i64 ((rd_T166 x0_1 x5_1).f0)) := hcc5 0 _ rfl
    have hx5_1 : wr.cell? ⟨go5, (x5_1 : Int).toNat * 3 + 1, none⟩ = some (.int .i64 ((rd_T166 x0_1 x5_1).f1)) := hcc5 1 _ rfl
    have hx5_2 : wr.cell? ⟨go5, (x5_1 : Int).toNat * 3 + 2, none⟩ = some (.int .i64 ((rd_T166 x0_1 x5_1).f2)) := hcc5 2 _ rfl
    have hf5_0 : wr.frozen? ⟨go5, (x5_1 : Int).toNat * 3, none⟩ = false := hfr5 0
    have hf5_1 : wr.frozen? ⟨go5, (x5_1 : Int).toNat * 3 + 1, none⟩ = false := hfr5 1
    have hf5_2 : wr.frozen? ⟨go5, (x5_1 : Int).toNat * 3 + 2, none⟩ = false := hfr5 2
    clear hcl5 hcc5 hfr5; (try clear hM5)
    replace p5 := eq_true p5
    replace q5 := eq_true q5
    have HX9 := Aside0.mk (show Kd.R k166 166 wr w0.heap.size (fun k_ => (P0_ k_ ∨ w.heap.size ≤ k_)) (.slice (some ⟨go5, 0, none⟩) x0_1.length co8) x0_1 from (up_ HO_0.out))
    obtain ⟨ce9, hcl9, hM9, hcc9, hfr9⟩ := Kd.R_elem HX9.out z166 (x5_1 : Int) (od_) (by have h_ : (x5_1 : Int) < ((x0_1.length : Int) : Int) := od_; first | exact h_ | (have e_ := (Kd.R_reads' HO_0.out).1; omega) | simpa using h_)
    obtain rfl := k166_openM hM9
    have HP9 := Kd.R_seg HX9.out (x5_1 : Int) (od_) (by have h_ : (x5_1 : Int) < ((x0_1.length : Int) : Int) := od_; first | exact h_ | (have e_ := (Kd.R_reads' HO_0.out).1; omega) | simpa using h_) (seg := [.int .i64 x1_1]) (j := 0) hcl9 hcc9 (show 1 ≤ 3 from by decide) (x' := (⟨x1_1, (rd_T166 x0_1 x5_1).f1, (rd_T166 x0_1 x5_1).f2⟩ : S166)) (k166_mkM _ _ _ (⟨x1_1, (rd_T166 x0_1 x5_1).f1, (rd_T166 x0_1 x5_1).f2⟩ : S166) ) (fun _ hk => hk)
    have hx9_0 := hcc9 0 _ rfl
    (try simp only [show (k166).sz = 3 from rfl, Nat.mul_one, Nat.add_zero] at hx9_0)
    have hf9_0 := hfr9 0
    (try simp only [show (k166).sz = 3 from rfl, Nat.mul_one, Nat.add_zero] at hf9_0)
    clear hcl9 hcc9 hfr9; (try clear hM9)
    go_wp2_with (first | ((with_reducible refine gate_store (t := 3) (p := 16) rfl ?_); refine store_event (t := 3) (p := 16) (v := ?vo_w10) (w1 := (wr.setCell ⟨go5, (x5_1 : Int).toNat * 3, none⟩ (.int .i64 x1_1))) ?hg ?ho ?hn ?hr ?_; (case ho => rfl); (case hg => rfl); (case hn => rfl); (case hr => first | (go_simp; done) | (go_simp; rfl)); intro w10 hw; have hg : wr.grownBy w10 (some go5) := (by rw [hw]; exact HP9.2); have hp_ : Kd.R k166 166 w10 w0.heap.size (fun k_ => (P0_ k_ ∨ w.heap.size ≤ k_)) (.slice (some ⟨go5, 0, none⟩) x0_1.length co8) y445 := (by rw [hw, Ny445.out]; exact HP9.1); clear HP9; replace HB := Aside0.mk ((by rw [hw]; exact below_set (HB.out) GB5.out : Below w0.heap.size w0 w10)); replace HK := Aside0.mk (Kept.of_grown (S := (fun k_ => P0_ k_)) hg (by repeat (first | (with_reducible first | exact HK.out | apply Kept.alloc | apply Kept.drewN | apply Kept.drew) | exact HK.out)) (fun k_ e_ => (HO_0.out.1 k_ e_))); replace HO_0 := Aside0.mk (hp_); clear hg hw hp_; have p6 : 0 ≤ (x5_1 : Int) := od_; have q6 : (x5_1 : Int) < ((x0_1.length : Int) : Int) := od_; obtain ⟨ce6, hcl6, hM6, hcc6, hfr6⟩ := Kd.R_elem HO_0.out z166 (x5_1 : Int) p6 q6; obtain rfl := k166_openM hM6; have hx6_0 : w10.cell? ⟨go5, (x5_1 : Int).toNat * 3, none⟩ = some (.int .i64 ((rd_T166 y445 x5_1).f0)) := hcc6 0 _ rfl; have hx6_1 : w10.cell? ⟨go5, (x5_1 : Int).toNat * 3 + 1, none⟩ = some (.int .i64 ((rd_T166 y445 x5_1).f1)) := hcc6 1 _ rfl; have hx6_2 : w10.cell? ⟨go5, (x5_1 : Int).toNat * 3 + 2, none⟩ = some (.int .i64 ((rd_T166 y445 x5_1).f2)) := hcc6 2 _ rfl; have hf6_0 : w10.frozen? ⟨go5, (x5_1 : Int).toNat * 3, none⟩ = false := hfr6 0; have hf6_1 : w10.frozen? ⟨go5, (x5_1 : Int).toNat * 3 + 1, none⟩ = false := hfr6 1; have hf6_2 : w10.frozen? ⟨go5, (x5_1 : Int).toNat * 3 + 2, none⟩ = false := hfr6 2; clear hcl6 hcc6 hfr6; (try clear hM6); replace p6 := eq_true p6; replace q6 := eq_true q6; have HX11 := Aside0.mk (show Kd.R k166 166 w10 w0.heap.size (fun k_ => (P0_ k_ ∨ w.heap.size ≤ k_)) (.slice (some ⟨go5, 0, none⟩) x0_1.length co8) y445 from (up_ HO_0.out)); obtain ⟨ce11, hcl11, hM11, hcc11, hfr11⟩ := Kd.R_elem HX11.out z166 (x5_1 : Int) (od_) (by have h_ : (x5_1 : Int) < ((x0_1.length : Int) : Int) := od_; first | exact h_ | (have e_ := (Kd.R_reads' HO_0.out).1; omega) | simpa using h_); obtain rfl := k166_openM hM11; have HP11 := Kd.R_seg HX11.out (x5_1 : Int) (od_) (by have h_ : (x5_1 : Int) < ((x0_1.length : Int) : Int) := od_; first | exact h_ | (have e_ := (Kd.R_reads' HO_0.out).1; omega) | simpa using h_) (seg := [.int .i64 (wrap64 (x1_1 + 1))]) (j := 1) hcl11 hcc11 (show 2 ≤ 3 from by decide) (x' := (⟨(rd_T166 y445 x5_1).f0, wrap64 (x1_1 + 1), (rd_T166 y445 x5_1).f2⟩ : S166)) (k166_mkM _ _ _ (⟨(rd_T166 y445 x5_1).f0, wrap64 (x1_1 + 1), (rd_T166 y445 x5_1).f2⟩ : S166) ) (fun _ hk => hk); have hx11_1 := hcc11 1 _ rfl; (try simp only [show (k166).sz = 3 from rfl, Nat.mul_one, Nat.add_zero] at hx11_1); have hf11_1 := hfr11 1; (try simp only [show (k166).sz = 3 from rfl, Nat.mul_one, Nat.add_zero] at hf11_1); clear hcl11 hcc11 hfr11; (try clear hM11)) | ((with_reducible refine gate_store (t := 3) (p := 23) rfl ?_); refine store_event (t := 3) (p := 23) (v := ?vo_w12) (w1 := (w10.setCell ⟨go5, (x5_1 : Int).toNat * 3 + 1, none⟩ (.int .i64 (wrap64 (x1_1 + 1))))) ?hg ?ho ?hn ?hr ?_; (case ho => rfl); (case hg => rfl); (case hn => rfl); (case hr => first | (go_simp; done) | (go_simp; rfl)); intro w12 hw; have hg : w10.grownBy w12 (some go5) := (by rw [hw]; exact HP11.2); have hp_ : Kd.R k166 166 w12 w0.heap.size (fun k_ => (P0_ k_ ∨ w.heap.size ≤ k_)) (.slice (some ⟨go5, 0, none⟩) x0_1.length co8) y446 := (by rw [hw, Ny446.out]; exact HP11.1); clear HP11; replace HB := Aside0.mk ((by rw [hw]; exact below_set (HB.out) GB5.out : Below w0.heap.size w0 w12)); replace HK := Aside0.mk (Kept.of_grown (S := (fun k_ => P0_ k_)) hg (by repeat (first | (with_reducible first | exact HK.out | apply Kept.alloc | apply Kept.drewN | apply Kept.drew) | exact HK.out)) (fun k_ e_ => (HO_0.out.1 k_ e_))); replace HO_0 := Aside0.mk (hp_); clear hg hw hp_; have p7 : 0 ≤ (x5_1 : Int) := od_; have q7 : (x5_1 : Int) < ((x0_1.length : Int) : Int) := od_; obtain ⟨ce7, hcl7, hM7, hcc7, hfr7⟩ := Kd.R_elem HO_0.out z166 (x5_1 : Int) p7 q7; obtain rfl := k166_openM hM7; have hx7_0 : w12.cell? ⟨go5, (x5_1 : Int).toNat * 3, none⟩ = some (.int .i64 ((rd_T166 y446 x5_1).f0)) := hcc7 0 _ rfl; have hx7_1 : w12.cell? ⟨go5, (x5_1 : Int).toNat * 3 + 1, none⟩ = some (.int .i64 ((rd_T166 y446 x5_1).f1)) := hcc7 1 _ rfl; have hx7_2 : w12.cell? ⟨go5, (x5_1 : Int).toNat * 3 + 2, none⟩ = some (.int .i64 ((rd_T166 y446 x5_1).f2)) := hcc7 2 _ rfl; have hf7_0 : w12.frozen? ⟨go5, (x5_1 : Int).toNat * 3, none⟩ = false := hfr7 0; have hf7_1 : w12.frozen? ⟨go5, (x5_1 : Int).toNat * 3 + 1, none⟩ = false := hfr7 1; have hf7_2 : w12.frozen? ⟨go5, (x5_1 : Int).toNat * 3 + 2, none⟩ = false := hfr7 2; clear hcl7 hcc7 hfr7; (try clear hM7); replace p7 := eq_true p7; replace q7 := eq_true q7; have HX13 := Aside0.mk (show Kd.R k166 166 w12 w0.heap.size (fun k_ => (P0_ k_ ∨ w.heap.size ≤ k_)) (.slice (some ⟨go5, 0, none⟩) x0_1.length co8) y446 from (up_ HO_0.out)); obtain ⟨ce13, hcl13, hM13, hcc13, hfr13⟩ := Kd.R_elem HX13.out z166 (x5_1 : Int) (od_) (by have h_ : (x5_1 : Int) < ((x0_1.length : Int) : Int) := od_; first | exact h_ | (have e_ := (Kd.R_reads' HO_0.out).1; omega) | simpa using h_); obtain rfl := k166_openM hM13; have HP13 := Kd.R_seg HX13.out (x5_1 : Int) (od_) (by have h_ : (x5_1 : Int) < ((x0_1.length : Int) : Int) := od_; first | exact h_ | (have e_ := (Kd.R_reads' HO_0.out).1; omega) | simpa using h_) (seg := [.int .i64 (wrap64 ((wrap64 (x1_1 + 1)) + 1))]) (j := 2) hcl13 hcc13 (show 3 ≤ 3 from by decide) (x' := (⟨(rd_T166 y446 x5_1).f0, (rd_T166 y446 x5_1).f1, wrap64 ((wrap64 (x1_1 + 1)) + 1)⟩ : S166)) (k166_mkM _ _ _ (⟨(rd_T166 y446 x5_1).f0, (rd_T166 y446 x5_1).f1, wrap64 ((wrap64 (x1_1 + 1)) + 1)⟩ : S166) ) (fun _ hk => hk); have hx13_2 := hcc13 2 _ rfl; (try simp only [show (k166).sz = 3 from rfl, Nat.mul_one, Nat.add_zero] at hx13_2); have hf13_2 := hfr13 2; (try simp only [show (k166).sz = 3 from rfl, Nat.mul_one, Nat.add_zero] at hf13_2); clear hcl13 hcc13 hfr13; (try clear hM13)) | ((with_reducible refine gate_store (t := 3) (p := 30) rfl ?_); refine store_event (t := 3) (p := 30) (v := ?vo_w14) (w1 := (w12.setCell ⟨go5, (x5_1 : Int).toNat * 3 + 2, none⟩ (.int .i64 (wrap64 ((wrap64 (x1_1 + 1)) + 1))))) ?hg ?ho ?hn ?hr ?_; (case ho => rfl); (case hg => rfl); (case hn => rfl); (case hr => first | (go_simp; done) | (go_simp; rfl)); intro w14 hw; have hg : w12.grownBy w14 (some go5) := (by rw [hw]; exact HP13.2); have hp_ : Kd.R k166 166 w14 w0.heap.size (fun k_ => (P0_ k_ ∨ w.heap.size ≤ k_)) (.slice (some ⟨go5, 0, none⟩) x0_1.length co8) y447 := (by rw [hw, Ny447.out]; exact HP13.1); clear HP13; replace HB := Aside0.mk ((by rw [hw]; exact below_set (HB.out) GB5.out : Below w0.heap.size w0 w14)); replace HK := Aside0.mk (Kept.of_grown (S := (fun k_ => P0_ k_)) hg (by repeat (first | (with_reducible first | exact HK.out | apply Kept.alloc | apply Kept.drewN | apply Kept.drew) | exact HK.out)) (fun k_ e_ => (HO_0.out.1 k_ e_))); replace HO_0 := Aside0.mk (hp_); clear hg hw hp_))
    go_roundg k1
    case measure => have := HK1.out; omega
    case rel => exact ⟨(y447), (wrap64 ((wrap64 ((wrap64 (x1_1 + 1)) + 1)) + 1)), (wrap64 (x5_1 + 1)), rs_, rs_, H', ⟨by have := HK1.out; omega⟩, ⟨up_ HO_0.out⟩, ⟨by repeat (first | (with_reducible first | exact HK.out | apply Kept.alloc | apply Kept.drewN | apply Kept.drew) | exact HK.out)⟩, ⟨up_ HB.out⟩⟩
   ·simp only [Option.some.injEq, Prod.mk.injEq] at H
    obtain ⟨rfl, rfl⟩ := H
    obtain ⟨Ao15, co15, eo15⟩ := Kd.R_slice HO_0.out
    subst eo15
    go_wp2
    go_ret
    exact ⟨re_, by (with_reducible repeat (first | apply Kd.R_alloc | apply Kd.R_drewN | apply Kd.R_drew)); exact HO_0.out, up_ HB.out, by repeat (first | (with_reducible first | exact HK.out | apply Kept.alloc | apply Kept.drewN | apply Kept.drew) | exact HK.out)⟩

/-! ### laws_markFooting: function 63 -/
def laws_markFooting.f (k : Nat) (a0_0 : Int) (l0_1 : List (S166)) (a0_2 : Int) (a1 : Int) : Option (Int × (List (S166))) := (laws_markFootS.f k l0_1 a1).bind fun bt449 => (some (bt449.1, bt449.2))
set_option maxHeartbeats 8000000 in
set_option maxRecDepth 100000 in
theorem laws_markFooting.calls (k : Nat) (a0_0 : Int) (P0_1_ : Nat → Prop) (u9000_ : Value) (l0_1 : List (S166)) (a0_2 : Int) (a1 : Int) (r1 : Int) (r2 : List (S166)) (w0 w : World) (hB : Below w0.heap.size w0 w) (ho0_1 : Kd.R k166 166 w w0.heap.size P0_1_ u9000_ l0_1) (h : laws_markFooting.f k a0_0 l0_1 a0_2 a1 = some (r1, r2)) :
  Calls Try.prog 63 #[.agg #[.int .i64 a0_0, u9000_, .int .i64 a0_2], .int .i64 a1] w fun e w' => e = .returned (.int .i64 r1) ∧ Kd.R k166 166 w' w0.heap.size (fun k_ => (P0_1_ k_ ∨ w.heap.size ≤ k_)) u9000_ r2 ∧ Below w0.heap.size w0 w' ∧ Kept w w' (fun k_ => P0_1_ k_) := by
 have hu90 := Try.underlying90
 have HO0_1 := Aside0.mk (show Kd.R k166 166 w w0.heap.size (fun k_ => (P0_1_ k_ ∨ w.heap.size ≤ k_)) u9000_ l0_1 from Kd.R_mono ho0_1 (fun k_ hk => (.inl hk)))
 have HK := Aside0.mk (Kept.refl w (fun k_ => P0_1_ k_))
 have HW0 := Aside0.mk hB.size
 have HB := Aside0.mk hB
 clear hB
 have H : ((laws_markFootS.f k l0_1 a1).bind fun bt449 => (some (bt449.1, bt449.2))) = some (r1, r2) := h
 clear h
 replace H := Option.bind_eq_some_iff.mp H
 obtain ⟨⟨t449, t450⟩, A30, H⟩ := H
 replace H : (some (t449, t450)) = some (r1, r2) := H
 have A3 := Aside0.mk A30
 clear A30
 simp only [Option.some.injEq, Prod.mk.injEq] at H
 obtain ⟨rfl, rfl⟩ := H
 obtain ⟨Ao4, co4, eo4⟩ := Kd.R_slice HO0_1.out
 subst eo4
 go_enter Try.func63, Try.ntmps63
 go_wp2_with (first | ((with_reducible refine gd_ 2 ?_); refine bx_ 2 #[.int .i64 a0_0, .slice Ao4 l0_1.length co4, .int .i64 a0_2] 90 ?_; intro gb448 hg w5 hbox hb; replace HO0_1 := Aside0.mk (Kd.R_below (up_ HO0_1.out) hb); have BK448 := Aside0.mk (hbox); have GW448 := Aside0.mk ((by rw [hg]; exact (by first | exact HK.out.1 | exact (show Kept w _ (fun k_ => P0_1_ k_) from by repeat (first | (with_reducible first | exact HK.out | apply Kept.alloc | apply Kept.drewN | apply Kept.drew) | exact HK.out)).1) : w.heap.size ≤ gb448)); replace HK := Aside0.mk (Kept.below (S := (fun k_ => P0_1_ k_)) (by repeat (first | (with_reducible first | exact HK.out | apply Kept.alloc | apply Kept.drewN | apply Kept.drew) | exact HK.out)) hb); have GE448 := Aside0.mk ((by rw [hg]; exact (below_size (up_ HB.out)) : w0.heap.size ≤ gb448)); replace HB := bs_ HB hb; clear hb hbox hg; obtain ⟨hcz6_0, hcz6_1, hcz6_2⟩ := c3_ BK448; have hfz6_0 := blk_frozen BK448.out 0; have hfz6_1 := blk_frozen BK448.out 1; have hfz6_2 := blk_frozen BK448.out 2) | ((with_reducible refine gc_ 135 ?_); refine goesL_ (some 8) rfl rfl Try.func135 (by kernel_rfl) rfl #[.slice Ao4 l0_1.length co4, .int .i64 a1] rfl am_ ?_; (with_reducible refine (laws_markFootS.calls k (fun k_ => some k_ = (.slice Ao4 l0_1.length co4 : Value).ownBlock) (.slice Ao4 l0_1.length co4) l0_1 a1 t449 t450 w0 _ ?side1 ?side2 A3.out).mono ?_); (case side1 => repeat (first | (with_reducible first | exact HB.out | apply below_alloc | apply pw_below_drewN | apply below_drew1 | refine below_set ?_ GE448.out) | exact HB.out)); (case side2 => exact Kd.R_tight rfl HO0_1.out); rintro e w7 ⟨rfl, hy0, hb, hkp⟩; refine ⟨_, rfl, ?_⟩; replace BK448 := Aside0.mk (blk_kept (up_ BK448.out) hkp (fun hs_ => (fun e_ => (Kd.R_ne HO0_1.out BK448.out (by decide)) e_) hs_)); replace HK := Aside0.mk (Kept.then_ (S := (fun k_ => P0_1_ k_)) (by repeat (first | (with_reducible first | exact HK.out | apply Kept.alloc | apply Kept.drewN | apply Kept.drew | refine Kept.setCell ?_ (.inr GW448.out) _) | exact HK.out)) hkp (fun k_ hs_ => (fun e_ => (HO0_1.out.1 k_ e_.symm)) hs_)); replace HO0_1 := Aside0.mk (Kd.R_reok rfl hy0 (fun k_ e_ => HO0_1.out.1 k_ e_)); replace HB := Aside0.mk (hb); (try clear hb); (try clear hkp); (try clear hy0)))
 go_ret
 exact ⟨re_, by (with_reducible repeat (first | apply Kd.R_alloc | apply Kd.R_drewN | apply Kd.R_drew)); exact HO0_1.out, up_ HB.out, by repeat (first | (with_reducible first | exact HK.out | apply Kept.alloc | apply Kept.drewN | apply Kept.drew | refine Kept.setCell ?_ (.inr GW448.out) _) | exact HK.out)⟩

/-! ### laws_heldIntS: function 37 -/
def laws_heldIntS.l0 : Nat → List Int → Int → Int → Option (Int)
 | 0, _, _, _ => none
 | k + 1, x0, x1, x5 => if x5 < (x0.length : Int) then (if 0 ≤ x5 then (if (rd x0 x5) = x1 then (laws_heldIntS.l0 k x0 (wrap64 (x1 + 1)) (wrap64 (x5 + 1))) else (some (-1))) else (none)) else (some x1)
def laws_heldIntS.f (k : Nat) (l0 : List Int) (a1 : Int) : Option (Int) := laws_heldIntS.l0 k l0 a1 0
set_option maxHeartbeats 8000000 in
set_option maxRecDepth 100000 in
theorem laws_heldIntS.calls (k : Nat) (A0 : Option Addr) (c0 : Nat) (l0 : List Int) (a1 : Int) (r : Int) (w : World) (hr0 : Kd.C (Kd.int .i64) w A0 l0.length l0) (hc0 : l0.length ≤ c0) (h : laws_heldIntS.f k l0 a1 = some r) :
  Calls Try.prog 37 #[.slice A0 l0.length c0, .int .i64 a1] w fun e w' => e = .returned (.int .i64 r) ∧ Drawn0 w w' := by
 have HR0 := Aside0.mk hr0
 have HC0 := Aside0.mk hc0
 clear hr0 hc0
 have H : (laws_heldIntS.l0 k l0 a1 0) = some r := h
 clear h
 have H' := Aside0.mk H
 clear H
 go_enter Try.func37, Try.ntmps37
 go_wp2
 go_loopg [1, 5] k (fun kq v1 v5 w' => ∃ (x1_1 : Int) (x5_1 : Int), v1 = .int .i64 x1_1 ∧ v5 = .int .i64 x5_1 ∧ Aside0 (laws_heldIntS.l0 kq l0 x1_1 x5_1 = some r) ∧ Aside0 (kq ≤ k) ∧ Drawn0 w w')
 case atStart => exact ⟨(a1), (0), rs_, rs_, H', ⟨Nat.le_refl _⟩, dn_⟩
 case round =>
  clear H'
  try clear p2
  obtain ⟨x1_1, x5_1, rfl, rfl, HA, HK1, ⟨m1, rfl⟩⟩ := hrel
  cases gk with
  | zero => exact absurd HA.out (by simp [laws_heldIntS.l0])
  | succ k1 =>
   have H := HA.out
   clear HA
   simp only [laws_heldIntS.l0] at H
   replace H := its_ H; rcases H with ⟨c3b0, H⟩ | ⟨c3b0, H⟩
   ·replace H := its_ H; rcases H with ⟨c4b0, H⟩ | ⟨_, ⟨⟩⟩
    replace H := ieq_ H; rcases H with ⟨-, c5b0, c5b1, H⟩ | ⟨c5, c5b0, c5b1, H⟩
    ·have H' := Aside0.mk H
     clear H
     have p451 : 0 ≤ (x5_1 : Int) := od_
     have q451 : x5_1 < (l0.length : Int) := od_
     obtain ⟨ad451, e451, hx451_0⟩ := Kd.at_int HR0.out x5_1 p451 q451
     cases e451
     replace p451 := eq_true p451
     replace q451 := eq_true q451
     go_wp2
     go_roundg k1
     case measure => have := HK1.out; omega
     case rel => exact ⟨(wrap64 (x1_1 + 1)), (wrap64 (x5_1 + 1)), rs_, rs_, H', ⟨by have := HK1.out; omega⟩, dn_⟩
    ·obtain rfl := Option.some.inj H
     have p451 : 0 ≤ (x5_1 : Int) := od_
     have q451 : x5_1 < (l0.length : Int) := od_
     obtain ⟨ad451, e451, hx451_0⟩ := Kd.at_int HR0.out x5_1 p451 q451
     cases e451
     replace p451 := eq_true p451
     replace q451 := eq_true q451
     go_wp2
     go_ret
     exact ⟨rs_, dn_⟩
   ·obtain rfl := Option.some.inj H
    go_wp2
    go_ret
    exact ⟨rs_, dn_⟩

end Go.Proofs.Ytkddpilambnicaa.PFnExactFootRows
