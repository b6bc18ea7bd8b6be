/- Walks of Go functions that the law FnExactDifferencesFor uses: written by this session's program out of the kit's printer; each shows that a call comes to the answers of the Lean function beside it. Conditions: each contract's own. -/
import Derived.Test.YtkddpilambnicaaGreatPFnExactDifferencesForx0
import Derived.Test.YtkddpilambnicaaGreatPFnExactDifferencesForx22
namespace Go.Proofs.YtkddpilambnicaaGreat.PFnExactDifferencesFor
open Go.RowKit Go.Proofs.YtkddpilambnicaaGreatW.PrintWords Go.Proofs.YtkddpilambnicaaGreatW.PrintLast Go.Proofs.YtkddpilambnicaaGreatW.PrintMore Go.Proofs.YtkddpilambnicaaGreat.Mac Go.Proofs.YtkddpilambnicaaGreat.Law
attribute [local go_sem] max2_int min2_int max_two min_two max_three min_three max_four min_four   -- for this text's walks alone
set_option linter.unusedVariables false
set_option linter.unusedSimpArgs false

/-! ### laws_eqLinkS: function 89 -/
def laws_eqLinkS.l0 : Nat → List (S70) → List (S70) → Int → Option (Bool)
 | 0, _, _, _ => none
 | k + 1, x0, x1, x5 => if x5 < (x0.length : Int) then (if 0 ≤ x5 then (if x5 < (x1.length : Int) then ((laws_eqLink.f ((rd_T70 x0 x5).f0) ((rd_T70 x0 x5).f1) ((rd_T70 x1 x5).f0) ((rd_T70 x1 x5).f1)).bind fun t516 => (if t516 = true then (laws_eqLinkS.l0 k x0 x1 (wrap64 (x5 + 1))) else (some false))) else (none)) else (none)) else (some true)
def laws_eqLinkS.f (k : Nat) (l0 : List (S70)) (l1 : List (S70)) : Option (Bool) := if (l0.length : Int) = (l1.length : Int) then (laws_eqLinkS.l0 k l0 l1 0) else (some false)
def laws_eqLinkS.T6 : Bool × List (List Nat × List Nat) := (true, [([], []), ([], []), ([0, 1], [0, 1]), ([2], [2]), ([], []), ([], []), ([4, 5], [4, 5]), ([6], [6]), ([3, 7], [3, 7]), ([8], [8])])
def laws_eqLinkS.B6 : List Nat := [0, 0, 3, 7, 0, 0, 48, 112, 255, 511]
theorem laws_eqLinkS.tab6 : rtab .any (opsOf Tryz.f89 6) = laws_eqLinkS.T6 := by kernel_rfl
theorem laws_eqLinkS.bits6 : waitsOk laws_eqLinkS.T6.2 laws_eqLinkS.B6 = true := by kernel_rfl
set_option maxHeartbeats 8000000 in
set_option maxRecDepth 100000 in
theorem laws_eqLinkS.calls (k : Nat) (A0 : Option Addr) (c0 : Nat) (l0 : List (S70)) (A1 : Option Addr) (c1 : Nat) (l1 : List (S70)) (r : Bool) (w : World) (hr0 : Kd.C k70 w A0 l0.length l0) (hc0 : l0.length ≤ c0) (hr1 : Kd.C k70 w A1 l1.length l1) (hc1 : l1.length ≤ c1) (h : laws_eqLinkS.f k l0 l1 = some r) :
  Calls Tryz.prog 89 #[.slice A0 l0.length c0, .slice A1 l1.length c1] w fun e w' => e = .returned (.bool r) ∧ Below w.heap.size w w' := by
 have hu70 := Tryz.underlying70
 have HR0 := Aside0.mk hr0
 have HC0 := Aside0.mk hc0
 clear hr0 hc0
 have HR1 := Aside0.mk hr1
 have HC1 := Aside0.mk hc1
 clear hr1 hc1
 have HB := Aside0.mk (Below.refl w.heap.size w)
 have H : (if (l0.length : Int) = (l1.length : Int) then (laws_eqLinkS.l0 k l0 l1 0) else (some false)) = some r := h
 clear h
 replace H := ieq_ H; rcases H with ⟨c3, c3b0, c3b1, H⟩ | ⟨c3, c3b0, c3b1, H⟩
 ·have c3b2 : (l0.length == l1.length) = true := by first | simpa using c3 | (simp at c3 ⊢; omega)
  clear c3
  have H' := Aside0.mk H
  clear H
  go_enter Tryz.func89, Tryz.ntmps89
  go_wp2
  go_loopg [5] k (fun kq v5 w' => ∃ (x5_1 : Int), v5 = .int .i64 x5_1 ∧ Aside0 (laws_eqLinkS.l0 kq l0 l1 x5_1 = some r) ∧ Aside0 (kq ≤ k) ∧ Aside0 (Below w.heap.size w w'))
  case atStart => exact ⟨(0), rs_, H', ⟨Nat.le_refl _⟩, ⟨up_ HB.out⟩⟩
  case round =>
   clear H'
   try clear c1
   try clear p2
   try clear c3
   try clear c3b0
   try clear c3b1
   try clear c3b2
   obtain ⟨x5_1, rfl, HA, HK1, HB⟩ := hrel
   cases gk with
   | zero => exact absurd HA.out (by simp [laws_eqLinkS.l0])
   | succ k1 =>
    have H := HA.out
    clear HA
    simp only [laws_eqLinkS.l0] at H
    replace H := its_ H; rcases H with ⟨c4b0, H⟩ | ⟨c4b0, H⟩
    ·replace H := its_ H; rcases H with ⟨c5b0, H⟩ | ⟨_, ⟨⟩⟩
     replace H := its_ H; rcases H with ⟨c6b0, H⟩ | ⟨_, ⟨⟩⟩
     replace H := bnd_ H; obtain ⟨t516, A7, H⟩ := H
     replace H := itb_ H; rcases H with ⟨rfl, H⟩ | ⟨rfl, H⟩
     ·have H' := Aside0.mk H
      clear H
      try go_wp2
      have n0_ := Aside0.mk (below_drew1 HB.out)
      clear HB
      have HB := n0_
      clear n0_
      have p514 : 0 ≤ (x5_1 : Int) := od_
      have q514 : x5_1 < (l0.length : Int) := od_
      obtain ⟨ad514, e514, hx514_0, hx514_1⟩ := at_T70 HR0.out x5_1 p514 q514
      have hw514_1 := hx514_1
      have hw514_0 := hx514_0
      cases e514
      replace hx514_0 := bh_ HB hx514_0
      replace hx514_1 := bh_ HB hx514_1
      replace p514 := eq_true p514
      replace q514 := eq_true q514
      have p515 : 0 ≤ (x5_1 : Int) := od_
      have q515 : x5_1 < (l1.length : Int) := od_
      obtain ⟨ad515, e515, hx515_0, hx515_1⟩ := at_T70 HR1.out x5_1 p515 q515
      have hw515_1 := hx515_1
      have hw515_0 := hx515_0
      cases e515
      replace hx515_0 := bh_ HB hx515_0
      replace hx515_1 := bh_ HB hx515_1
      replace p515 := eq_true p515
      replace q515 := eq_true q515
      refine start_ (n := 10) (S := fun w' => w'.cell? (ad514.add ((x5_1).toNat * 2)) = some (.int .u8 ((rd_T70 l0 x5_1).f0)) ∧ w'.cell? ⟨(ad514.add ((x5_1).toNat * 2)).block, (ad514.add ((x5_1).toNat * 2)).off + 1, none⟩ = some (.int .u8 ((rd_T70 l0 x5_1).f1)) ∧ w'.cell? (ad515.add ((x5_1).toNat * 2)) = some (.int .u8 ((rd_T70 l1 x5_1).f0)) ∧ w'.cell? ⟨(ad515.add ((x5_1).toNat * 2)).block, (ad515.add ((x5_1).toNat * 2)).off + 1, none⟩ = some (.int .u8 ((rd_T70 l1 x5_1).f1))) (ds := []) #[false, false, false, false, false, false, false, false, false, false] (by kernel_rfl) rfl rfl ⟨(bh_ HB hw514_0 :), (bh_ HB hw514_1 :), (bh_ HB hw515_0 :), (bh_ HB hw515_1 :)⟩ (fun hHeld => ?_); refine with_tabW laws_eqLinkS.tab6 laws_eqLinkS.bits6 (fun HT_ HW_ => ?_)
      generalize wr.drew = w9 at HB hx514_0 hx514_1 hx515_0 hx515_1 hHeld ⊢
      refine pu_ 0 (some 17) ?_
      refine pu_ 1 (some 18) ?_
      refine pu_ 2 (some 19) ?_
      refine pu_ 4 (some 21) ?_
      refine pu_ 5 (some 22) ?_
      refine pu_ 6 (some 23) ?_
      refine tk_ 3 (some 20) hHeld ?_
      refine tk_ 7 (some 24) hHeld ?_
      refine one_ (i := 8) (N := some 25) #[true, true, true, true, true, true, true, true, true, false] rfl rfl (one_of HT_.out (by kernel_rfl)) (by decide) (fun K hK => ?_)
      refine goes_ Tryz.func114 (by kernel_rfl) rfl #[.agg #[.int .u8 ((rd_T70 l0 x5_1).f0), .int .u8 ((rd_T70 l0 x5_1).f1)], .agg #[.int .u8 ((rd_T70 l1 x5_1).f0), .int .u8 ((rd_T70 l1 x5_1).f1)]] (by rfl) rfl rfl am_ ?_
      with_reducible refine (laws_eqLink.calls ((rd_T70 l0 x5_1).f0) ((rd_T70 l0 x5_1).f1) ((rd_T70 l1 x5_1).f0) ((rd_T70 l1 x5_1).f1) true _ A7.out).mono ?_
      rintro e w10 ⟨rfl, hb⟩
      refine ⟨_, rfl, ?_⟩
      have n0_ := bs_ HB hb
      clear HB
      have HB := n0_
      clear n0_
      (try clear hb)
      (try clear hb2)
      (try clear hk)
      (try clear hi)
      refine hK.out _ _ ⟨(bh_ HB hw514_0 :), (bh_ HB hw514_1 :), (bh_ HB hw515_0 :), (bh_ HB hw515_1 :)⟩ (fun hHeld => ?_)
      clear hK K
      refine nm_ ?_
      refine pu_ 9 (some 26) ?_
      refine done_ (done_of HT_.out (by kernel_rfl)) ?_
      try go_wp2
      go_roundg k1
      case measure => have := HK1.out; omega
      case rel => exact ⟨(wrap64 (x5_1 + 1)), rs_, H', ⟨by have := HK1.out; omega⟩, ⟨up_ HB.out⟩⟩
     ·obtain rfl := Option.some.inj H
      try go_wp2
      have n0_ := Aside0.mk (below_drew1 HB.out)
      clear HB
      have HB := n0_
      clear n0_
      have p514 : 0 ≤ (x5_1 : Int) := od_
      have q514 : x5_1 < (l0.length : Int) := od_
      obtain ⟨ad514, e514, hx514_0, hx514_1⟩ := at_T70 HR0.out x5_1 p514 q514
      have hw514_1 := hx514_1
      have hw514_0 := hx514_0
      cases e514
      replace hx514_0 := bh_ HB hx514_0
      replace hx514_1 := bh_ HB hx514_1
      replace p514 := eq_true p514
      replace q514 := eq_true q514
      have p515 : 0 ≤ (x5_1 : Int) := od_
      have q515 : x5_1 < (l1.length : Int) := od_
      obtain ⟨ad515, e515, hx515_0, hx515_1⟩ := at_T70 HR1.out x5_1 p515 q515
      have hw515_1 := hx515_1
      have hw515_0 := hx515_0
      cases e515
      replace hx515_0 := bh_ HB hx515_0
      replace hx515_1 := bh_ HB hx515_1
      replace p515 := eq_true p515
      replace q515 := eq_true q515
      refine start_ (n := 10) (S := fun w' => w'.cell? (ad514.add ((x5_1).toNat * 2)) = some (.int .u8 ((rd_T70 l0 x5_1).f0)) ∧ w'.cell? ⟨(ad514.add ((x5_1).toNat * 2)).block, (ad514.add ((x5_1).toNat * 2)).off + 1, none⟩ = some (.int .u8 ((rd_T70 l0 x5_1).f1)) ∧ w'.cell? (ad515.add ((x5_1).toNat * 2)) = some (.int .u8 ((rd_T70 l1 x5_1).f0)) ∧ w'.cell? ⟨(ad515.add ((x5_1).toNat * 2)).block, (ad515.add ((x5_1).toNat * 2)).off + 1, none⟩ = some (.int .u8 ((rd_T70 l1 x5_1).f1))) (ds := []) #[false, false, false, false, false, false, false, false, false, false] (by kernel_rfl) rfl rfl ⟨(bh_ HB hw514_0 :), (bh_ HB hw514_1 :), (bh_ HB hw515_0 :), (bh_ HB hw515_1 :)⟩ (fun hHeld => ?_); refine with_tabW laws_eqLinkS.tab6 laws_eqLinkS.bits6 (fun HT_ HW_ => ?_)
      generalize wr.drew = w11 at HB hx514_0 hx514_1 hx515_0 hx515_1 hHeld ⊢
      refine pu_ 0 (some 17) ?_
      refine pu_ 1 (some 18) ?_
      refine pu_ 2 (some 19) ?_
      refine pu_ 4 (some 21) ?_
      refine pu_ 5 (some 22) ?_
      refine pu_ 6 (some 23) ?_
      refine tk_ 3 (some 20) hHeld ?_
      refine tk_ 7 (some 24) hHeld ?_
      refine one_ (i := 8) (N := some 25) #[true, true, true, true, true, true, true, true, true, false] rfl rfl (one_of HT_.out (by kernel_rfl)) (by decide) (fun K hK => ?_)
      refine goes_ Tryz.func114 (by kernel_rfl) rfl #[.agg #[.int .u8 ((rd_T70 l0 x5_1).f0), .int .u8 ((rd_T70 l0 x5_1).f1)], .agg #[.int .u8 ((rd_T70 l1 x5_1).f0), .int .u8 ((rd_T70 l1 x5_1).f1)]] (by rfl) rfl rfl am_ ?_
      with_reducible refine (laws_eqLink.calls ((rd_T70 l0 x5_1).f0) ((rd_T70 l0 x5_1).f1) ((rd_T70 l1 x5_1).f0) ((rd_T70 l1 x5_1).f1) false _ A7.out).mono ?_
      rintro e w12 ⟨rfl, hb⟩
      refine ⟨_, rfl, ?_⟩
      have n0_ := bs_ HB hb
      clear HB
      have HB := n0_
      clear n0_
      (try clear hb)
      (try clear hb2)
      (try clear hk)
      (try clear hi)
      refine hK.out _ _ ⟨(bh_ HB hw514_0 :), (bh_ HB hw514_1 :), (bh_ HB hw515_0 :), (bh_ HB hw515_1 :)⟩ (fun hHeld => ?_)
      clear hK K
      refine nm_ ?_
      refine pu_ 9 (some 26) ?_
      refine done_ (done_of HT_.out (by kernel_rfl)) ?_
      try go_wp2
      go_ret
      exact ⟨re_, up_ HB.out⟩
    ·obtain rfl := Option.some.inj H
     go_wp2
     go_ret
     exact ⟨re_, up_ HB.out⟩
 ·have c3b2 : (l0.length == l1.length) = false := by first | simpa using c3 | (simp at c3 ⊢; omega)
  obtain rfl := Option.some.inj H
  go_enter Tryz.func89, Tryz.ntmps89
  go_wp2
  go_ret
  exact ⟨re_, up_ HB.out⟩

/-! ### laws_eqCandidate: function 65 -/
def laws_eqCandidate.f (k : Nat) (l0_0 : List (S70)) (l1_0 : List (S70)) : Option (Bool) := (laws_eqLinkS.f k l0_0 l1_0).bind fun t519 => (if t519 = true then (some true) else (some false))
set_option maxHeartbeats 8000000 in
set_option maxRecDepth 100000 in
theorem laws_eqCandidate.calls (k : Nat) (A0_0 : Option Addr) (c0_0 : Nat) (l0_0 : List (S70)) (A1_0 : Option Addr) (c1_0 : Nat) (l1_0 : List (S70)) (r : Bool) (w : World) (hr0_0 : Kd.C k70 w A0_0 l0_0.length l0_0) (hc0_0 : l0_0.length ≤ c0_0) (hr1_0 : Kd.C k70 w A1_0 l1_0.length l1_0) (hc1_0 : l1_0.length ≤ c1_0) (h : laws_eqCandidate.f k l0_0 l1_0 = some r) :
  Calls Tryz.prog 65 #[.agg #[.slice A0_0 l0_0.length c0_0], .agg #[.slice A1_0 l1_0.length c1_0]] w fun e w' => e = .returned (.bool r) ∧ Below w.heap.size w w' := by
 have hu50 := Tryz.underlying50
 have HR0_0 := Aside0.mk hr0_0
 have HC0_0 := Aside0.mk hc0_0
 clear hr0_0 hc0_0
 have HR1_0 := Aside0.mk hr1_0
 have HC1_0 := Aside0.mk hc1_0
 clear hr1_0 hc1_0
 have HB := Aside0.mk (Below.refl w.heap.size w)
 have H : ((laws_eqLinkS.f k l0_0 l1_0).bind fun t519 => (if t519 = true then (some true) else (some false))) = some r := h
 clear h
 replace H := bnd_ H; obtain ⟨t519, A3, H⟩ := H
 replace H := itb_ H; rcases H with ⟨rfl, H⟩ | ⟨rfl, H⟩
 ·obtain rfl := Option.some.inj H
  go_enter Tryz.func65, Tryz.ntmps65
  go_wp2_with (first | ((refine gd_ 2 ?_); refine bx_ 2 #[.slice A0_0 l0_0.length c0_0] 50 ?_; intro gb517 hg w5 hbox hb; have BK517 := Aside0.mk (hbox); have GW517 := gw_ HB hg; have GE517 := gw_ HB hg; replace HB := bs_ HB hb; clear hb hbox hg) | ((refine gd_ 3 ?_); refine bx_ 3 #[.slice A1_0 l1_0.length c1_0] 50 ?_; intro gb518 hg w6 hbox hb; have BK518 := Aside0.mk (hbox); have GW518 := gw_ HB hg; have GE518 := gw_ HB hg; replace HB := bs_ HB hb; have NB517_518 := Aside0.mk ((by rw [hg]; exact Nat.ne_of_lt (blk_lt (g := gb517) (o := .cells #[.slice A0_0 l0_0.length c0_0] 50 (0, 0)) (up_ BK517.out)) : gb517 ≠ gb518)); have NB518_517 := Aside0.mk ((by rw [hg]; exact Nat.ne_of_gt (blk_lt (g := gb517) (o := .cells #[.slice A0_0 l0_0.length c0_0] 50 (0, 0)) (up_ BK517.out)) : gb518 ≠ gb517)); replace BK517 := bb_ BK517 hb; clear hb hbox hg; have hnb7 := NB517_518.out; have hnc7 := NB518_517.out; have hcz8_0 := c1_ BK517; have hfz8_0 := blk_frozen BK517.out 0; have hcz9_0 := c1_ BK518; have hfz9_0 := blk_frozen BK518.out 0) | ((refine gc_ 89 ?_); refine gl_ (some 9) Tryz.func89 (laws_eqLinkS.calls k _ _ l0_0 _ _ l1_0 true _ (Kd.C_below HR0_0.out (up_ HB.out)) HC0_0.out (Kd.C_below HR1_0.out (up_ HB.out)) HC1_0.out A3.out) ?_; rintro e w10 ⟨rfl, hb⟩; refine ⟨_, rfl, ?_⟩; replace BK517 := bb_ BK517 hb; replace BK518 := bb_ BK518 hb; replace HB := bs_ HB hb; (try clear hb); (try clear hb2); (try clear hk); (try clear hi)))
  go_ret
  exact ⟨re_, up_ HB.out⟩
 ·obtain rfl := Option.some.inj H
  go_enter Tryz.func65, Tryz.ntmps65
  go_wp2_with (first | ((refine gd_ 2 ?_); refine bx_ 2 #[.slice A0_0 l0_0.length c0_0] 50 ?_; intro gb517 hg w11 hbox hb; have BK517 := Aside0.mk (hbox); have GW517 := gw_ HB hg; have GE517 := gw_ HB hg; replace HB := bs_ HB hb; clear hb hbox hg) | ((refine gd_ 3 ?_); refine bx_ 3 #[.slice A1_0 l1_0.length c1_0] 50 ?_; intro gb518 hg w12 hbox hb; have BK518 := Aside0.mk (hbox); have GW518 := gw_ HB hg; have GE518 := gw_ HB hg; replace HB := bs_ HB hb; have NB517_518 := Aside0.mk ((by rw [hg]; exact Nat.ne_of_lt (blk_lt (g := gb517) (o := .cells #[.slice A0_0 l0_0.length c0_0] 50 (0, 0)) (up_ BK517.out)) : gb517 ≠ gb518)); have NB518_517 := Aside0.mk ((by rw [hg]; exact Nat.ne_of_gt (blk_lt (g := gb517) (o := .cells #[.slice A0_0 l0_0.length c0_0] 50 (0, 0)) (up_ BK517.out)) : gb518 ≠ gb517)); replace BK517 := bb_ BK517 hb; clear hb hbox hg; have hnb13 := NB517_518.out; have hnc13 := NB518_517.out; have hcz14_0 := c1_ BK517; have hfz14_0 := blk_frozen BK517.out 0; have hcz15_0 := c1_ BK518; have hfz15_0 := blk_frozen BK518.out 0) | ((refine gc_ 89 ?_); refine gl_ (some 9) Tryz.func89 (laws_eqLinkS.calls k _ _ l0_0 _ _ l1_0 false _ (Kd.C_below HR0_0.out (up_ HB.out)) HC0_0.out (Kd.C_below HR1_0.out (up_ HB.out)) HC1_0.out A3.out) ?_; rintro e w16 ⟨rfl, hb⟩; refine ⟨_, rfl, ?_⟩; replace BK517 := bb_ BK517 hb; replace BK518 := bb_ BK518 hb; replace HB := bs_ HB hb; (try clear hb); (try clear hb2); (try clear hk); (try clear hi)))
  go_ret
  exact ⟨re_, up_ HB.out⟩

/-! ### laws_eqCandidateS: function 40 -/
def laws_eqCandidateS.l0 : Nat → List (S50) → List (S50) → Int → Option (Bool)
 | 0, _, _, _ => none
 | k + 1, x0, x1, x5 => if x5 < (x0.length : Int) then (if 0 ≤ x5 then (if x5 < (x1.length : Int) then ((laws_eqCandidate.f k ((rd_T50 x0 x5).f0) ((rd_T50 x1 x5).f0)).bind fun t522 => (if t522 = true then (laws_eqCandidateS.l0 k x0 x1 (wrap64 (x5 + 1))) else (some false))) else (none)) else (none)) else (some true)
def laws_eqCandidateS.f (k : Nat) (l0 : List (S50)) (l1 : List (S50)) : Option (Bool) := if (l0.length : Int) = (l1.length : Int) then (laws_eqCandidateS.l0 k l0 l1 0) else (some false)
def laws_eqCandidateS.T6 : Bool × List (List Nat × List Nat) := (true, [([], []), ([], []), ([0, 1], [0, 1]), ([2], [2]), ([], []), ([], []), ([4, 5], [4, 5]), ([6], [6]), ([3, 7], [3, 7]), ([8], [8])])
def laws_eqCandidateS.B6 : List Nat := [0, 0, 3, 7, 0, 0, 48, 112, 255, 511]
theorem laws_eqCandidateS.tab6 : rtab .any (opsOf Tryz.f40 6) = laws_eqCandidateS.T6 := by kernel_rfl
theorem laws_eqCandidateS.bits6 : waitsOk laws_eqCandidateS.T6.2 laws_eqCandidateS.B6 = true := by kernel_rfl
set_option maxHeartbeats 8000000 in
set_option maxRecDepth 100000 in
theorem laws_eqCandidateS.calls (k : Nat) (A0 : Option Addr) (c0 : Nat) (l0 : List (S50)) (A1 : Option Addr) (c1 : Nat) (l1 : List (S50)) (r : Bool) (w : World) (hr0 : Kd.C k50 w A0 l0.length l0) (hc0 : l0.length ≤ c0) (hr1 : Kd.C k50 w A1 l1.length l1) (hc1 : l1.length ≤ c1) (h : laws_eqCandidateS.f k l0 l1 = some r) :
  Calls Tryz.prog 40 #[.slice A0 l0.length c0, .slice A1 l1.length c1] w fun e w' => e = .returned (.bool r) ∧ Below w.heap.size w w' := by
 have hu50 := Tryz.underlying50
 have HR0 := Aside0.mk hr0
 have HC0 := Aside0.mk hc0
 clear hr0 hc0
 have HR1 := Aside0.mk hr1
 have HC1 := Aside0.mk hc1
 clear hr1 hc1
 have HB := Aside0.mk (Below.refl w.heap.size w)
 have H : (if (l0.length : Int) = (l1.length : Int) then (laws_eqCandidateS.l0 k l0 l1 0) else (some false)) = some r := h
 clear h
 replace H := ieq_ H; rcases H with ⟨c3, c3b0, c3b1, H⟩ | ⟨c3, c3b0, c3b1, H⟩
 ·have c3b2 : (l0.length == l1.length) = true := by first | simpa using c3 | (simp at c3 ⊢; omega)
  clear c3
  have H' := Aside0.mk H
  clear H
  go_enter Tryz.func40, Tryz.ntmps40
  go_wp2
  go_loopg [5] k (fun kq v5 w' => ∃ (x5_1 : Int), v5 = .int .i64 x5_1 ∧ Aside0 (laws_eqCandidateS.l0 kq l0 l1 x5_1 = some r) ∧ Aside0 (kq ≤ k) ∧ Aside0 (Below w.heap.size w w'))
  case atStart => exact ⟨(0), rs_, H', ⟨Nat.le_refl _⟩, ⟨up_ HB.out⟩⟩
  case round =>
   clear H'
   try clear c1
   try clear p2
   try clear c3
   try clear c3b0
   try clear c3b1
   try clear c3b2
   obtain ⟨x5_1, rfl, HA, HK1, HB⟩ := hrel
   cases gk with
   | zero => exact absurd HA.out (by simp [laws_eqCandidateS.l0])
   | succ k1 =>
    have H := HA.out
    clear HA
    simp only [laws_eqCandidateS.l0] at H
    replace H := its_ H; rcases H with ⟨c4b0, H⟩ | ⟨c4b0, H⟩
    ·replace H := its_ H; rcases H with ⟨c5b0, H⟩ | ⟨_, ⟨⟩⟩
     replace H := its_ H; rcases H with ⟨c6b0, H⟩ | ⟨_, ⟨⟩⟩
     replace H := bnd_ H; obtain ⟨t522, A7, H⟩ := H
     replace H := itb_ H; rcases H with ⟨rfl, H⟩ | ⟨rfl, H⟩
     ·have H' := Aside0.mk H
      clear H
      try go_wp2
      have n0_ := Aside0.mk (below_drew1 HB.out)
      clear HB
      have HB := n0_
      clear n0_
      have p520 : 0 ≤ (x5_1 : Int) := od_
      have q520 : x5_1 < (l0.length : Int) := od_
      obtain ⟨ad520, A520_0, c520_0, e520, hx520_0, hl520_0, hi520_0⟩ := at_T50 HR0.out x5_1 p520 q520
      have hw520_0 := hx520_0
      cases e520
      replace hx520_0 := bh_ HB hx520_0
      have HR520_0 := Aside0.mk hi520_0
      have HC520_0 := Aside0.mk hl520_0
      clear hi520_0 hl520_0
      replace p520 := eq_true p520
      replace q520 := eq_true q520
      have p521 : 0 ≤ (x5_1 : Int) := od_
      have q521 : x5_1 < (l1.length : Int) := od_
      obtain ⟨ad521, A521_0, c521_0, e521, hx521_0, hl521_0, hi521_0⟩ := at_T50 HR1.out x5_1 p521 q521
      have hw521_0 := hx521_0
      cases e521
      replace hx521_0 := bh_ HB hx521_0
      have HR521_0 := Aside0.mk hi521_0
      have HC521_0 := Aside0.mk hl521_0
      clear hi521_0 hl521_0
      replace p521 := eq_true p521
      replace q521 := eq_true q521
      refine start_ (n := 10) (S := fun w' => w'.cell? (ad520.add (x5_1).toNat) = some (.slice A520_0 ((rd_T50 l0 x5_1).f0).length c520_0) ∧ w'.cell? (ad521.add (x5_1).toNat) = some (.slice A521_0 ((rd_T50 l1 x5_1).f0).length c521_0)) (ds := []) #[false, false, false, false, false, false, false, false, false, false] (by kernel_rfl) rfl rfl ⟨(bh_ HB hw520_0 :), (bh_ HB hw521_0 :)⟩ (fun hHeld => ?_); refine with_tabW laws_eqCandidateS.tab6 laws_eqCandidateS.bits6 (fun HT_ HW_ => ?_)
      generalize wr.drew = w9 at HB HR520_0 HR521_0 hx520_0 hx521_0 hHeld ⊢
      refine pu_ 0 (some 17) ?_
      refine pu_ 1 (some 18) ?_
      refine pu_ 2 (some 19) ?_
      refine pu_ 4 (some 21) ?_
      refine pu_ 5 (some 22) ?_
      refine pu_ 6 (some 23) ?_
      refine tk_ 3 (some 20) hHeld ?_
      refine tk_ 7 (some 24) hHeld ?_
      refine one_ (i := 8) (N := some 25) #[true, true, true, true, true, true, true, true, true, false] rfl rfl (one_of HT_.out (by kernel_rfl)) (by decide) (fun K hK => ?_)
      refine goes_ Tryz.func65 (by kernel_rfl) rfl #[.agg #[.slice A520_0 ((rd_T50 l0 x5_1).f0).length c520_0], .agg #[.slice A521_0 ((rd_T50 l1 x5_1).f0).length c521_0]] (by rfl) rfl rfl am_ ?_
      with_reducible refine (laws_eqCandidate.calls k1 _ _ ((rd_T50 l0 x5_1).f0) _ _ ((rd_T50 l1 x5_1).f0) true _ ?side1 ?side2 ?side3 ?side4 A7.out).mono ?_
      (case side1 => exact Kd.C_below HR520_0.out (up_ HB.out))
      (case side2 => exact HC520_0.out)
      (case side3 => exact Kd.C_below HR521_0.out (up_ HB.out))
      (case side4 => exact HC521_0.out)
      rintro e w10 ⟨rfl, hb⟩
      refine ⟨_, rfl, ?_⟩
      have n0_ := bs_ HB hb
      clear HB
      have HB := n0_
      clear n0_
      (try clear hb)
      (try clear hb2)
      (try clear hk)
      (try clear hi)
      refine hK.out _ _ ⟨(bh_ HB hw520_0 :), (bh_ HB hw521_0 :)⟩ (fun hHeld => ?_)
      clear hK K
      refine nm_ ?_
      refine pu_ 9 (some 26) ?_
      refine done_ (done_of HT_.out (by kernel_rfl)) ?_
      try go_wp2
      go_roundg k1
      case measure => have := HK1.out; omega
      case rel => exact ⟨(wrap64 (x5_1 + 1)), rs_, H', ⟨by have := HK1.out; omega⟩, ⟨up_ HB.out⟩⟩
     ·obtain rfl := Option.some.inj H
      try go_wp2
      have n0_ := Aside0.mk (below_drew1 HB.out)
      clear HB
      have HB := n0_
      clear n0_
      have p520 : 0 ≤ (x5_1 : Int) := od_
      have q520 : x5_1 < (l0.length : Int) := od_
      obtain ⟨ad520, A520_0, c520_0, e520, hx520_0, hl520_0, hi520_0⟩ := at_T50 HR0.out x5_1 p520 q520
      have hw520_0 := hx520_0
      cases e520
      replace hx520_0 := bh_ HB hx520_0
      have HR520_0 := Aside0.mk hi520_0
      have HC520_0 := Aside0.mk hl520_0
      clear hi520_0 hl520_0
      replace p520 := eq_true p520
      replace q520 := eq_true q520
      have p521 : 0 ≤ (x5_1 : Int) := od_
      have q521 : x5_1 < (l1.length : Int) := od_
      obtain ⟨ad521, A521_0, c521_0, e521, hx521_0, hl521_0, hi521_0⟩ := at_T50 HR1.out x5_1 p521 q521
      have hw521_0 := hx521_0
      cases e521
      replace hx521_0 := bh_ HB hx521_0
      have HR521_0 := Aside0.mk hi521_0
      have HC521_0 := Aside0.mk hl521_0
      clear hi521_0 hl521_0
      replace p521 := eq_true p521
      replace q521 := eq_true q521
      refine start_ (n := 10) (S := fun w' => w'.cell? (ad520.add (x5_1).toNat) = some (.slice A520_0 ((rd_T50 l0 x5_1).f0).length c520_0) ∧ w'.cell? (ad521.add (x5_1).toNat) = some (.slice A521_0 ((rd_T50 l1 x5_1).f0).length c521_0)) (ds := []) #[false, false, false, false, false, false, false, false, false, false] (by kernel_rfl) rfl rfl ⟨(bh_ HB hw520_0 :), (bh_ HB hw521_0 :)⟩ (fun hHeld => ?_); refine with_tabW laws_eqCandidateS.tab6 laws_eqCandidateS.bits6 (fun HT_ HW_ => ?_)
      generalize wr.drew = w11 at HB HR520_0 HR521_0 hx520_0 hx521_0 hHeld ⊢
      refine pu_ 0 (some 17) ?_
      refine pu_ 1 (some 18) ?_
      refine pu_ 2 (some 19) ?_
      refine pu_ 4 (some 21) ?_
      refine pu_ 5 (some 22) ?_
      refine pu_ 6 (some 23) ?_
      refine tk_ 3 (some 20) hHeld ?_
      refine tk_ 7 (some 24) hHeld ?_
      refine one_ (i := 8) (N := some 25) #[true, true, true, true, true, true, true, true, true, false] rfl rfl (one_of HT_.out (by kernel_rfl)) (by decide) (fun K hK => ?_)
      refine goes_ Tryz.func65 (by kernel_rfl) rfl #[.agg #[.slice A520_0 ((rd_T50 l0 x5_1).f0).length c520_0], .agg #[.slice A521_0 ((rd_T50 l1 x5_1).f0).length c521_0]] (by rfl) rfl rfl am_ ?_
      with_reducible refine (laws_eqCandidate.calls k1 _ _ ((rd_T50 l0 x5_1).f0) _ _ ((rd_T50 l1 x5_1).f0) false _ ?side1 ?side2 ?side3 ?side4 A7.out).mono ?_
      (case side1 => exact Kd.C_below HR520_0.out (up_ HB.out))
      (case side2 => exact HC520_0.out)
      (case side3 => exact Kd.C_below HR521_0.out (up_ HB.out))
      (case side4 => exact HC521_0.out)
      rintro e w12 ⟨rfl, hb⟩
      refine ⟨_, rfl, ?_⟩
      have n0_ := bs_ HB hb
      clear HB
      have HB := n0_
      clear n0_
      (try clear hb)
      (try clear hb2)
      (try clear hk)
      (try clear hi)
      refine hK.out _ _ ⟨(bh_ HB hw520_0 :), (bh_ HB hw521_0 :)⟩ (fun hHeld => ?_)
      clear hK K
      refine nm_ ?_
      refine pu_ 9 (some 26) ?_
      refine done_ (done_of HT_.out (by kernel_rfl)) ?_
      try go_wp2
      go_ret
      exact ⟨re_, up_ HB.out⟩
    ·obtain rfl := Option.some.inj H
     go_wp2
     go_ret
     exact ⟨re_, up_ HB.out⟩
 ·have c3b2 : (l0.length == l1.length) = false := by first | simpa using c3 | (simp at c3 ⊢; omega)
  obtain rfl := Option.some.inj H
  go_enter Tryz.func40, Tryz.ntmps40
  go_wp2
  go_ret
  exact ⟨re_, up_ HB.out⟩

end Go.Proofs.YtkddpilambnicaaGreat.PFnExactDifferencesFor
