/- Walks of Go functions that the law FnExactWeightedWinners uses: written by this session's program out of the kit's printer; each shows that a call comes to the answers of the Lean function beside it. Conditions: each contract's own. -/
import Derived.Test.YtkddpilambnicaaGreatPFnExactWeightedWinnersx0
import Derived.Test.YtkddpilambnicaaGreatPFnExactWeightedWinnersx2
import Derived.Test.YtkddpilambnicaaGreatPFnExactWeightedWinnersx3
namespace Go.Proofs.YtkddpilambnicaaGreat.PFnExactWeightedWinners
open Go.RowKit Go.Proofs.YtkddpilambnicaaGreatW.PrintWords Go.Proofs.YtkddpilambnicaaGreatW.PrintLast Go.Proofs.YtkddpilambnicaaGreatW.PrintMore Go.Proofs.YtkddpilambnicaaGreat.Mac Go.Proofs.YtkddpilambnicaaGreat.Law
attribute [local go_sem] max2_int min2_int max_two min_two max_three min_three max_four min_four   -- for this text's walks alone
set_option linter.unusedVariables false
set_option linter.unusedSimpArgs false

/-! ### laws_eqCandidateS: function 40 -/
def laws_eqCandidateS.l0 : Nat → List (S50) → List (S50) → Int → Option (Bool)
 | 0, _, _, _ => none
 | k + 1, x0, x1, x5 => if x5 < (x0.length : Int) then (if 0 ≤ x5 then (if x5 < (x1.length : Int) then ((laws_eqCandidate.f k ((rd_T50 x0 x5).f0) ((rd_T50 x1 x5).f0)).bind fun t183 => (if t183 = true then (laws_eqCandidateS.l0 k x0 x1 (wrap64 (x5 + 1))) else (some false))) else (none)) else (none)) else (some true)
def laws_eqCandidateS.f (k : Nat) (l0 : List (S50)) (l1 : List (S50)) : Option (Bool) := if (l0.length : Int) = (l1.length : Int) then (laws_eqCandidateS.l0 k l0 l1 0) else (some false)
theorem laws_eqCandidateS.mono_l : ∀ k, (∀ y0 y1 y2, LeO (laws_eqCandidateS.l0 k y0 y1 y2) (laws_eqCandidateS.l0 (k + 1) y0 y1 y2))
 | 0 => fun _ _ _ r h => by simp [laws_eqCandidateS.l0] at h
 | k + 1 => by
  have ih0 := laws_eqCandidateS.mono_l k
  ·intro y0 y1 y2
   unfold laws_eqCandidateS.l0
   have m0 := laws_eqCandidate.mono
   exact mn_
def laws_eqCandidateS.T6 : Bool × List (List Nat × List Nat) := (true, [([], []), ([], []), ([0, 1], [0, 1]), ([2], [2]), ([], []), ([], []), ([4, 5], [4, 5]), ([6], [6]), ([3, 7], [3, 7]), ([8], [8])])
def laws_eqCandidateS.B6 : List Nat := [0, 0, 3, 7, 0, 0, 48, 112, 255, 511]
theorem laws_eqCandidateS.tab6 : rtab .any (opsOf Tryz.f40 6) = laws_eqCandidateS.T6 := by kernel_rfl
theorem laws_eqCandidateS.bits6 : waitsOk laws_eqCandidateS.T6.2 laws_eqCandidateS.B6 = true := by kernel_rfl
set_option maxHeartbeats 8000000 in
set_option maxRecDepth 100000 in
theorem laws_eqCandidateS.calls (k : Nat) (A0 : Option Addr) (c0 : Nat) (l0 : List (S50)) (A1 : Option Addr) (c1 : Nat) (l1 : List (S50)) (r : Bool) (w : World) (hr0 : Kd.C k50 w A0 l0.length l0) (hc0 : l0.length ≤ c0) (hr1 : Kd.C k50 w A1 l1.length l1) (hc1 : l1.length ≤ c1) (h : laws_eqCandidateS.f k l0 l1 = some r) :
  Calls Tryz.prog 40 #[.slice A0 l0.length c0, .slice A1 l1.length c1] w fun e w' => e = .returned (.bool r) ∧ Below w.heap.size w w' := by
 have hu50 := Tryz.underlying50
 have HR0 := Aside0.mk hr0
 have HC0 := Aside0.mk hc0
 clear hr0 hc0
 have HR1 := Aside0.mk hr1
 have HC1 := Aside0.mk hc1
 clear hr1 hc1
 have HB := Aside0.mk (Below.refl w.heap.size w)
 have H : (if (l0.length : Int) = (l1.length : Int) then (laws_eqCandidateS.l0 k l0 l1 0) else (some false)) = some r := h
 clear h
 replace H := ieq_ H; rcases H with ⟨c3, c3b0, c3b1, H⟩ | ⟨c3, c3b0, c3b1, H⟩
 ·have c3b2 : (l0.length == l1.length) = true := by first | simpa using c3 | (simp at c3 ⊢; omega)
  clear c3
  have H' := Aside0.mk H
  clear H
  go_enter Tryz.func40, Tryz.ntmps40
  go_wp2
  go_loopg [5] k (fun kq v5 w' => ∃ (x5_1 : Int), v5 = .int .i64 x5_1 ∧ Aside0 (laws_eqCandidateS.l0 kq l0 l1 x5_1 = some r) ∧ Aside0 (kq ≤ k) ∧ Aside0 (Below w.heap.size w w'))
  case atStart => exact ⟨(0), rs_, H', ⟨Nat.le_refl _⟩, ⟨up_ HB.out⟩⟩
  case round =>
   clear H'
   try clear c1
   try clear p2
   try clear c3
   try clear c3b0
   try clear c3b1
   try clear c3b2
   obtain ⟨x5_1, rfl, HA, HK1, HB⟩ := hrel
   cases gk with
   | zero => exact absurd HA.out (by simp [laws_eqCandidateS.l0])
   | succ k1 =>
    have H := HA.out
    clear HA
    simp only [laws_eqCandidateS.l0] at H
    replace H := its_ H; rcases H with ⟨c4b0, H⟩ | ⟨c4b0, H⟩
    ·replace H := its_ H; rcases H with ⟨c5b0, H⟩ | ⟨_, ⟨⟩⟩
     replace H := its_ H; rcases H with ⟨c6b0, H⟩ | ⟨_, ⟨⟩⟩
     replace H := bnd_ H; obtain ⟨t183, A7, H⟩ := H
     replace H := itb_ H; rcases H with ⟨rfl, H⟩ | ⟨rfl, H⟩
     ·have H' := Aside0.mk H
      clear H
      try go_wp2
      have n0_ := Aside0.mk (below_drew1 HB.out)
      clear HB
      have HB := n0_
      clear n0_
      have p181 : 0 ≤ (x5_1 : Int) := od_
      have q181 : x5_1 < (l0.length : Int) := od_
      obtain ⟨ad181, A181_0, c181_0, e181, hx181_0, hl181_0, hi181_0⟩ := at_T50 HR0.out x5_1 p181 q181
      have hw181_0 := hx181_0
      cases e181
      replace hx181_0 := bh_ HB hx181_0
      have HR181_0 := Aside0.mk hi181_0
      have HC181_0 := Aside0.mk hl181_0
      clear hi181_0 hl181_0
      replace p181 := eq_true p181
      replace q181 := eq_true q181
      have p182 : 0 ≤ (x5_1 : Int) := od_
      have q182 : x5_1 < (l1.length : Int) := od_
      obtain ⟨ad182, A182_0, c182_0, e182, hx182_0, hl182_0, hi182_0⟩ := at_T50 HR1.out x5_1 p182 q182
      have hw182_0 := hx182_0
      cases e182
      replace hx182_0 := bh_ HB hx182_0
      have HR182_0 := Aside0.mk hi182_0
      have HC182_0 := Aside0.mk hl182_0
      clear hi182_0 hl182_0
      replace p182 := eq_true p182
      replace q182 := eq_true q182
      refine start_ (n := 10) (S := fun w' => w'.cell? (ad181.add (x5_1).toNat) = some (.slice A181_0 ((rd_T50 l0 x5_1).f0).length c181_0) ∧ w'.cell? (ad182.add (x5_1).toNat) = some (.slice A182_0 ((rd_T50 l1 x5_1).f0).length c182_0)) (ds := []) #[false, false, false, false, false, false, false, false, false, false] (by kernel_rfl) rfl rfl ⟨(bh_ HB hw181_0 :), (bh_ HB hw182_0 :)⟩ (fun hHeld => ?_); refine with_tabW laws_eqCandidateS.tab6 laws_eqCandidateS.bits6 (fun HT_ HW_ => ?_)
      generalize wr.drew = w9 at HB HR181_0 HR182_0 hx181_0 hx182_0 hHeld ⊢
      refine pu_ 0 (some 17) ?_
      refine pu_ 1 (some 18) ?_
      refine pu_ 2 (some 19) ?_
      refine pu_ 4 (some 21) ?_
      refine pu_ 5 (some 22) ?_
      refine pu_ 6 (some 23) ?_
      refine tk_ 3 (some 20) hHeld ?_
      refine tk_ 7 (some 24) hHeld ?_
      refine one_ (i := 8) (N := some 25) #[true, true, true, true, true, true, true, true, true, false] rfl rfl (one_of HT_.out (by kernel_rfl)) (by decide) (fun K hK => ?_)
      refine goes_ Tryz.func65 (by kernel_rfl) rfl #[.agg #[.slice A181_0 ((rd_T50 l0 x5_1).f0).length c181_0], .agg #[.slice A182_0 ((rd_T50 l1 x5_1).f0).length c182_0]] (by rfl) rfl rfl am_ ?_
      with_reducible refine (laws_eqCandidate.calls k1 _ _ ((rd_T50 l0 x5_1).f0) _ _ ((rd_T50 l1 x5_1).f0) true _ ?side1 ?side2 ?side3 ?side4 A7.out).mono ?_
      (case side1 => exact Kd.C_below HR181_0.out (up_ HB.out))
      (case side2 => exact HC181_0.out)
      (case side3 => exact Kd.C_below HR182_0.out (up_ HB.out))
      (case side4 => exact HC182_0.out)
      rintro e w10 ⟨rfl, hb⟩
      refine ⟨_, rfl, ?_⟩
      have n0_ := bs_ HB hb
      clear HB
      have HB := n0_
      clear n0_
      (try clear hb)
      (try clear hb2)
      (try clear hk)
      (try clear hi)
      refine hK.out _ _ ⟨(bh_ HB hw181_0 :), (bh_ HB hw182_0 :)⟩ (fun hHeld => ?_)
      clear hK K
      refine nm_ ?_
      refine pu_ 9 (some 26) ?_
      refine done_ (done_of HT_.out (by kernel_rfl)) ?_
      try go_wp2
      go_roundg k1
      case measure => have := HK1.out; omega
      case rel => exact ⟨(wrap64 (x5_1 + 1)), rs_, H', ⟨by have := HK1.out; omega⟩, ⟨up_ HB.out⟩⟩
     ·obtain rfl := Option.some.inj H
      try go_wp2
      have n0_ := Aside0.mk (below_drew1 HB.out)
      clear HB
      have HB := n0_
      clear n0_
      have p181 : 0 ≤ (x5_1 : Int) := od_
      have q181 : x5_1 < (l0.length : Int) := od_
      obtain ⟨ad181, A181_0, c181_0, e181, hx181_0, hl181_0, hi181_0⟩ := at_T50 HR0.out x5_1 p181 q181
      have hw181_0 := hx181_0
      cases e181
      replace hx181_0 := bh_ HB hx181_0
      have HR181_0 := Aside0.mk hi181_0
      have HC181_0 := Aside0.mk hl181_0
      clear hi181_0 hl181_0
      replace p181 := eq_true p181
      replace q181 := eq_true q181
      have p182 : 0 ≤ (x5_1 : Int) := od_
      have q182 : x5_1 < (l1.length : Int) := od_
      obtain ⟨ad182, A182_0, c182_0, e182, hx182_0, hl182_0, hi182_0⟩ := at_T50 HR1.out x5_1 p182 q182
      have hw182_0 := hx182_0
      cases e182
      replace hx182_0 := bh_ HB hx182_0
      have HR182_0 := Aside0.mk hi182_0
      have HC182_0 := Aside0.mk hl182_0
      clear hi182_0 hl182_0
      replace p182 := eq_true p182
      replace q182 := eq_true q182
      refine start_ (n := 10) (S := fun w' => w'.cell? (ad181.add (x5_1).toNat) = some (.slice A181_0 ((rd_T50 l0 x5_1).f0).length c181_0) ∧ w'.cell? (ad182.add (x5_1).toNat) = some (.slice A182_0 ((rd_T50 l1 x5_1).f0).length c182_0)) (ds := []) #[false, false, false, false, false, false, false, false, false, false] (by kernel_rfl) rfl rfl ⟨(bh_ HB hw181_0 :), (bh_ HB hw182_0 :)⟩ (fun hHeld => ?_); refine with_tabW laws_eqCandidateS.tab6 laws_eqCandidateS.bits6 (fun HT_ HW_ => ?_)
      generalize wr.drew = w11 at HB HR181_0 HR182_0 hx181_0 hx182_0 hHeld ⊢
      refine pu_ 0 (some 17) ?_
      refine pu_ 1 (some 18) ?_
      refine pu_ 2 (some 19) ?_
      refine pu_ 4 (some 21) ?_
      refine pu_ 5 (some 22) ?_
      refine pu_ 6 (some 23) ?_
      refine tk_ 3 (some 20) hHeld ?_
      refine tk_ 7 (some 24) hHeld ?_
      refine one_ (i := 8) (N := some 25) #[true, true, true, true, true, true, true, true, true, false] rfl rfl (one_of HT_.out (by kernel_rfl)) (by decide) (fun K hK => ?_)
      refine goes_ Tryz.func65 (by kernel_rfl) rfl #[.agg #[.slice A181_0 ((rd_T50 l0 x5_1).f0).length c181_0], .agg #[.slice A182_0 ((rd_T50 l1 x5_1).f0).length c182_0]] (by rfl) rfl rfl am_ ?_
      with_reducible refine (laws_eqCandidate.calls k1 _ _ ((rd_T50 l0 x5_1).f0) _ _ ((rd_T50 l1 x5_1).f0) false _ ?side1 ?side2 ?side3 ?side4 A7.out).mono ?_
      (case side1 => exact Kd.C_below HR181_0.out (up_ HB.out))
      (case side2 => exact HC181_0.out)
      (case side3 => exact Kd.C_below HR182_0.out (up_ HB.out))
      (case side4 => exact HC182_0.out)
      rintro e w12 ⟨rfl, hb⟩
      refine ⟨_, rfl, ?_⟩
      have n0_ := bs_ HB hb
      clear HB
      have HB := n0_
      clear n0_
      (try clear hb)
      (try clear hb2)
      (try clear hk)
      (try clear hi)
      refine hK.out _ _ ⟨(bh_ HB hw181_0 :), (bh_ HB hw182_0 :)⟩ (fun hHeld => ?_)
      clear hK K
      refine nm_ ?_
      refine pu_ 9 (some 26) ?_
      refine done_ (done_of HT_.out (by kernel_rfl)) ?_
      try go_wp2
      go_ret
      exact ⟨re_, up_ HB.out⟩
    ·obtain rfl := Option.some.inj H
     go_wp2
     go_ret
     exact ⟨re_, up_ HB.out⟩
 ·have c3b2 : (l0.length == l1.length) = false := by first | simpa using c3 | (simp at c3 ⊢; omega)
  obtain rfl := Option.some.inj H
  go_enter Tryz.func40, Tryz.ntmps40
  go_wp2
  go_ret
  exact ⟨re_, up_ HB.out⟩

/-! ### laws_eqTableau: function 18 -/
def laws_eqTableau.f (k : Nat) (a0_0 : ByteArray) (l0_1 : List ByteArray) (l0_2 : List (S50)) (l0_3 : List (List Int)) (a1_0 : ByteArray) (l1_1 : List ByteArray) (l1_2 : List (S50)) (l1_3 : List (List Int)) : Option (Bool) := if a0_0.toList = a1_0.toList then ((laws_eqStringS.f k l0_1 l1_1).bind fun t186 => (if t186 = true then ((laws_eqCandidateS.f k l0_2 l1_2).bind fun t187 => (if t187 = true then ((laws_eqIntSS.f k l0_3 l1_3).bind fun t188 => (if t188 = true then (some true) else (some false))) else (some false))) else (some false))) else (some false)
set_option maxHeartbeats 8000000 in
set_option maxRecDepth 100000 in
theorem laws_eqTableau.calls (k : Nat) (a0_0 : ByteArray) (A0_1 : Option Addr) (c0_1 : Nat) (l0_1 : List ByteArray) (A0_2 : Option Addr) (c0_2 : Nat) (l0_2 : List (S50)) (A0_3 : Option Addr) (c0_3 : Nat) (l0_3 : List (List Int)) (a1_0 : ByteArray) (A1_1 : Option Addr) (c1_1 : Nat) (l1_1 : List ByteArray) (A1_2 : Option Addr) (c1_2 : Nat) (l1_2 : List (S50)) (A1_3 : Option Addr) (c1_3 : Nat) (l1_3 : List (List Int)) (r : Bool) (w : World) (hr0_1 : Kd.C Kd.string w A0_1 l0_1.length l0_1) (hc0_1 : l0_1.length ≤ c0_1) (hr0_2 : Kd.C k50 w A0_2 l0_2.length l0_2) (hc0_2 : l0_2.length ≤ c0_2) (hr0_3 : Kd.C (Kd.slice 3 (Kd.int .i64)) w A0_3 l0_3.length l0_3) (hc0_3 : l0_3.length ≤ c0_3) (hr1_1 : Kd.C Kd.string w A1_1 l1_1.length l1_1) (hc1_1 : l1_1.length ≤ c1_1) (hr1_2 : Kd.C k50 w A1_2 l1_2.length l1_2) (hc1_2 : l1_2.length ≤ c1_2) (hr1_3 : Kd.C (Kd.slice 3 (Kd.int .i64)) w A1_3 l1_3.length l1_3) (hc1_3 : l1_3.length ≤ c1_3) (h : laws_eqTableau.f k a0_0 l0_1 l0_2 l0_3 a1_0 l1_1 l1_2 l1_3 = some r) :
  Calls Tryz.prog 18 #[.agg #[.string a0_0, .slice A0_1 l0_1.length c0_1, .slice A0_2 l0_2.length c0_2, .slice A0_3 l0_3.length c0_3], .agg #[.string a1_0, .slice A1_1 l1_1.length c1_1, .slice A1_2 l1_2.length c1_2, .slice A1_3 l1_3.length c1_3]] w fun e w' => e = .returned (.bool r) ∧ Below w.heap.size w w' := by
 have hu38 := Tryz.underlying38
 have HR0_1 := Aside0.mk hr0_1
 have HC0_1 := Aside0.mk hc0_1
 clear hr0_1 hc0_1
 have HR0_2 := Aside0.mk hr0_2
 have HC0_2 := Aside0.mk hc0_2
 clear hr0_2 hc0_2
 have HR0_3 := Aside0.mk hr0_3
 have HC0_3 := Aside0.mk hc0_3
 clear hr0_3 hc0_3
 have HR1_1 := Aside0.mk hr1_1
 have HC1_1 := Aside0.mk hc1_1
 clear hr1_1 hc1_1
 have HR1_2 := Aside0.mk hr1_2
 have HC1_2 := Aside0.mk hc1_2
 clear hr1_2 hc1_2
 have HR1_3 := Aside0.mk hr1_3
 have HC1_3 := Aside0.mk hc1_3
 clear hr1_3 hc1_3
 have HB := Aside0.mk (Below.refl w.heap.size w)
 have H : (if a0_0.toList = a1_0.toList then ((laws_eqStringS.f k l0_1 l1_1).bind fun t186 => (if t186 = true then ((laws_eqCandidateS.f k l0_2 l1_2).bind fun t187 => (if t187 = true then ((laws_eqIntSS.f k l0_3 l1_3).bind fun t188 => (if t188 = true then (some true) else (some false))) else (some false))) else (some false))) else (some false)) = some r := h
 clear h
 replace H := ieq_ H; rcases H with ⟨-, c3b0, c3b1, H⟩ | ⟨c3, c3b0, c3b1, H⟩
 ·replace H := bnd_ H; obtain ⟨t186, A4, H⟩ := H
  replace H := itb_ H; rcases H with ⟨rfl, H⟩ | ⟨rfl, H⟩
  ·replace H := bnd_ H; obtain ⟨t187, A6, H⟩ := H
   replace H := itb_ H; rcases H with ⟨rfl, H⟩ | ⟨rfl, H⟩
   ·replace H := bnd_ H; obtain ⟨t188, A8, H⟩ := H
    replace H := itb_ H; rcases H with ⟨rfl, H⟩ | ⟨rfl, H⟩
    ·obtain rfl := Option.some.inj H
     go_enter Tryz.func18, Tryz.ntmps18
     go_wp2_with (first | ((refine gd_ 2 ?_); refine bx_ 2 #[.string a0_0, .slice A0_1 l0_1.length c0_1, .slice A0_2 l0_2.length c0_2, .slice A0_3 l0_3.length c0_3] 38 ?_; intro gb184 hg w10 hbox hb; have BK184 := Aside0.mk (hbox); have GW184 := gw_ HB hg; have GE184 := gw_ HB hg; replace HB := bs_ HB hb; clear hb hbox hg) | ((refine gd_ 3 ?_); refine bx_ 3 #[.string a1_0, .slice A1_1 l1_1.length c1_1, .slice A1_2 l1_2.length c1_2, .slice A1_3 l1_3.length c1_3] 38 ?_; intro gb185 hg w11 hbox hb; have BK185 := Aside0.mk (hbox); have GW185 := gw_ HB hg; have GE185 := gw_ HB hg; replace HB := bs_ HB hb; have NB184_185 := Aside0.mk ((by rw [hg]; exact Nat.ne_of_lt (blk_lt (g := gb184) (o := .cells #[.string a0_0, .slice A0_1 l0_1.length c0_1, .slice A0_2 l0_2.length c0_2, .slice A0_3 l0_3.length c0_3] 38 (0, 0)) (up_ BK184.out)) : gb184 ≠ gb185)); have NB185_184 := Aside0.mk ((by rw [hg]; exact Nat.ne_of_gt (blk_lt (g := gb184) (o := .cells #[.string a0_0, .slice A0_1 l0_1.length c0_1, .slice A0_2 l0_2.length c0_2, .slice A0_3 l0_3.length c0_3] 38 (0, 0)) (up_ BK184.out)) : gb185 ≠ gb184)); replace BK184 := bb_ BK184 hb; clear hb hbox hg; have hnb12 := NB184_185.out; have hnc12 := NB185_184.out; obtain ⟨hcz13_0, hcz13_1, hcz13_2, hcz13_3⟩ := c4_ BK184; have hfz13_0 := blk_frozen BK184.out 0; have hfz13_1 := blk_frozen BK184.out 1; have hfz13_2 := blk_frozen BK184.out 2; have hfz13_3 := blk_frozen BK184.out 3; obtain ⟨hcz14_0, hcz14_1, hcz14_2, hcz14_3⟩ := c4_ BK185; have hfz14_0 := blk_frozen BK185.out 0; have hfz14_1 := blk_frozen BK185.out 1; have hfz14_2 := blk_frozen BK185.out 2; have hfz14_3 := blk_frozen BK185.out 3) | ((refine gc_ 11 ?_); refine gq_ (some 14) Tryz.func11 (laws_eqStringS.calls k _ _ l0_1 _ _ l1_1 true _ (Kd.C_below HR0_1.out (up_ HB.out)) HC0_1.out (Kd.C_below HR1_1.out (up_ HB.out)) HC1_1.out A4.out) (fun nd => ?_)) | ((refine gc_ 40 ?_); refine gl_ (some 20) Tryz.func40 (laws_eqCandidateS.calls k _ _ l0_2 _ _ l1_2 true _ (Kd.C_below HR0_2.out (up_ HB.out)) HC0_2.out (Kd.C_below HR1_2.out (up_ HB.out)) HC1_2.out A6.out) ?_; rintro e w15 ⟨rfl, hb⟩; refine ⟨_, rfl, ?_⟩; replace BK184 := bb_ BK184 hb; replace BK185 := bb_ BK185 hb; replace HB := bs_ HB hb; (try clear hb); (try clear hb2); (try clear hk); (try clear hi); obtain ⟨hcz16_0, hcz16_1, hcz16_2, hcz16_3⟩ := c4_ BK184; have hfz16_0 := blk_frozen BK184.out 0; have hfz16_1 := blk_frozen BK184.out 1; have hfz16_2 := blk_frozen BK184.out 2; have hfz16_3 := blk_frozen BK184.out 3; obtain ⟨hcz17_0, hcz17_1, hcz17_2, hcz17_3⟩ := c4_ BK185; have hfz17_0 := blk_frozen BK185.out 0; have hfz17_1 := blk_frozen BK185.out 1; have hfz17_2 := blk_frozen BK185.out 2; have hfz17_3 := blk_frozen BK185.out 3) | ((refine gc_ 17 ?_); refine gq_ (some 26) Tryz.func17 (laws_eqIntSS.calls k _ _ l0_3 _ _ l1_3 true _ (Kd.C_below HR0_3.out (up_ HB.out)) HC0_3.out (Kd.C_below HR1_3.out (up_ HB.out)) HC1_3.out A8.out) (fun nd => ?_)))
     go_ret
     exact ⟨re_, up_ HB.out⟩
    ·obtain rfl := Option.some.inj H
     go_enter Tryz.func18, Tryz.ntmps18
     go_wp2_with (first | ((refine gd_ 2 ?_); refine bx_ 2 #[.string a0_0, .slice A0_1 l0_1.length c0_1, .slice A0_2 l0_2.length c0_2, .slice A0_3 l0_3.length c0_3] 38 ?_; intro gb184 hg w18 hbox hb; have BK184 := Aside0.mk (hbox); have GW184 := gw_ HB hg; have GE184 := gw_ HB hg; replace HB := bs_ HB hb; clear hb hbox hg) | ((refine gd_ 3 ?_); refine bx_ 3 #[.string a1_0, .slice A1_1 l1_1.length c1_1, .slice A1_2 l1_2.length c1_2, .slice A1_3 l1_3.length c1_3] 38 ?_; intro gb185 hg w19 hbox hb; have BK185 := Aside0.mk (hbox); have GW185 := gw_ HB hg; have GE185 := gw_ HB hg; replace HB := bs_ HB hb; have NB184_185 := Aside0.mk ((by rw [hg]; exact Nat.ne_of_lt (blk_lt (g := gb184) (o := .cells #[.string a0_0, .slice A0_1 l0_1.length c0_1, .slice A0_2 l0_2.length c0_2, .slice A0_3 l0_3.length c0_3] 38 (0, 0)) (up_ BK184.out)) : gb184 ≠ gb185)); have NB185_184 := Aside0.mk ((by rw [hg]; exact Nat.ne_of_gt (blk_lt (g := gb184) (o := .cells #[.string a0_0, .slice A0_1 l0_1.length c0_1, .slice A0_2 l0_2.length c0_2, .slice A0_3 l0_3.length c0_3] 38 (0, 0)) (up_ BK184.out)) : gb185 ≠ gb184)); replace BK184 := bb_ BK184 hb; clear hb hbox hg; have hnb20 := NB184_185.out; have hnc20 := NB185_184.out; obtain ⟨hcz21_0, hcz21_1, hcz21_2, hcz21_3⟩ := c4_ BK184; have hfz21_0 := blk_frozen BK184.out 0; have hfz21_1 := blk_frozen BK184.out 1; have hfz21_2 := blk_frozen BK184.out 2; have hfz21_3 := blk_frozen BK184.out 3; obtain ⟨hcz22_0, hcz22_1, hcz22_2, hcz22_3⟩ := c4_ BK185; have hfz22_0 := blk_frozen BK185.out 0; have hfz22_1 := blk_frozen BK185.out 1; have hfz22_2 := blk_frozen BK185.out 2; have hfz22_3 := blk_frozen BK185.out 3) | ((refine gc_ 11 ?_); refine gq_ (some 14) Tryz.func11 (laws_eqStringS.calls k _ _ l0_1 _ _ l1_1 true _ (Kd.C_below HR0_1.out (up_ HB.out)) HC0_1.out (Kd.C_below HR1_1.out (up_ HB.out)) HC1_1.out A4.out) (fun nd => ?_)) | ((refine gc_ 40 ?_); refine gl_ (some 20) Tryz.func40 (laws_eqCandidateS.calls k _ _ l0_2 _ _ l1_2 true _ (Kd.C_below HR0_2.out (up_ HB.out)) HC0_2.out (Kd.C_below HR1_2.out (up_ HB.out)) HC1_2.out A6.out) ?_; rintro e w23 ⟨rfl, hb⟩; refine ⟨_, rfl, ?_⟩; replace BK184 := bb_ BK184 hb; replace BK185 := bb_ BK185 hb; replace HB := bs_ HB hb; (try clear hb); (try clear hb2); (try clear hk); (try clear hi); obtain ⟨hcz24_0, hcz24_1, hcz24_2, hcz24_3⟩ := c4_ BK184; have hfz24_0 := blk_frozen BK184.out 0; have hfz24_1 := blk_frozen BK184.out 1; have hfz24_2 := blk_frozen BK184.out 2; have hfz24_3 := blk_frozen BK184.out 3; obtain ⟨hcz25_0, hcz25_1, hcz25_2, hcz25_3⟩ := c4_ BK185; have hfz25_0 := blk_frozen BK185.out 0; have hfz25_1 := blk_frozen BK185.out 1; have hfz25_2 := blk_frozen BK185.out 2; have hfz25_3 := blk_frozen BK185.out 3) | ((refine gc_ 17 ?_); refine gq_ (some 26) Tryz.func17 (laws_eqIntSS.calls k _ _ l0_3 _ _ l1_3 false _ (Kd.C_below HR0_3.out (up_ HB.out)) HC0_3.out (Kd.C_below HR1_3.out (up_ HB.out)) HC1_3.out A8.out) (fun nd => ?_)))
     go_ret
     exact ⟨re_, up_ HB.out⟩
   ·obtain rfl := Option.some.inj H
    go_enter Tryz.func18, Tryz.ntmps18
    go_wp2_with (first | ((refine gd_ 2 ?_); refine bx_ 2 #[.string a0_0, .slice A0_1 l0_1.length c0_1, .slice A0_2 l0_2.length c0_2, .slice A0_3 l0_3.length c0_3] 38 ?_; intro gb184 hg w26 hbox hb; have BK184 := Aside0.mk (hbox); have GW184 := gw_ HB hg; have GE184 := gw_ HB hg; replace HB := bs_ HB hb; clear hb hbox hg) | ((refine gd_ 3 ?_); refine bx_ 3 #[.string a1_0, .slice A1_1 l1_1.length c1_1, .slice A1_2 l1_2.length c1_2, .slice A1_3 l1_3.length c1_3] 38 ?_; intro gb185 hg w27 hbox hb; have BK185 := Aside0.mk (hbox); have GW185 := gw_ HB hg; have GE185 := gw_ HB hg; replace HB := bs_ HB hb; have NB184_185 := Aside0.mk ((by rw [hg]; exact Nat.ne_of_lt (blk_lt (g := gb184) (o := .cells #[.string a0_0, .slice A0_1 l0_1.length c0_1, .slice A0_2 l0_2.length c0_2, .slice A0_3 l0_3.length c0_3] 38 (0, 0)) (up_ BK184.out)) : gb184 ≠ gb185)); have NB185_184 := Aside0.mk ((by rw [hg]; exact Nat.ne_of_gt (blk_lt (g := gb184) (o := .cells #[.string a0_0, .slice A0_1 l0_1.length c0_1, .slice A0_2 l0_2.length c0_2, .slice A0_3 l0_3.length c0_3] 38 (0, 0)) (up_ BK184.out)) : gb185 ≠ gb184)); replace BK184 := bb_ BK184 hb; clear hb hbox hg; have hnb28 := NB184_185.out; have hnc28 := NB185_184.out; obtain ⟨hcz29_0, hcz29_1, hcz29_2, hcz29_3⟩ := c4_ BK184; have hfz29_0 := blk_frozen BK184.out 0; have hfz29_1 := blk_frozen BK184.out 1; have hfz29_2 := blk_frozen BK184.out 2; have hfz29_3 := blk_frozen BK184.out 3; obtain ⟨hcz30_0, hcz30_1, hcz30_2, hcz30_3⟩ := c4_ BK185; have hfz30_0 := blk_frozen BK185.out 0; have hfz30_1 := blk_frozen BK185.out 1; have hfz30_2 := blk_frozen BK185.out 2; have hfz30_3 := blk_frozen BK185.out 3) | ((refine gc_ 11 ?_); refine gq_ (some 14) Tryz.func11 (laws_eqStringS.calls k _ _ l0_1 _ _ l1_1 true _ (Kd.C_below HR0_1.out (up_ HB.out)) HC0_1.out (Kd.C_below HR1_1.out (up_ HB.out)) HC1_1.out A4.out) (fun nd => ?_)) | ((refine gc_ 40 ?_); refine gl_ (some 20) Tryz.func40 (laws_eqCandidateS.calls k _ _ l0_2 _ _ l1_2 false _ (Kd.C_below HR0_2.out (up_ HB.out)) HC0_2.out (Kd.C_below HR1_2.out (up_ HB.out)) HC1_2.out A6.out) ?_; rintro e w31 ⟨rfl, hb⟩; refine ⟨_, rfl, ?_⟩; replace BK184 := bb_ BK184 hb; replace BK185 := bb_ BK185 hb; replace HB := bs_ HB hb; (try clear hb); (try clear hb2); (try clear hk); (try clear hi)))
    go_ret
    exact ⟨re_, up_ HB.out⟩
  ·obtain rfl := Option.some.inj H
   go_enter Tryz.func18, Tryz.ntmps18
   go_wp2_with (first | ((refine gd_ 2 ?_); refine bx_ 2 #[.string a0_0, .slice A0_1 l0_1.length c0_1, .slice A0_2 l0_2.length c0_2, .slice A0_3 l0_3.length c0_3] 38 ?_; intro gb184 hg w32 hbox hb; have BK184 := Aside0.mk (hbox); have GW184 := gw_ HB hg; have GE184 := gw_ HB hg; replace HB := bs_ HB hb; clear hb hbox hg) | ((refine gd_ 3 ?_); refine bx_ 3 #[.string a1_0, .slice A1_1 l1_1.length c1_1, .slice A1_2 l1_2.length c1_2, .slice A1_3 l1_3.length c1_3] 38 ?_; intro gb185 hg w33 hbox hb; have BK185 := Aside0.mk (hbox); have GW185 := gw_ HB hg; have GE185 := gw_ HB hg; replace HB := bs_ HB hb; have NB184_185 := Aside0.mk ((by rw [hg]; exact Nat.ne_of_lt (blk_lt (g := gb184) (o := .cells #[.string a0_0, .slice A0_1 l0_1.length c0_1, .slice A0_2 l0_2.length c0_2, .slice A0_3 l0_3.length c0_3] 38 (0, 0)) (up_ BK184.out)) : gb184 ≠ gb185)); have NB185_184 := Aside0.mk ((by rw [hg]; exact Nat.ne_of_gt (blk_lt (g := gb184) (o := .cells #[.string a0_0, .slice A0_1 l0_1.length c0_1, .slice A0_2 l0_2.length c0_2, .slice A0_3 l0_3.length c0_3] 38 (0, 0)) (up_ BK184.out)) : gb185 ≠ gb184)); replace BK184 := bb_ BK184 hb; clear hb hbox hg; have hnb34 := NB184_185.out; have hnc34 := NB185_184.out; obtain ⟨hcz35_0, hcz35_1, hcz35_2, hcz35_3⟩ := c4_ BK184; have hfz35_0 := blk_frozen BK184.out 0; have hfz35_1 := blk_frozen BK184.out 1; have hfz35_2 := blk_frozen BK184.out 2; have hfz35_3 := blk_frozen BK184.out 3; obtain ⟨hcz36_0, hcz36_1, hcz36_2, hcz36_3⟩ := c4_ BK185; have hfz36_0 := blk_frozen BK185.out 0; have hfz36_1 := blk_frozen BK185.out 1; have hfz36_2 := blk_frozen BK185.out 2; have hfz36_3 := blk_frozen BK185.out 3) | ((refine gc_ 11 ?_); refine gq_ (some 14) Tryz.func11 (laws_eqStringS.calls k _ _ l0_1 _ _ l1_1 false _ (Kd.C_below HR0_1.out (up_ HB.out)) HC0_1.out (Kd.C_below HR1_1.out (up_ HB.out)) HC1_1.out A4.out) (fun nd => ?_)))
   go_ret
   exact ⟨re_, up_ HB.out⟩
 ·obtain rfl := Option.some.inj H
  go_enter Tryz.func18, Tryz.ntmps18
  go_wp2_with (first | ((refine gd_ 2 ?_); refine bx_ 2 #[.string a0_0, .slice A0_1 l0_1.length c0_1, .slice A0_2 l0_2.length c0_2, .slice A0_3 l0_3.length c0_3] 38 ?_; intro gb184 hg w37 hbox hb; have BK184 := Aside0.mk (hbox); have GW184 := gw_ HB hg; have GE184 := gw_ HB hg; replace HB := bs_ HB hb; clear hb hbox hg) | ((refine gd_ 3 ?_); refine bx_ 3 #[.string a1_0, .slice A1_1 l1_1.length c1_1, .slice A1_2 l1_2.length c1_2, .slice A1_3 l1_3.length c1_3] 38 ?_; intro gb185 hg w38 hbox hb; have BK185 := Aside0.mk (hbox); have GW185 := gw_ HB hg; have GE185 := gw_ HB hg; replace HB := bs_ HB hb; have NB184_185 := Aside0.mk ((by rw [hg]; exact Nat.ne_of_lt (blk_lt (g := gb184) (o := .cells #[.string a0_0, .slice A0_1 l0_1.length c0_1, .slice A0_2 l0_2.length c0_2, .slice A0_3 l0_3.length c0_3] 38 (0, 0)) (up_ BK184.out)) : gb184 ≠ gb185)); have NB185_184 := Aside0.mk ((by rw [hg]; exact Nat.ne_of_gt (blk_lt (g := gb184) (o := .cells #[.string a0_0, .slice A0_1 l0_1.length c0_1, .slice A0_2 l0_2.length c0_2, .slice A0_3 l0_3.length c0_3] 38 (0, 0)) (up_ BK184.out)) : gb185 ≠ gb184)); replace BK184 := bb_ BK184 hb; clear hb hbox hg; have hnb39 := NB184_185.out; have hnc39 := NB185_184.out; obtain ⟨hcz40_0, hcz40_1, hcz40_2, hcz40_3⟩ := c4_ BK184; have hfz40_0 := blk_frozen BK184.out 0; have hfz40_1 := blk_frozen BK184.out 1; have hfz40_2 := blk_frozen BK184.out 2; have hfz40_3 := blk_frozen BK184.out 3; obtain ⟨hcz41_0, hcz41_1, hcz41_2, hcz41_3⟩ := c4_ BK185; have hfz41_0 := blk_frozen BK185.out 0; have hfz41_1 := blk_frozen BK185.out 1; have hfz41_2 := blk_frozen BK185.out 2; have hfz41_3 := blk_frozen BK185.out 3))
  go_ret
  exact ⟨re_, up_ HB.out⟩

/-! ### laws_markText: function 66 -/
def laws_markText.l0 : Nat → Int → ByteArray → Option (ByteArray)
 | 0, _, _ => none
 | k + 1, x0, x3 => if x0 > 0 then ((some (([(wrap64 (48 + (Int.tmod x0 10))) % 256] : List Int) : List Int)).bind fun y189 => (if (strOfNums y189).size + x3.size ≤ 9223372036854775807 then (laws_markText.l0 k (wrap64 (Int.tdiv x0 10)) ((strOfNums y189) ++ x3)) else (none))) else (if 1 + x3.size ≤ 9223372036854775807 then (some ((⟨#[109]⟩ : ByteArray) ++ x3)) else (none))
def laws_markText.f (k : Nat) (a0 : Int) : Option (ByteArray) := if a0 ≤ 0 then (some (⟨#[109, 48]⟩ : ByteArray)) else (laws_markText.l0 k a0 (⟨#[]⟩ : ByteArray))
set_option maxHeartbeats 8000000 in
set_option maxRecDepth 100000 in
theorem laws_markText.calls (k : Nat) (a0 : Int) (r : ByteArray) (w : World) (h : laws_markText.f k a0 = some r) :
  Calls Tryz.prog 66 #[.int .i64 a0] w fun e w' => e = .returned (.string r) ∧ Below w.heap.size w w' := by
 have HB := Aside0.mk (Below.refl w.heap.size w)
 have H : (if a0 ≤ 0 then (some (⟨#[109, 48]⟩ : ByteArray)) else (laws_markText.l0 k a0 (⟨#[]⟩ : ByteArray))) = some r := h
 clear h
 replace H := its_ H; rcases H with ⟨c2b0, H⟩ | ⟨c2b0, H⟩
 ·obtain rfl := Option.some.inj H
  go_enter Tryz.func66, Tryz.ntmps66
  go_wp2
  go_ret
  exact ⟨re_, up_ HB.out⟩
 ·have H' := Aside0.mk H
  clear H
  go_enter Tryz.func66, Tryz.ntmps66
  go_wp2
  go_loopg [0, 3] k (fun kq v0 v3 w' => ∃ (x0_1 : Int) (x3_1 : ByteArray), v0 = .int .i64 x0_1 ∧ v3 = .string x3_1 ∧ Aside0 (laws_markText.l0 kq x0_1 x3_1 = some r) ∧ Aside0 (kq ≤ k) ∧ Aside0 (Below w.heap.size w w'))
  case atStart => exact ⟨(a0), ((⟨#[]⟩ : ByteArray)), rs_, rs_, H', ⟨Nat.le_refl _⟩, ⟨up_ HB.out⟩⟩
  case round =>
   clear H'
   try clear c2
   try clear c2b0
   try clear p2
   obtain ⟨x0_1, x3_1, rfl, rfl, HA, HK1, HB⟩ := hrel
   cases gk with
   | zero => exact absurd HA.out (by simp [laws_markText.l0])
   | succ k1 =>
    have H := HA.out
    clear HA
    simp only [laws_markText.l0] at H
    by_cases c3 : x0_1 > 0
    ·rw [if_pos c3] at H
     have c3b0 : decide (0 < x0_1) = true := decide_eq_true c3
     clear c3
     obtain ⟨y189, hy189⟩ : ∃ y_ : List Int, y_ = (([(wrap64 (48 + (Int.tmod x0_1 10))) % 256] : List Int)) := ⟨_, rfl⟩
     replace H : (if (strOfNums y189).size + x3_1.size ≤ 9223372036854775807 then (laws_markText.l0 k1 (wrap64 (Int.tdiv x0_1 10)) ((strOfNums y189) ++ x3_1)) else (none)) = some r := rh_ hy189 H
     have Ny189 := Aside0.mk hy189
     clear hy189
     by_cases c4 : (strOfNums y189).size + x3_1.size ≤ 9223372036854775807
     ·rw [if_pos c4] at H
      have c4b0 := eq_true c4
      have c4b1 : decide ((strOfNums y189).size + x3_1.size ≤ 9223372036854775807) = true := decide_eq_true c4
      try have c4b2 : (9223372036854775807 < (strOfNums y189).size + x3_1.size) = False := eq_false (Nat.not_lt.2 c4)
      have H' := Aside0.mk H
      clear H
      go_wp2_with (first | ((refine gd_ 12 ?_); refine Kd.R_lit (Kd.int .u8) _ 5 ?hg (N := 12) ?hd (xs := ([(wrap64 (48 + (Int.tmod x0_1 10))) % 256] : List Int)) (inner := [.int .u8 ((wrap64 (48 + (Int.tmod x0_1 10))) % 256)]) (ok := fun _ => True) (okp := fun _ => True) ?hr ?hp (fun _ hk => hk) trivial (Below.refl _ _) (Nat.le_refl _) (by simp) ?_; (case hd => rfl); (case hg => rfl); (case hr => first | (go_simp; done) | (go_simp; rfl)); (case hp => exact (Reps.one (show Kd.M (Kd.int .u8) _ _ _ ((wrap64 (48 + (Int.tmod x0_1 10))) % 256) [.int .u8 ((wrap64 (48 + (Int.tmod x0_1 10))) % 256)] from rfl) (Reps.none _ _))); intro v190 w5 ho6 hb hg_ hnew_; clear hg_ hnew_; (first | rw [← Ny189.out] at ho6 | (simp only [Int.reduceToNat] at ho6; rw [← Ny189.out] at ho6)); have HO191 := Aside0.mk (Kd.R_lower ho6 (below_size (up_ HB.out))); replace HB := bs_ HB hb; clear hb ho6; have hcv7 := own_string (P := Tryz.prog) Tryz.underlying98 Tryz.underlying5 Tryz.underlying9 (Kd.own_of_R HO191.out)))
      go_roundg k1
      case measure => have := HK1.out; omega
      case rel => exact ⟨(wrap64 (Int.tdiv x0_1 10)), ((strOfNums y189) ++ x3_1), rs_, rs_, H', ⟨by have := HK1.out; omega⟩, ⟨up_ HB.out⟩⟩
     ·rw [if_neg c4] at H
      exact absurd H (by simp)
    ·rw [if_neg c3] at H
     have c3b0 : decide (0 < x0_1) = false := decide_eq_false c3
     clear c3
     by_cases c8 : 1 + x3_1.size ≤ 9223372036854775807
     ·rw [if_pos c8] at H
      have c8b0 := eq_true c8
      have c8b1 : decide (1 + x3_1.size ≤ 9223372036854775807) = true := decide_eq_true c8
      try have c8b2 : (9223372036854775807 < 1 + x3_1.size) = False := eq_false (Nat.not_lt.2 c8)
      obtain rfl := Option.some.inj H
      go_wp2
      go_ret
      exact ⟨re_, up_ HB.out⟩
     ·rw [if_neg c8] at H
      exact absurd H (by simp)

/-! ### laws_markStringS: function 41 -/
def laws_markStringS.l0 : Nat → List ByteArray → Int → Int → Option (Int × List ByteArray)
 | 0, _, _, _ => none
 | k + 1, x0, x1, x5 => if x5 < (x0.length : Int) then ((laws_markText.f k x1).bind fun t192 => (if 0 ≤ x5 then (laws_markStringS.l0 k (x0.set (x5 : Int).toNat t192) (wrap64 (x1 + 1)) (wrap64 (x5 + 1))) else (none))) else (some (x1, x0))
def laws_markStringS.f (k : Nat) (l0 : List ByteArray) (a1 : Int) : Option (Int × List ByteArray) := laws_markStringS.l0 k l0 a1 0
set_option maxHeartbeats 8000000 in
set_option maxRecDepth 100000 in
theorem laws_markStringS.calls (k : Nat) (P0_ : Nat → Prop) (u9000_ : Value) (l0 : List ByteArray) (a1 : Int) (r1 : Int) (r2 : List ByteArray) (w0 w : World) (hB : Below w0.heap.size w0 w) (ho0 : Kd.R Kd.string 9 w w0.heap.size P0_ u9000_ l0) (h : laws_markStringS.f k l0 a1 = some (r1, r2)) :
  Calls Tryz.prog 41 #[u9000_, .int .i64 a1] w fun e w' => e = .returned (.int .i64 r1) ∧ Kd.R Kd.string 9 w' w0.heap.size (fun k_ => (P0_ k_ ∨ w.heap.size ≤ k_)) u9000_ r2 ∧ Below w0.heap.size w0 w' ∧ Kept w w' (fun k_ => P0_ k_) := by
 have HO0 := Aside0.mk (show Kd.R Kd.string 9 w w0.heap.size (fun k_ => (P0_ k_ ∨ w.heap.size ≤ k_)) u9000_ l0 from Kd.R_mono ho0 (fun k_ hk => (.inl hk)))
 have HK := Aside0.mk (Kept.refl w (fun k_ => P0_ k_))
 have HW0 := Aside0.mk hB.size
 have HB := Aside0.mk hB
 clear hB
 have H : (laws_markStringS.l0 k l0 a1 0) = some (r1, r2) := h
 clear h
 have H' := Aside0.mk H
 clear H
 go_enter Tryz.func41, Tryz.ntmps41
 go_wp2
 go_loopg [1, 5] k (fun kq v1 v5 w' => ∃ (x0_1 : List ByteArray) (x1_1 : Int) (x5_1 : Int), v1 = .int .i64 x1_1 ∧ v5 = .int .i64 x5_1 ∧ Aside0 (laws_markStringS.l0 kq x0_1 x1_1 x5_1 = some (r1, r2)) ∧ Aside0 (kq ≤ k) ∧ Aside0 (Kd.R Kd.string 9 w' w0.heap.size (fun k_ => (P0_ k_ ∨ w.heap.size ≤ k_)) u9000_ x0_1) ∧ Aside0 (Kept w w' (fun k_ => P0_ k_)) ∧ Aside0 (Below w0.heap.size w0 w'))
 case atStart => exact ⟨(l0), (a1), (0), rs_, rs_, H', ⟨Nat.le_refl _⟩, ⟨up_ HO0.out⟩, ⟨by repeat (first | (with_reducible first | exact HK.out | apply Kept.alloc | apply Kept.drewN | apply Kept.drew) | exact HK.out)⟩, ⟨up_ HB.out⟩⟩
 case round =>
  clear H'
  try clear p2
  obtain ⟨x0_1, x1_1, x5_1, rfl, rfl, HA, HK1, HO_0, HK, HB⟩ := hrel
  cases gk with
  | zero => exact absurd HA.out (by simp [laws_markStringS.l0])
  | succ k1 =>
   have H := HA.out
   clear HA
   simp only [laws_markStringS.l0] at H
   replace H := its_ H; rcases H with ⟨c3b0, H⟩ | ⟨c3b0, H⟩
   ·replace H := Option.bind_eq_some_iff.mp H
    obtain ⟨t192, A40, H⟩ := H
    replace H : (if 0 ≤ x5_1 then (laws_markStringS.l0 k1 (x0_1.set (x5_1 : Int).toNat t192) (wrap64 (x1_1 + 1)) (wrap64 (x5_1 + 1))) else (none)) = some (r1, r2) := H
    have A4 := Aside0.mk A40
    clear A40
    replace H := its_ H; rcases H with ⟨c5b0, H⟩ | ⟨_, ⟨⟩⟩
    obtain ⟨y193, hy193⟩ : ∃ y_ : List ByteArray, y_ = (x0_1.set (x5_1 : Int).toNat t192) := ⟨_, rfl⟩
    replace H : (laws_markStringS.l0 k1 y193 (wrap64 (x1_1 + 1)) (wrap64 (x5_1 + 1))) = some (r1, r2) := rh_ hy193 H
    have Ny193 := Aside0.mk hy193
    clear hy193
    have H' := Aside0.mk H
    clear H
    obtain ⟨Ao7, co7, eo7⟩ := Kd.R_slice HO_0.out
    subst eo7
    go_wp2_with (first | ((refine gc_ 66 ?_); refine gl_ (some 15) Tryz.func66 (laws_markText.calls k1 x1_1 t192 _ A4.out) ?_; rintro e w8 ⟨rfl, hb⟩; refine ⟨_, rfl, ?_⟩; replace HO_0 := Aside0.mk (Kd.R_below (up_ HO_0.out) hb); replace HK := Aside0.mk (Kept.below (S := (fun k_ => P0_ k_)) (by repeat (first | (with_reducible first | exact HK.out | apply Kept.alloc | apply Kept.drewN | apply Kept.drew) | exact HK.out)) hb); replace HB := bs_ HB hb; (try clear hb); (try clear hb2); (try clear hk); (try clear hi); have p6 : 0 ≤ (x5_1 : Int) := od_; have q6 : (x5_1 : Int) < ((x0_1.length : Int) : Int) := od_; obtain ⟨go6, co6, eo6, gb6, gl6, cl6, HG6⟩ := Kd.R_form HO_0.out (by omega); (first | cases eo6 | (injection eo6 with ea_ en_ ec_; (first | subst ea_ | (injection ea_ with ea_; subst ea_)); subst ec_; clear en_)); have GB6 := Aside0.mk gb6; have GG6 := Aside0.mk HG6; clear gb6 gl6 HG6; have HMgo6 := Aside0.mk (show (P0_ go6 ∨ w.heap.size ≤ go6) from (HO_0.out.1 _ rfl)); obtain ⟨hx6_0, hf6_0⟩ := Kd.R_celln (⟨#[]⟩ : ByteArray) HO_0.out (x5_1 : Int) p6 q6; replace p6 := eq_true p6; replace q6 := eq_true q6; obtain ⟨hy9_, hz9_⟩ := Kd.R_celln (⟨#[]⟩ : ByteArray) HO_0.out (x5_1 : Int) (od_) (od_); have HP9 := Kd.R_putg HO_0.out (x5_1 : Int) t192) | ((with_reducible refine gate_store (t := 9) (p := 16) rfl ?_); refine store_event (t := 9) (p := 16) (v := ?vo_w10) (w1 := (w8.setCell ⟨go6, (x5_1 : Int).toNat, none⟩ (.string t192))) ?hg ?ho ?hn ?hr ?_; (case ho => rfl); (case hg => rfl); (case hn => rfl); (case hr => first | (go_simp; done) | (go_simp; rfl)); intro w10 hw; have hg : w8.grownBy w10 (some go6) := (by rw [hw]; exact HP9.2); have hp_ : Kd.R Kd.string 9 w10 w0.heap.size (fun k_ => (P0_ k_ ∨ w.heap.size ≤ k_)) (.slice (some ⟨go6, 0, none⟩) x0_1.length co7) y193 := (by rw [hw, Ny193.out]; exact HP9.1); clear HP9; replace HB := Aside0.mk ((by rw [hw]; exact below_set (HB.out) GB6.out : Below w0.heap.size w0 w10)); replace HK := Aside0.mk (Kept.of_grown (S := (fun k_ => P0_ k_)) hg (by repeat (first | (with_reducible first | exact HK.out | apply Kept.alloc | apply Kept.drewN | apply Kept.drew) | exact HK.out)) (fun k_ e_ => (HO_0.out.1 k_ e_))); replace HO_0 := Aside0.mk (hp_); clear hg hw hp_))
    go_roundg k1
    case measure => have := HK1.out; omega
    case rel => exact ⟨(y193), (wrap64 (x1_1 + 1)), (wrap64 (x5_1 + 1)), rs_, rs_, H', ⟨by have := HK1.out; omega⟩, ⟨up_ HO_0.out⟩, ⟨by repeat (first | (with_reducible first | exact HK.out | apply Kept.alloc | apply Kept.drewN | apply Kept.drew) | exact HK.out)⟩, ⟨up_ HB.out⟩⟩
   ·simp only [Option.some.injEq, Prod.mk.injEq] at H
    obtain ⟨rfl, rfl⟩ := H
    obtain ⟨Ao11, co11, eo11⟩ := Kd.R_slice HO_0.out
    subst eo11
    go_wp2
    go_ret
    exact ⟨re_, by (with_reducible repeat (first | apply Kd.R_alloc | apply Kd.R_drewN | apply Kd.R_drew)); exact HO_0.out, up_ HB.out, by repeat (first | (with_reducible first | exact HK.out | apply Kept.alloc | apply Kept.drewN | apply Kept.drew) | exact HK.out)⟩

/-! ### laws_markLinkS: function 67 -/
def laws_markLinkS.l0 : Nat → List (S70) → Int → Int → Option (Int × (List (S70)))
 | 0, _, _, _ => none
 | k + 1, x0, x1, x5 => if x5 < (x0.length : Int) then (if 0 ≤ x5 then ((some (x0.set (x5 : Int).toNat (⟨(x1) % 256, (rd_T70 x0 x5).f1⟩ : S70) : List (S70))).bind fun y194 => (laws_markLinkS.l0 k (y194.set (x5 : Int).toNat (⟨(rd_T70 y194 x5).f0, (wrap64 (x1 + 1)) % 256⟩ : S70)) (wrap64 ((wrap64 (x1 + 1)) + 1)) (wrap64 (x5 + 1)))) else (none)) else (some (x1, x0))
def laws_markLinkS.f (k : Nat) (l0 : List (S70)) (a1 : Int) : Option (Int × (List (S70))) := laws_markLinkS.l0 k l0 a1 0
theorem laws_markLinkS.mono_l : ∀ k, (∀ y0 y1 y2, LeO (laws_markLinkS.l0 k y0 y1 y2) (laws_markLinkS.l0 (k + 1) y0 y1 y2))
 | 0 => fun _ _ _ r h => by simp [laws_markLinkS.l0] at h
 | k + 1 => by
  have ih0 := laws_markLinkS.mono_l k
  ·intro y0 y1 y2
   unfold laws_markLinkS.l0
   exact mn_
theorem laws_markLinkS.mono : ∀ a0 a1 k, LeO (laws_markLinkS.f k a0 a1) (laws_markLinkS.f (k + 1) a0 a1) := by
 intro a0 a1 k
 have ih0 := laws_markLinkS.mono_l k
 unfold laws_markLinkS.f
 exact mn_
set_option maxHeartbeats 8000000 in
set_option maxRecDepth 100000 in
theorem laws_markLinkS.calls (k : Nat) (P0_ : Nat → Prop) (u9000_ : Value) (l0 : List (S70)) (a1 : Int) (r1 : Int) (r2 : List (S70)) (w0 w : World) (hB : Below w0.heap.size w0 w) (ho0 : Kd.R k70 70 w w0.heap.size P0_ u9000_ l0) (h : laws_markLinkS.f k l0 a1 = some (r1, r2)) :
  Calls Tryz.prog 67 #[u9000_, .int .i64 a1] w fun e w' => e = .returned (.int .i64 r1) ∧ Kd.R k70 70 w' w0.heap.size (fun k_ => (P0_ k_ ∨ w.heap.size ≤ k_)) u9000_ r2 ∧ Below w0.heap.size w0 w' ∧ Kept w w' (fun k_ => P0_ k_) := by
 have HO0 := Aside0.mk (show Kd.R k70 70 w w0.heap.size (fun k_ => (P0_ k_ ∨ w.heap.size ≤ k_)) u9000_ l0 from Kd.R_mono ho0 (fun k_ hk => (.inl hk)))
 have HK := Aside0.mk (Kept.refl w (fun k_ => P0_ k_))
 have HW0 := Aside0.mk hB.size
 have HB := Aside0.mk hB
 clear hB
 have H : (laws_markLinkS.l0 k l0 a1 0) = some (r1, r2) := h
 clear h
 have H' := Aside0.mk H
 clear H
 go_enter Tryz.func67, Tryz.ntmps67
 go_wp2
 go_loopg [1, 5] k (fun kq v1 v5 w' => ∃ (x0_1 : List (S70)) (x1_1 : Int) (x5_1 : Int), v1 = .int .i64 x1_1 ∧ v5 = .int .i64 x5_1 ∧ Aside0 (laws_markLinkS.l0 kq x0_1 x1_1 x5_1 = some (r1, r2)) ∧ Aside0 (kq ≤ k) ∧ Aside0 (Kd.R k70 70 w' w0.heap.size (fun k_ => (P0_ k_ ∨ w.heap.size ≤ k_)) u9000_ x0_1) ∧ Aside0 (Kept w w' (fun k_ => P0_ k_)) ∧ Aside0 (Below w0.heap.size w0 w'))
 case atStart => exact ⟨(l0), (a1), (0), rs_, rs_, H', ⟨Nat.le_refl _⟩, ⟨up_ HO0.out⟩, ⟨by repeat (first | (with_reducible first | exact HK.out | apply Kept.alloc | apply Kept.drewN | apply Kept.drew) | exact HK.out)⟩, ⟨up_ HB.out⟩⟩
 case round =>
  clear H'
  try clear p2
  obtain ⟨x0_1, x1_1, x5_1, rfl, rfl, HA, HK1, HO_0, HK, HB⟩ := hrel
  cases gk with
  | zero => exact absurd HA.out (by simp [laws_markLinkS.l0])
  | succ k1 =>
   have H := HA.out
   clear HA
   simp only [laws_markLinkS.l0] at H
   replace H := its_ H; rcases H with ⟨c3b0, H⟩ | ⟨c3b0, H⟩
   ·replace H := its_ H; rcases H with ⟨c4b0, H⟩ | ⟨_, ⟨⟩⟩
    obtain ⟨y194, hy194⟩ : ∃ y_ : List (S70), y_ = (x0_1.set (x5_1 : Int).toNat (⟨(x1_1) % 256, (rd_T70 x0_1 x5_1).f1⟩ : S70)) := ⟨_, rfl⟩
    replace H : (laws_markLinkS.l0 k1 (y194.set (x5_1 : Int).toNat (⟨(rd_T70 y194 x5_1).f0, (wrap64 (x1_1 + 1)) % 256⟩ : S70)) (wrap64 ((wrap64 (x1_1 + 1)) + 1)) (wrap64 (x5_1 + 1))) = some (r1, r2) := rh_ hy194 H
    have Ny194 := Aside0.mk hy194
    clear hy194
    obtain ⟨y195, hy195⟩ : ∃ y_ : List (S70), y_ = (y194.set (x5_1 : Int).toNat (⟨(rd_T70 y194 x5_1).f0, (wrap64 (x1_1 + 1)) % 256⟩ : S70)) := ⟨_, rfl⟩
    replace H : (laws_markLinkS.l0 k1 y195 (wrap64 ((wrap64 (x1_1 + 1)) + 1)) (wrap64 (x5_1 + 1))) = some (r1, r2) := rh_ hy195 H
    have Ny195 := Aside0.mk hy195
    clear hy195
    have H' := Aside0.mk H
    clear H
    obtain ⟨Ao7, co7, eo7⟩ := Kd.R_slice HO_0.out
    subst eo7
    have p5 : 0 ≤ (x5_1 : Int) := od_
    have q5 : (x5_1 : Int) < ((x0_1.length : Int) : Int) := od_
    obtain ⟨go5, co5, eo5, gb5, gl5, cl5, HG5⟩ := Kd.R_form HO_0.out (by omega)
    (first | cases eo5 | (injection eo5 with ea_ en_ ec_; (first | subst ea_ | (injection ea_ with ea_; subst ea_)); subst ec_; clear en_))
    have GB5 := Aside0.mk gb5
    have GG5 := Aside0.mk HG5
    clear gb5 gl5 HG5
    have HMgo5 := Aside0.mk (show (P0_ go5 ∨ w.heap.size ≤ go5) from (HO_0.out.1 _ rfl))
    obtain ⟨ce5, hcl5, hM5, hcc5, hfr5⟩ := Kd.R_elem HO_0.out z70 (x5_1 : Int) p5 q5
    obtain rfl := k70_openM hM5
    have hx5_0 : wr.cell? ⟨go5, (x5_1 : Int).toNat * 2, none⟩ = some (.int .u8 ((rd_T70 x0_1 x5_1).f0)) := hcc5 0 _ rfl
    have hx5_1 : wr.cell? ⟨go5, (x5_1 : Int).toNat * 2 + 1, none⟩ = some (.int .u8 ((rd_T70 x0_1 x5_1).f1)) := hcc5 1 _ rfl
    have hf5_0 : wr.frozen? ⟨go5, (x5_1 : Int).toNat * 2, none⟩ = false := hfr5 0
    have hf5_1 : wr.frozen? ⟨go5, (x5_1 : Int).toNat * 2 + 1, none⟩ = false := hfr5 1
    clear hcl5 hcc5 hfr5; (try clear hM5)
    replace p5 := eq_true p5
    replace q5 := eq_true q5
    have HX8 := Aside0.mk (show Kd.R k70 70 wr w0.heap.size (fun k_ => (P0_ k_ ∨ w.heap.size ≤ k_)) (.slice (some ⟨go5, 0, none⟩) x0_1.length co7) x0_1 from (up_ HO_0.out))
    obtain ⟨ce8, hcl8, hM8, hcc8, hfr8⟩ := Kd.R_elem HX8.out z70 (x5_1 : Int) (od_) (by have h_ : (x5_1 : Int) < ((x0_1.length : Int) : Int) := od_; first | exact h_ | (have e_ := (Kd.R_reads' HO_0.out).1; omega) | simpa using h_)
    obtain rfl := k70_openM hM8
    have HP8 := Kd.R_seg HX8.out (x5_1 : Int) (od_) (by have h_ : (x5_1 : Int) < ((x0_1.length : Int) : Int) := od_; first | exact h_ | (have e_ := (Kd.R_reads' HO_0.out).1; omega) | simpa using h_) (seg := [.int .u8 ((x1_1) % 256)]) (j := 0) hcl8 hcc8 (show 1 ≤ 2 from by decide) (x' := (⟨(x1_1) % 256, (rd_T70 x0_1 x5_1).f1⟩ : S70)) (k70_mkM _ _ _ (⟨(x1_1) % 256, (rd_T70 x0_1 x5_1).f1⟩ : S70) ) (fun _ hk => hk)
    have hx8_0 := hcc8 0 _ rfl
    (try simp only [show (k70).sz = 2 from rfl, Nat.mul_one, Nat.add_zero] at hx8_0)
    have hf8_0 := hfr8 0
    (try simp only [show (k70).sz = 2 from rfl, Nat.mul_one, Nat.add_zero] at hf8_0)
    clear hcl8 hcc8 hfr8; (try clear hM8)
    go_wp2_with (first | ((with_reducible refine gate_store (t := 5) (p := 17) rfl ?_); refine store_event (t := 5) (p := 17) (v := ?vo_w9) (w1 := (wr.setCell ⟨go5, (x5_1 : Int).toNat * 2, none⟩ (.int .u8 ((x1_1) % 256)))) ?hg ?ho ?hn ?hr ?_; (case ho => rfl); (case hg => rfl); (case hn => rfl); (case hr => first | (go_simp; done) | (go_simp; rfl)); intro w9 hw; have hg : wr.grownBy w9 (some go5) := (by rw [hw]; exact HP8.2); have hp_ : Kd.R k70 70 w9 w0.heap.size (fun k_ => (P0_ k_ ∨ w.heap.size ≤ k_)) (.slice (some ⟨go5, 0, none⟩) x0_1.length co7) y194 := (by rw [hw, Ny194.out]; exact HP8.1); clear HP8; replace HB := Aside0.mk ((by rw [hw]; exact below_set (HB.out) GB5.out : Below w0.heap.size w0 w9)); replace HK := Aside0.mk (Kept.of_grown (S := (fun k_ => P0_ k_)) hg (by repeat (first | (with_reducible first | exact HK.out | apply Kept.alloc | apply Kept.drewN | apply Kept.drew) | exact HK.out)) (fun k_ e_ => (HO_0.out.1 k_ e_))); replace HO_0 := Aside0.mk (hp_); clear hg hw hp_; have p6 : 0 ≤ (x5_1 : Int) := od_; have q6 : (x5_1 : Int) < ((x0_1.length : Int) : Int) := od_; obtain ⟨ce6, hcl6, hM6, hcc6, hfr6⟩ := Kd.R_elem HO_0.out z70 (x5_1 : Int) p6 q6; obtain rfl := k70_openM hM6; have hx6_0 : w9.cell? ⟨go5, (x5_1 : Int).toNat * 2, none⟩ = some (.int .u8 ((rd_T70 y194 x5_1).f0)) := hcc6 0 _ rfl; have hx6_1 : w9.cell? ⟨go5, (x5_1 : Int).toNat * 2 + 1, none⟩ = some (.int .u8 ((rd_T70 y194 x5_1).f1)) := hcc6 1 _ rfl; have hf6_0 : w9.frozen? ⟨go5, (x5_1 : Int).toNat * 2, none⟩ = false := hfr6 0; have hf6_1 : w9.frozen? ⟨go5, (x5_1 : Int).toNat * 2 + 1, none⟩ = false := hfr6 1; clear hcl6 hcc6 hfr6; (try clear hM6); replace p6 := eq_true p6; replace q6 := eq_true q6; have HX10 := Aside0.mk (show Kd.R k70 70 w9 w0.heap.size (fun k_ => (P0_ k_ ∨ w.heap.size ≤ k_)) (.slice (some ⟨go5, 0, none⟩) x0_1.length co7) y194 from (up_ HO_0.out)); obtain ⟨ce10, hcl10, hM10, hcc10, hfr10⟩ := Kd.R_elem HX10.out z70 (x5_1 : Int) (od_) (by have h_ : (x5_1 : Int) < ((x0_1.length : Int) : Int) := od_; first | exact h_ | (have e_ := (Kd.R_reads' HO_0.out).1; omega) | simpa using h_); obtain rfl := k70_openM hM10; have HP10 := Kd.R_seg HX10.out (x5_1 : Int) (od_) (by have h_ : (x5_1 : Int) < ((x0_1.length : Int) : Int) := od_; first | exact h_ | (have e_ := (Kd.R_reads' HO_0.out).1; omega) | simpa using h_) (seg := [.int .u8 ((wrap64 (x1_1 + 1)) % 256)]) (j := 1) hcl10 hcc10 (show 2 ≤ 2 from by decide) (x' := (⟨(rd_T70 y194 x5_1).f0, (wrap64 (x1_1 + 1)) % 256⟩ : S70)) (k70_mkM _ _ _ (⟨(rd_T70 y194 x5_1).f0, (wrap64 (x1_1 + 1)) % 256⟩ : S70) ) (fun _ hk => hk); have hx10_1 := hcc10 1 _ rfl; (try simp only [show (k70).sz = 2 from rfl, Nat.mul_one, Nat.add_zero] at hx10_1); have hf10_1 := hfr10 1; (try simp only [show (k70).sz = 2 from rfl, Nat.mul_one, Nat.add_zero] at hf10_1); clear hcl10 hcc10 hfr10; (try clear hM10)) | ((with_reducible refine gate_store (t := 5) (p := 25) rfl ?_); refine store_event (t := 5) (p := 25) (v := ?vo_w11) (w1 := (w9.setCell ⟨go5, (x5_1 : Int).toNat * 2 + 1, none⟩ (.int .u8 ((wrap64 (x1_1 + 1)) % 256)))) ?hg ?ho ?hn ?hr ?_; (case ho => rfl); (case hg => rfl); (case hn => rfl); (case hr => first | (go_simp; done) | (go_simp; rfl)); intro w11 hw; have hg : w9.grownBy w11 (some go5) := (by rw [hw]; exact HP10.2); have hp_ : Kd.R k70 70 w11 w0.heap.size (fun k_ => (P0_ k_ ∨ w.heap.size ≤ k_)) (.slice (some ⟨go5, 0, none⟩) x0_1.length co7) y195 := (by rw [hw, Ny195.out]; exact HP10.1); clear HP10; replace HB := Aside0.mk ((by rw [hw]; exact below_set (HB.out) GB5.out : Below w0.heap.size w0 w11)); replace HK := Aside0.mk (Kept.of_grown (S := (fun k_ => P0_ k_)) hg (by repeat (first | (with_reducible first | exact HK.out | apply Kept.alloc | apply Kept.drewN | apply Kept.drew) | exact HK.out)) (fun k_ e_ => (HO_0.out.1 k_ e_))); replace HO_0 := Aside0.mk (hp_); clear hg hw hp_))
    go_roundg k1
    case measure => have := HK1.out; omega
    case rel => exact ⟨(y195), (wrap64 ((wrap64 (x1_1 + 1)) + 1)), (wrap64 (x5_1 + 1)), rs_, rs_, H', ⟨by have := HK1.out; omega⟩, ⟨up_ HO_0.out⟩, ⟨by repeat (first | (with_reducible first | exact HK.out | apply Kept.alloc | apply Kept.drewN | apply Kept.drew) | exact HK.out)⟩, ⟨up_ HB.out⟩⟩
   ·simp only [Option.some.injEq, Prod.mk.injEq] at H
    obtain ⟨rfl, rfl⟩ := H
    obtain ⟨Ao12, co12, eo12⟩ := Kd.R_slice HO_0.out
    subst eo12
    go_wp2
    go_ret
    exact ⟨re_, by (with_reducible repeat (first | apply Kd.R_alloc | apply Kd.R_drewN | apply Kd.R_drew)); exact HO_0.out, up_ HB.out, by repeat (first | (with_reducible first | exact HK.out | apply Kept.alloc | apply Kept.drewN | apply Kept.drew) | exact HK.out)⟩

end Go.Proofs.YtkddpilambnicaaGreat.PFnExactWeightedWinners
