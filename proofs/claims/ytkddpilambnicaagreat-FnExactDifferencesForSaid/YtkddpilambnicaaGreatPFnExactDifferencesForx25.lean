/- Walks of Go functions that the law FnExactDifferencesFor uses: written by this session's program out of the kit's printer; each shows that a call comes to the answers of the Lean function beside it. Conditions: each contract's own. -/
import Derived.Test.YtkddpilambnicaaGreatPFnExactDifferencesForx0
import Derived.Test.YtkddpilambnicaaGreatPFnExactDifferencesForx1
import Derived.Test.YtkddpilambnicaaGreatPFnExactDifferencesForx10
import Derived.Test.YtkddpilambnicaaGreatPFnExactDifferencesForx11
import Derived.Test.YtkddpilambnicaaGreatPFnExactDifferencesForx21
import Derived.Test.YtkddpilambnicaaGreatPFnExactDifferencesForx22
import Derived.Test.YtkddpilambnicaaGreatPFnExactDifferencesForx24
namespace Go.Proofs.YtkddpilambnicaaGreat.PFnExactDifferencesFor
open Go.RowKit Go.Proofs.YtkddpilambnicaaGreatW.PrintWords Go.Proofs.YtkddpilambnicaaGreatW.PrintLast Go.Proofs.YtkddpilambnicaaGreatW.PrintMore Go.Proofs.YtkddpilambnicaaGreat.Mac Go.Proofs.YtkddpilambnicaaGreat.Law
attribute [local go_sem] max2_int min2_int max_two min_two max_three min_three max_four min_four   -- for this text's walks alone
set_option linter.unusedVariables false
set_option linter.unusedSimpArgs false

/-! ### laws_heldIntSS: function 21 -/
def laws_heldIntSS.l0 : Nat → List (List Int) → Int → Int → Option (Int)
 | 0, _, _, _ => none
 | k + 1, x0, x1, x5 => if x5 < (x0.length : Int) then (if 0 ≤ x5 then ((laws_heldIntS.f k (rd_L6 x0 x5) x1).bind fun t538 => (if t538 < 0 then (some (-1)) else (laws_heldIntSS.l0 k x0 t538 (wrap64 (x5 + 1))))) else (none)) else (some x1)
def laws_heldIntSS.f (k : Nat) (l0 : List (List Int)) (a1 : Int) : Option (Int) := laws_heldIntSS.l0 k l0 a1 0
set_option maxHeartbeats 8000000 in
set_option maxRecDepth 100000 in
theorem laws_heldIntSS.calls (k : Nat) (A0 : Option Addr) (c0 : Nat) (l0 : List (List Int)) (a1 : Int) (r : Int) (w : World) (hr0 : Kd.C (Kd.slice 3 (Kd.int .i64)) w A0 l0.length l0) (hc0 : l0.length ≤ c0) (h : laws_heldIntSS.f k l0 a1 = some r) :
  Calls Tryz.prog 21 #[.slice A0 l0.length c0, .int .i64 a1] w fun e w' => e = .returned (.int .i64 r) ∧ Drawn0 w w' := by
 have HR0 := Aside0.mk hr0
 have HC0 := Aside0.mk hc0
 clear hr0 hc0
 have H : (laws_heldIntSS.l0 k l0 a1 0) = some r := h
 clear h
 have H' := Aside0.mk H
 clear H
 go_enter Tryz.func21, Tryz.ntmps21
 go_wp2
 go_loopg [1, 5] k (fun kq v1 v5 w' => ∃ (x1_1 : Int) (x5_1 : Int), v1 = .int .i64 x1_1 ∧ v5 = .int .i64 x5_1 ∧ Aside0 (laws_heldIntSS.l0 kq l0 x1_1 x5_1 = some r) ∧ Aside0 (kq ≤ k) ∧ Drawn0 w w')
 case atStart => exact ⟨(a1), (0), rs_, rs_, H', ⟨Nat.le_refl _⟩, dn_⟩
 case round =>
  clear H'
  try clear c2
  try clear p2
  obtain ⟨x1_1, x5_1, rfl, rfl, HA, HK1, ⟨m1, rfl⟩⟩ := hrel
  cases gk with
  | zero => exact absurd HA.out (by simp [laws_heldIntSS.l0])
  | succ k1 =>
   have H := HA.out
   clear HA
   simp only [laws_heldIntSS.l0] at H
   replace H := its_ H; rcases H with ⟨c3b0, H⟩ | ⟨c3b0, H⟩
   ·replace H := its_ H; rcases H with ⟨c4b0, H⟩ | ⟨_, ⟨⟩⟩
    replace H := bnd_ H; obtain ⟨t538, A5, H⟩ := H
    replace H := its_ H; rcases H with ⟨c6b0, H⟩ | ⟨c6b0, H⟩
    ·obtain rfl := Option.some.inj H
     have p537 : 0 ≤ (x5_1 : Int) := od_
     have q537 : x5_1 < (l0.length : Int) := od_
     obtain ⟨ad537, A537_0, c537_0, e537, hx537_0, hl537_0, hi537_0⟩ := at_L6 HR0.out x5_1 p537 q537
     cases e537
     have HR537_0 := Aside0.mk hi537_0
     have HC537_0 := Aside0.mk hl537_0
     clear hi537_0 hl537_0
     replace p537 := eq_true p537
     replace q537 := eq_true q537
     go_wp2_with (first | ((refine gc_ 25 ?_); refine goesL_ (some 17) rfl rfl Tryz.func25 (by kernel_rfl) rfl #[.slice A537_0 (rd_L6 l0 x5_1).length c537_0, .int .i64 x1_1] rfl am_ ?_; (with_reducible refine (laws_heldIntS.calls k1 _ _ (rd_L6 l0 x5_1) x1_1 t538 _ ?side1 ?side2 A5.out).mono ?_); (case side1 => repeat (first | exact HR537_0.out | (with_reducible refine Kd.C_alloc ?_ _) | (with_reducible refine Kd.C_drewN ?_ _) | (with_reducible refine Kd.C_drew ?_))); (case side2 => exact HC537_0.out); rintro e w' ⟨rfl, ⟨nd, rfl⟩⟩; refine ⟨_, rfl, ?_⟩))
     go_ret
     exact ⟨rs_, dn_⟩
    ·have H' := Aside0.mk H
     clear H
     have p537 : 0 ≤ (x5_1 : Int) := od_
     have q537 : x5_1 < (l0.length : Int) := od_
     obtain ⟨ad537, A537_0, c537_0, e537, hx537_0, hl537_0, hi537_0⟩ := at_L6 HR0.out x5_1 p537 q537
     cases e537
     have HR537_0 := Aside0.mk hi537_0
     have HC537_0 := Aside0.mk hl537_0
     clear hi537_0 hl537_0
     replace p537 := eq_true p537
     replace q537 := eq_true q537
     go_wp2_with (first | ((refine gc_ 25 ?_); refine goesL_ (some 17) rfl rfl Tryz.func25 (by kernel_rfl) rfl #[.slice A537_0 (rd_L6 l0 x5_1).length c537_0, .int .i64 x1_1] rfl am_ ?_; (with_reducible refine (laws_heldIntS.calls k1 _ _ (rd_L6 l0 x5_1) x1_1 t538 _ ?side1 ?side2 A5.out).mono ?_); (case side1 => repeat (first | exact HR537_0.out | (with_reducible refine Kd.C_alloc ?_ _) | (with_reducible refine Kd.C_drewN ?_ _) | (with_reducible refine Kd.C_drew ?_))); (case side2 => exact HC537_0.out); rintro e w' ⟨rfl, ⟨nd, rfl⟩⟩; refine ⟨_, rfl, ?_⟩))
     go_roundg k1
     case measure => have := HK1.out; omega
     case rel => exact ⟨(t538), (wrap64 (x5_1 + 1)), rs_, rs_, H', ⟨by have := HK1.out; omega⟩, dn_⟩
   ·obtain rfl := Option.some.inj H
    go_wp2
    go_ret
    exact ⟨rs_, dn_⟩

/-! ### laws_FnExactDifferencesFor: function 4 -/
def laws_FnExactDifferencesFor.f (k : Nat) (a0_0 : ByteArray) (l0_1 : List ByteArray) (l0_2 : List (S75)) (l0_3 : List (List Int)) (a1 : Int) : Option (Bool) := (laws_szTableau.f k a0_0 l0_1 l0_2 l0_3 1048576).bind fun t540 => (if t540 < 0 then (some true) else ((laws_toTableau.f k a0_0 l0_1 l0_2 l0_3).bind fun bt541 => ((spec_DifferencesFor.f k bt541.1 bt541.2.1 bt541.2.2.1 bt541.2.2.2 a1).bind fun t551 => ((laws_toTableau.f k a0_0 l0_1 l0_2 l0_3).bind fun bt554 => ((impl_DifferencesFor.f k bt554.1 bt554.2.1 bt554.2.2.1 bt554.2.2.2 a1).bind fun t565 => ((laws_eqIntSS.f k t565 t551).bind fun t568 => (if t568 = true then ((laws_toTableau.f k a0_0 l0_1 l0_2 l0_3).bind fun bt569 => ((laws_eqTableau.f k bt554.1 bt554.2.1 bt554.2.2.1 bt554.2.2.2 bt569.1 bt569.2.1 bt569.2.2.1 bt569.2.2.2).bind fun t579 => (if t579 = true then ((laws_markTableau.f k bt554.1 bt554.2.1 bt554.2.2.1 bt554.2.2.2 1).bind fun bt580 => (if bt580.1 < 0 then (some false) else ((laws_eqIntSS.f k t565 t551).bind fun t584 => (if t584 = true then ((laws_markIntSS.f k t565 1).bind fun bt585 => ((laws_heldIntSS.f k bt585.2 1).bind fun t587 => (if t587 < 0 then (some false) else (if t587 = bt585.1 then ((laws_toTableau.f k a0_0 l0_1 l0_2 l0_3).bind fun bt588 => ((impl_DifferencesFor.f k bt588.1 bt588.2.1 bt588.2.2.1 bt588.2.2.2 a1).bind fun t598 => ((laws_eqIntSS.f k t598 t551).bind fun t601 => (if t601 = true then ((laws_heldIntSS.f k bt585.2 1).bind fun t602 => (if t602 < 0 then (some false) else (if t602 = bt585.1 then (some true) else (some false)))) else (some false))))) else (some false))))) else (some false))))) else (some false)))) else (some false))))))))
set_option maxHeartbeats 16000000 in
set_option maxRecDepth 100000 in
theorem laws_FnExactDifferencesFor.calls (k : Nat) (a0_0 : ByteArray) (A0_1 : Option Addr) (c0_1 : Nat) (l0_1 : List ByteArray) (A0_2 : Option Addr) (c0_2 : Nat) (l0_2 : List (S75)) (A0_3 : Option Addr) (c0_3 : Nat) (l0_3 : List (List Int)) (a1 : Int) (r : Bool) (w : World) (hr0_1 : Kd.C Kd.string w A0_1 l0_1.length l0_1) (hc0_1 : l0_1.length ≤ c0_1) (hr0_2 : Kd.C k75 w A0_2 l0_2.length l0_2) (hc0_2 : l0_2.length ≤ c0_2) (hr0_3 : Kd.C (Kd.slice 3 (Kd.int .i64)) w A0_3 l0_3.length l0_3) (hc0_3 : l0_3.length ≤ c0_3) (hr_ : r = true) (h : laws_FnExactDifferencesFor.f k a0_0 l0_1 l0_2 l0_3 a1 = some r) :
  Calls Tryz.prog 4 #[.agg #[.string a0_0, .slice A0_1 l0_1.length c0_1, .slice A0_2 l0_2.length c0_2, .slice A0_3 l0_3.length c0_3], .int .i64 a1] w fun e w' => e = .returned (.bool r) ∧ Below w.heap.size w w' := by
 have HR0_1 := Aside0.mk hr0_1
 have HC0_1 := Aside0.mk hc0_1
 clear hr0_1 hc0_1
 have HR0_2 := Aside0.mk hr0_2
 have HC0_2 := Aside0.mk hc0_2
 clear hr0_2 hc0_2
 have HR0_3 := Aside0.mk hr0_3
 have HC0_3 := Aside0.mk hc0_3
 clear hr0_3 hc0_3
 have HB := Aside0.mk (Below.refl w.heap.size w)
 have H : ((laws_szTableau.f k a0_0 l0_1 l0_2 l0_3 1048576).bind fun t540 => (if t540 < 0 then (some true) else ((laws_toTableau.f k a0_0 l0_1 l0_2 l0_3).bind fun bt541 => ((spec_DifferencesFor.f k bt541.1 bt541.2.1 bt541.2.2.1 bt541.2.2.2 a1).bind fun t551 => ((laws_toTableau.f k a0_0 l0_1 l0_2 l0_3).bind fun bt554 => ((impl_DifferencesFor.f k bt554.1 bt554.2.1 bt554.2.2.1 bt554.2.2.2 a1).bind fun t565 => ((laws_eqIntSS.f k t565 t551).bind fun t568 => (if t568 = true then ((laws_toTableau.f k a0_0 l0_1 l0_2 l0_3).bind fun bt569 => ((laws_eqTableau.f k bt554.1 bt554.2.1 bt554.2.2.1 bt554.2.2.2 bt569.1 bt569.2.1 bt569.2.2.1 bt569.2.2.2).bind fun t579 => (if t579 = true then ((laws_markTableau.f k bt554.1 bt554.2.1 bt554.2.2.1 bt554.2.2.2 1).bind fun bt580 => (if bt580.1 < 0 then (some false) else ((laws_eqIntSS.f k t565 t551).bind fun t584 => (if t584 = true then ((laws_markIntSS.f k t565 1).bind fun bt585 => ((laws_heldIntSS.f k bt585.2 1).bind fun t587 => (if t587 < 0 then (some false) else (if t587 = bt585.1 then ((laws_toTableau.f k a0_0 l0_1 l0_2 l0_3).bind fun bt588 => ((impl_DifferencesFor.f k bt588.1 bt588.2.1 bt588.2.2.1 bt588.2.2.2 a1).bind fun t598 => ((laws_eqIntSS.f k t598 t551).bind fun t601 => (if t601 = true then ((laws_heldIntSS.f k bt585.2 1).bind fun t602 => (if t602 < 0 then (some false) else (if t602 = bt585.1 then (some true) else (some false)))) else (some false))))) else (some false))))) else (some false))))) else (some false)))) else (some false))))))))) = some r := h
 clear h
 replace H := bnd_ H; obtain ⟨t540, E1, H⟩ := H
 replace H := its_ H; rcases H with ⟨c2b0, H⟩ | ⟨c2b0, H⟩
 ·obtain rfl := Option.some.inj H
  go_enter Tryz.func4, Tryz.ntmps4
  go_wp2_with (first | ((refine gd_ 2 ?_); refine bx_ 2 #[.string a0_0, .slice A0_1 l0_1.length c0_1, .slice A0_2 l0_2.length c0_2, .slice A0_3 l0_3.length c0_3] 33 ?_; intro gb539 hg_ w3 hbox_ hb; have hs_ := adv (wl := w) (tow_) hb; have BK539 := Aside0.mk hbox_; have HPB539 := Aside0.mk (boxIn (wl := w) (tow_) hg_ hbox_); have z_ := Aside0.mk (advB HB.out hs_); clear HB; have HB := z_; clear z_; have HZ4 := Aside0.mk (below_size hs_); clear hs_ hb hg_ hbox_; obtain ⟨hcz539_0, hcz539_1, hcz539_2, hcz539_3⟩ := c4_ BK539) | ((refine gc_ 13 ?_); refine goesL_ (some 15) rfl rfl Tryz.func13 (by kernel_rfl) rfl #[.agg #[.string a0_0, .slice A0_1 l0_1.length c0_1, .slice A0_2 l0_2.length c0_2, .slice A0_3 l0_3.length c0_3], .int .i64 1048576] rfl (by (try simp only [List.map_toArray, List.map_cons, List.map_nil]); first | done | rfl) ?_; (with_reducible refine (laws_szTableau.calls k a0_0 _ _ l0_1 _ _ l0_2 _ _ l0_3 1048576 t540 _ (Kd.C_below HR0_1.out (up_ HB.out)) HC0_1.out (Kd.C_below HR0_2.out (up_ HB.out)) HC0_2.out (Kd.C_below HR0_3.out (up_ HB.out)) HC0_3.out E1.out).mono ?_); rintro e w5 ⟨rfl, hb⟩; refine ⟨_, rfl, ?_⟩; have hs_ := adv (wl := w3) (tow_) hb; have z_ := Aside0.mk (blk_below BK539.out hs_); clear BK539; have BK539 := z_; clear z_; (try clear hcz539_0); (try clear hcz539_1); (try clear hcz539_2); (try clear hcz539_3); have z_ := Aside0.mk (advB HB.out hs_); clear HB; have HB := z_; clear z_; have HZ6 := Aside0.mk (below_size hs_); clear hs_ hb))
  go_ret
  exact ⟨rs_, advB HB.out (tow_)⟩
 ·replace H := Option.bind_eq_some_iff.mp H
  obtain ⟨⟨t541, t542, t545, t548⟩, E70, H⟩ := H
  replace H : ((spec_DifferencesFor.f k t541 t542 t545 t548 a1).bind fun t551 => ((laws_toTableau.f k a0_0 l0_1 l0_2 l0_3).bind fun bt554 => ((impl_DifferencesFor.f k bt554.1 bt554.2.1 bt554.2.2.1 bt554.2.2.2 a1).bind fun t565 => ((laws_eqIntSS.f k t565 t551).bind fun t568 => (if t568 = true then ((laws_toTableau.f k a0_0 l0_1 l0_2 l0_3).bind fun bt569 => ((laws_eqTableau.f k bt554.1 bt554.2.1 bt554.2.2.1 bt554.2.2.2 bt569.1 bt569.2.1 bt569.2.2.1 bt569.2.2.2).bind fun t579 => (if t579 = true then ((laws_markTableau.f k bt554.1 bt554.2.1 bt554.2.2.1 bt554.2.2.2 1).bind fun bt580 => (if bt580.1 < 0 then (some false) else ((laws_eqIntSS.f k t565 t551).bind fun t584 => (if t584 = true then ((laws_markIntSS.f k t565 1).bind fun bt585 => ((laws_heldIntSS.f k bt585.2 1).bind fun t587 => (if t587 < 0 then (some false) else (if t587 = bt585.1 then ((laws_toTableau.f k a0_0 l0_1 l0_2 l0_3).bind fun bt588 => ((impl_DifferencesFor.f k bt588.1 bt588.2.1 bt588.2.2.1 bt588.2.2.2 a1).bind fun t598 => ((laws_eqIntSS.f k t598 t551).bind fun t601 => (if t601 = true then ((laws_heldIntSS.f k bt585.2 1).bind fun t602 => (if t602 < 0 then (some false) else (if t602 = bt585.1 then (some true) else (some false)))) else (some false))))) else (some false))))) else (some false))))) else (some false)))) else (some false)))))) = some r := H
  have E7 := Aside0.mk E70
  clear E70
  replace H := bnd_ H; obtain ⟨t551, E8, H⟩ := H
  replace H := Option.bind_eq_some_iff.mp H
  obtain ⟨⟨t554, t555, t558, t561⟩, E90, H⟩ := H
  replace H : ((impl_DifferencesFor.f k t554 t555 t558 t561 a1).bind fun t565 => ((laws_eqIntSS.f k t565 t551).bind fun t568 => (if t568 = true then ((laws_toTableau.f k a0_0 l0_1 l0_2 l0_3).bind fun bt569 => ((laws_eqTableau.f k t554 t555 t558 t561 bt569.1 bt569.2.1 bt569.2.2.1 bt569.2.2.2).bind fun t579 => (if t579 = true then ((laws_markTableau.f k t554 t555 t558 t561 1).bind fun bt580 => (if bt580.1 < 0 then (some false) else ((laws_eqIntSS.f k t565 t551).bind fun t584 => (if t584 = true then ((laws_markIntSS.f k t565 1).bind fun bt585 => ((laws_heldIntSS.f k bt585.2 1).bind fun t587 => (if t587 < 0 then (some false) else (if t587 = bt585.1 then ((laws_toTableau.f k a0_0 l0_1 l0_2 l0_3).bind fun bt588 => ((impl_DifferencesFor.f k bt588.1 bt588.2.1 bt588.2.2.1 bt588.2.2.2 a1).bind fun t598 => ((laws_eqIntSS.f k t598 t551).bind fun t601 => (if t601 = true then ((laws_heldIntSS.f k bt585.2 1).bind fun t602 => (if t602 < 0 then (some false) else (if t602 = bt585.1 then (some true) else (some false)))) else (some false))))) else (some false))))) else (some false))))) else (some false)))) else (some false)))) = some r := H
  have E9 := Aside0.mk E90
  clear E90
  replace H := bnd_ H; obtain ⟨t565, E10, H⟩ := H
  replace H := bnd_ H; obtain ⟨t568, E11, H⟩ := H
  by_cases c12 : t568 = true
  ·subst c12
   replace H : ((laws_toTableau.f k a0_0 l0_1 l0_2 l0_3).bind fun bt569 => ((laws_eqTableau.f k t554 t555 t558 t561 bt569.1 bt569.2.1 bt569.2.2.1 bt569.2.2.2).bind fun t579 => (if t579 = true then ((laws_markTableau.f k t554 t555 t558 t561 1).bind fun bt580 => (if bt580.1 < 0 then (some false) else ((laws_eqIntSS.f k t565 t551).bind fun t584 => (if t584 = true then ((laws_markIntSS.f k t565 1).bind fun bt585 => ((laws_heldIntSS.f k bt585.2 1).bind fun t587 => (if t587 < 0 then (some false) else (if t587 = bt585.1 then ((laws_toTableau.f k a0_0 l0_1 l0_2 l0_3).bind fun bt588 => ((impl_DifferencesFor.f k bt588.1 bt588.2.1 bt588.2.2.1 bt588.2.2.2 a1).bind fun t598 => ((laws_eqIntSS.f k t598 t551).bind fun t601 => (if t601 = true then ((laws_heldIntSS.f k bt585.2 1).bind fun t602 => (if t602 < 0 then (some false) else (if t602 = bt585.1 then (some true) else (some false)))) else (some false))))) else (some false))))) else (some false))))) else (some false)))) = some r := by rw [if_pos rfl] at H; exact H
   replace H := Option.bind_eq_some_iff.mp H
   obtain ⟨⟨t569, t570, t573, t576⟩, E130, H⟩ := H
   replace H : ((laws_eqTableau.f k t554 t555 t558 t561 t569 t570 t573 t576).bind fun t579 => (if t579 = true then ((laws_markTableau.f k t554 t555 t558 t561 1).bind fun bt580 => (if bt580.1 < 0 then (some false) else ((laws_eqIntSS.f k t565 t551).bind fun t584 => (if t584 = true then ((laws_markIntSS.f k t565 1).bind fun bt585 => ((laws_heldIntSS.f k bt585.2 1).bind fun t587 => (if t587 < 0 then (some false) else (if t587 = bt585.1 then ((laws_toTableau.f k a0_0 l0_1 l0_2 l0_3).bind fun bt588 => ((impl_DifferencesFor.f k bt588.1 bt588.2.1 bt588.2.2.1 bt588.2.2.2 a1).bind fun t598 => ((laws_eqIntSS.f k t598 t551).bind fun t601 => (if t601 = true then ((laws_heldIntSS.f k bt585.2 1).bind fun t602 => (if t602 < 0 then (some false) else (if t602 = bt585.1 then (some true) else (some false)))) else (some false))))) else (some false))))) else (some false))))) else (some false))) = some r := H
   have E13 := Aside0.mk E130
   clear E130
   replace H := bnd_ H; obtain ⟨t579, E14, H⟩ := H
   by_cases c15 : t579 = true
   ·subst c15
    replace H : ((laws_markTableau.f k t554 t555 t558 t561 1).bind fun bt580 => (if bt580.1 < 0 then (some false) else ((laws_eqIntSS.f k t565 t551).bind fun t584 => (if t584 = true then ((laws_markIntSS.f k t565 1).bind fun bt585 => ((laws_heldIntSS.f k bt585.2 1).bind fun t587 => (if t587 < 0 then (some false) else (if t587 = bt585.1 then ((laws_toTableau.f k a0_0 l0_1 l0_2 l0_3).bind fun bt588 => ((impl_DifferencesFor.f k bt588.1 bt588.2.1 bt588.2.2.1 bt588.2.2.2 a1).bind fun t598 => ((laws_eqIntSS.f k t598 t551).bind fun t601 => (if t601 = true then ((laws_heldIntSS.f k bt585.2 1).bind fun t602 => (if t602 < 0 then (some false) else (if t602 = bt585.1 then (some true) else (some false)))) else (some false))))) else (some false))))) else (some false))))) = some r := by rw [if_pos rfl] at H; exact H
    replace H := Option.bind_eq_some_iff.mp H
    obtain ⟨⟨t580, t581, t582, t583⟩, E160, H⟩ := H
    replace H : (if t580 < 0 then (some false) else ((laws_eqIntSS.f k t565 t551).bind fun t584 => (if t584 = true then ((laws_markIntSS.f k t565 1).bind fun bt585 => ((laws_heldIntSS.f k bt585.2 1).bind fun t587 => (if t587 < 0 then (some false) else (if t587 = bt585.1 then ((laws_toTableau.f k a0_0 l0_1 l0_2 l0_3).bind fun bt588 => ((impl_DifferencesFor.f k bt588.1 bt588.2.1 bt588.2.2.1 bt588.2.2.2 a1).bind fun t598 => ((laws_eqIntSS.f k t598 t551).bind fun t601 => (if t601 = true then ((laws_heldIntSS.f k bt585.2 1).bind fun t602 => (if t602 < 0 then (some false) else (if t602 = bt585.1 then (some true) else (some false)))) else (some false))))) else (some false))))) else (some false)))) = some r := H
    have E16 := Aside0.mk E160
    clear E160
    by_cases c17 : t580 < 0
    ·rw [if_pos c17] at H
     exact absurd (Option.some.inj H) (by rw [hr_]; decide)
    ·rw [if_neg c17] at H
     have c17b0 : decide (t580 < 0) = false := decide_eq_false c17
     clear c17
     replace H := bnd_ H; obtain ⟨t584, E18, H⟩ := H
     by_cases c19 : t584 = true
     ·subst c19
      replace H : ((laws_markIntSS.f k t565 1).bind fun bt585 => ((laws_heldIntSS.f k bt585.2 1).bind fun t587 => (if t587 < 0 then (some false) else (if t587 = bt585.1 then ((laws_toTableau.f k a0_0 l0_1 l0_2 l0_3).bind fun bt588 => ((impl_DifferencesFor.f k bt588.1 bt588.2.1 bt588.2.2.1 bt588.2.2.2 a1).bind fun t598 => ((laws_eqIntSS.f k t598 t551).bind fun t601 => (if t601 = true then ((laws_heldIntSS.f k bt585.2 1).bind fun t602 => (if t602 < 0 then (some false) else (if t602 = bt585.1 then (some true) else (some false)))) else (some false))))) else (some false))))) = some r := by rw [if_pos rfl] at H; exact H
      replace H := Option.bind_eq_some_iff.mp H
      obtain ⟨⟨t585, t586⟩, E200, H⟩ := H
      replace H : ((laws_heldIntSS.f k t586 1).bind fun t587 => (if t587 < 0 then (some false) else (if t587 = t585 then ((laws_toTableau.f k a0_0 l0_1 l0_2 l0_3).bind fun bt588 => ((impl_DifferencesFor.f k bt588.1 bt588.2.1 bt588.2.2.1 bt588.2.2.2 a1).bind fun t598 => ((laws_eqIntSS.f k t598 t551).bind fun t601 => (if t601 = true then ((laws_heldIntSS.f k t586 1).bind fun t602 => (if t602 < 0 then (some false) else (if t602 = t585 then (some true) else (some false)))) else (some false))))) else (some false)))) = some r := H
      have E20 := Aside0.mk E200
      clear E200
      replace H := bnd_ H; obtain ⟨t587, E21, H⟩ := H
      by_cases c22 : t587 < 0
      ·rw [if_pos c22] at H
       exact absurd (Option.some.inj H) (by rw [hr_]; decide)
      ·rw [if_neg c22] at H
       have c22b0 : decide (t587 < 0) = false := decide_eq_false c22
       clear c22
       by_cases c23 : t587 = t585
       ·rw [if_pos c23] at H
        have c23b0 : (t587 == t585) = true := beq_iff_eq.mpr c23
        have c23b1 : (t587 != t585) = false := bne_eq_false_iff_eq.mpr c23
        clear c23
        replace H := Option.bind_eq_some_iff.mp H
        obtain ⟨⟨t588, t589, t592, t595⟩, E240, H⟩ := H
        replace H : ((impl_DifferencesFor.f k t588 t589 t592 t595 a1).bind fun t598 => ((laws_eqIntSS.f k t598 t551).bind fun t601 => (if t601 = true then ((laws_heldIntSS.f k t586 1).bind fun t602 => (if t602 < 0 then (some false) else (if t602 = t585 then (some true) else (some false)))) else (some false)))) = some r := H
        have E24 := Aside0.mk E240
        clear E240
        replace H := bnd_ H; obtain ⟨t598, E25, H⟩ := H
        replace H := bnd_ H; obtain ⟨t601, E26, H⟩ := H
        by_cases c27 : t601 = true
        ·subst c27
         replace H : ((laws_heldIntSS.f k t586 1).bind fun t602 => (if t602 < 0 then (some false) else (if t602 = t585 then (some true) else (some false)))) = some r := by rw [if_pos rfl] at H; exact H
         replace H := bnd_ H; obtain ⟨t602, E28, H⟩ := H
         by_cases c29 : t602 < 0
         ·rw [if_pos c29] at H
          exact absurd (Option.some.inj H) (by rw [hr_]; decide)
         ·rw [if_neg c29] at H
          have c29b0 : decide (t602 < 0) = false := decide_eq_false c29
          clear c29
          by_cases c30 : t602 = t585
          ·rw [if_pos c30] at H
           have c30b0 : (t602 == t585) = true := beq_iff_eq.mpr c30
           have c30b1 : (t602 != t585) = false := bne_eq_false_iff_eq.mpr c30
           clear c30
           obtain rfl := Option.some.inj H
           go_enter Tryz.func4, Tryz.ntmps4
           go_wp2_with (first | ((refine gd_ 2 ?_); refine bx_ 2 #[.string a0_0, .slice A0_1 l0_1.length c0_1, .slice A0_2 l0_2.length c0_2, .slice A0_3 l0_3.length c0_3] 33 ?_; intro gb539 hg_ w31 hbox_ hb; have hs_ := adv (wl := w) (tow_) hb; have BK539 := Aside0.mk hbox_; have HPB539 := Aside0.mk (boxIn (wl := w) (tow_) hg_ hbox_); have z_ := Aside0.mk (advB HB.out hs_); clear HB; have HB := z_; clear z_; have HZ32 := Aside0.mk (below_size hs_); clear hs_ hb hg_ hbox_; obtain ⟨hcz539_0, hcz539_1, hcz539_2, hcz539_3⟩ := c4_ BK539) | ((refine gc_ 13 ?_); refine goesL_ (some 15) rfl rfl Tryz.func13 (by kernel_rfl) rfl #[.agg #[.string a0_0, .slice A0_1 l0_1.length c0_1, .slice A0_2 l0_2.length c0_2, .slice A0_3 l0_3.length c0_3], .int .i64 1048576] rfl (by (try simp only [List.map_toArray, List.map_cons, List.map_nil]); first | done | rfl) ?_; (with_reducible refine (laws_szTableau.calls k a0_0 _ _ l0_1 _ _ l0_2 _ _ l0_3 1048576 t540 _ (Kd.C_below HR0_1.out (up_ HB.out)) HC0_1.out (Kd.C_below HR0_2.out (up_ HB.out)) HC0_2.out (Kd.C_below HR0_3.out (up_ HB.out)) HC0_3.out E1.out).mono ?_); rintro e w33 ⟨rfl, hb⟩; refine ⟨_, rfl, ?_⟩; have hs_ := adv (wl := w31) (tow_) hb; have z_ := Aside0.mk (blk_below BK539.out hs_); clear BK539; have BK539 := z_; clear z_; (try clear hcz539_0); (try clear hcz539_1); (try clear hcz539_2); (try clear hcz539_3); have z_ := Aside0.mk (advB HB.out hs_); clear HB; have HB := z_; clear z_; have HZ34 := Aside0.mk (below_size hs_); clear hs_ hb; obtain ⟨hcz539_0, hcz539_1, hcz539_2, hcz539_3⟩ := c4_ BK539) | ((refine gc_ 15 ?_); refine goesL_ (some 19) rfl rfl Tryz.func15 (by kernel_rfl) rfl #[.agg #[.string a0_0, .slice A0_1 l0_1.length c0_1, .slice A0_2 l0_2.length c0_2, .slice A0_3 l0_3.length c0_3]] rfl (by (try simp only [List.map_toArray, List.map_cons, List.map_nil]); first | done | rfl) ?_; (with_reducible refine (laws_toTableau.calls k a0_0 _ _ l0_1 _ _ l0_2 _ _ l0_3 t541 t542 t545 t548 _ (Kd.C_below HR0_1.out (up_ HB.out)) HC0_1.out (Kd.C_below HR0_2.out (up_ HB.out)) HC0_2.out (Kd.C_below HR0_3.out (up_ HB.out)) HC0_3.out E7.out).mono ?_); rintro e w35 ⟨v543, v546, v549, rfl, ho0, ho1, ho2, hb⟩; refine ⟨_, rfl, ?_⟩; have hs_ := adv (wl := w33) (tow_) hb; obtain ⟨P37, hp_, hq_⟩ := made_R (wl := w33) (base := w.heap.size) (tow_) (below_size HB.out) ho0; have HP37 := Aside0.mk hp_; have zHO544 := Aside0.mk hq_; clear hp_ hq_ ho0; obtain ⟨P38, hp_, hq_⟩ := made_S (wl := w33) (base := w.heap.size) (tow_) (below_size HB.out) ho1; have HP38 := Aside0.mk hp_; have zHO547 := Aside0.mk hq_; clear hp_ hq_ ho1; obtain ⟨P39, hp_, hq_⟩ := made_S (wl := w33) (base := w.heap.size) (tow_) (below_size HB.out) ho2; have HP39 := Aside0.mk hp_; have zHO550 := Aside0.mk hq_; clear hp_ hq_ ho2; have z_ := Aside0.mk (blk_below BK539.out hs_); clear BK539; have BK539 := z_; clear z_; (try clear hcz539_0); (try clear hcz539_1); (try clear hcz539_2); (try clear hcz539_3); have z_ := Aside0.mk (advB HB.out hs_); clear HB; have HB := z_; clear z_; have HZ36 := Aside0.mk (below_size hs_); clear hs_ hb; have HO544 := zHO544; clear zHO544; obtain ⟨Ao40, co41, eo42⟩ := slice_R HO544.out; subst eo42; have HO547 := zHO547; clear zHO547; obtain ⟨Ao43, co44, eo45⟩ := slice_S HO547.out; subst eo45; have HO550 := zHO550; clear zHO550; obtain ⟨Ao46, co47, eo48⟩ := slice_S HO550.out; subst eo48) | ((refine gc_ 14 ?_); refine goesL_ (some 21) rfl rfl Tryz.func14 (by kernel_rfl) rfl #[.agg #[.string t541, .slice Ao40 t542.length co41, .slice Ao43 t545.length co44, .slice Ao46 t548.length co47], .int .i64 a1] rfl (by (try simp only [List.map_toArray, List.map_cons, List.map_nil]); first | done | rfl) ?_; (with_reducible refine (spec_DifferencesFor.calls k t541 _ _ t542 _ _ t545 _ _ t548 a1 t551 _ ?side1 ?side2 ?side3 ?side4 ?side5 ?side6 E8.out).mono ?_); (case side1 => repeat (first | exact (Kd.R_reads' HO544.out).2.2 | (with_reducible refine Kd.C_alloc ?_ _) | (with_reducible refine Kd.C_drewN ?_ _) | (with_reducible refine Kd.C_drew ?_))); (case side2 => exact (Kd.R_reads' HO544.out).2.1); (case side3 => repeat (first | exact (Kd.S_reads' HO547.out).2.2 | (with_reducible refine Kd.C_alloc ?_ _) | (with_reducible refine Kd.C_drewN ?_ _) | (with_reducible refine Kd.C_drew ?_))); (case side4 => exact (Kd.S_reads' HO547.out).2.1); (case side5 => repeat (first | exact (Kd.S_reads' HO550.out).2.2 | (with_reducible refine Kd.C_alloc ?_ _) | (with_reducible refine Kd.C_drewN ?_ _) | (with_reducible refine Kd.C_drew ?_))); (case side6 => exact (Kd.S_reads' HO550.out).2.1); rintro e w49 ⟨v552, rfl, ho0, hb⟩; refine ⟨_, rfl, ?_⟩; have hs_ := adv (wl := w35) (tow_) hb; obtain ⟨P51, hp_, hq_⟩ := made_S (wl := w35) (base := w.heap.size) (tow_) (below_size HB.out) ho0; have HP51 := Aside0.mk hp_; have zHO553 := Aside0.mk hq_; clear hp_ hq_ ho0; have z_ := Aside0.mk (Kd.R_below HO544.out hs_); clear HO544; have HO544 := z_; clear z_; have z_ := Aside0.mk (Kd.S_below HO547.out hs_); clear HO547; have HO547 := z_; clear z_; have z_ := Aside0.mk (Kd.S_below HO550.out hs_); clear HO550; have HO550 := z_; clear z_; have z_ := Aside0.mk (blk_below BK539.out hs_); clear BK539; have BK539 := z_; clear z_; (try clear hcz539_0); (try clear hcz539_1); (try clear hcz539_2); (try clear hcz539_3); have z_ := Aside0.mk (advB HB.out hs_); clear HB; have HB := z_; clear z_; have HZ50 := Aside0.mk (below_size hs_); clear hs_ hb; have HO553 := zHO553; clear zHO553; obtain ⟨Ao52, co53, eo54⟩ := slice_S HO553.out; subst eo54; obtain ⟨hcz539_0, hcz539_1, hcz539_2, hcz539_3⟩ := c4_ BK539) | ((refine gc_ 15 ?_); refine goesL_ (some 23) rfl rfl Tryz.func15 (by kernel_rfl) rfl #[.agg #[.string a0_0, .slice A0_1 l0_1.length c0_1, .slice A0_2 l0_2.length c0_2, .slice A0_3 l0_3.length c0_3]] rfl (by (try simp only [List.map_toArray, List.map_cons, List.map_nil]); first | done | rfl) ?_; (with_reducible refine (laws_toTableau.calls k a0_0 _ _ l0_1 _ _ l0_2 _ _ l0_3 t554 t555 t558 t561 _ (Kd.C_below HR0_1.out (up_ HB.out)) HC0_1.out (Kd.C_below HR0_2.out (up_ HB.out)) HC0_2.out (Kd.C_below HR0_3.out (up_ HB.out)) HC0_3.out E9.out).mono ?_); rintro e w55 ⟨v556, v559, v562, rfl, ho0, ho1, ho2, hb⟩; refine ⟨_, rfl, ?_⟩; have hs_ := adv (wl := w49) (tow_) hb; obtain ⟨P57, hp_, hq_⟩ := made_R (wl := w49) (base := w.heap.size) (tow_) (below_size HB.out) ho0; have HP57 := Aside0.mk hp_; have zHO557 := Aside0.mk hq_; clear hp_ hq_ ho0; obtain ⟨P58, hp_, hq_⟩ := made_S (wl := w49) (base := w.heap.size) (tow_) (below_size HB.out) ho1; have HP58 := Aside0.mk hp_; have zHO560 := Aside0.mk hq_; clear hp_ hq_ ho1; obtain ⟨P59, hp_, hq_⟩ := made_S (wl := w49) (base := w.heap.size) (tow_) (below_size HB.out) ho2; have HP59 := Aside0.mk hp_; have zHO563 := Aside0.mk hq_; clear hp_ hq_ ho2; have z_ := Aside0.mk (Kd.R_below HO544.out hs_); clear HO544; have HO544 := z_; clear z_; have z_ := Aside0.mk (Kd.S_below HO547.out hs_); clear HO547; have HO547 := z_; clear z_; have z_ := Aside0.mk (Kd.S_below HO550.out hs_); clear HO550; have HO550 := z_; clear z_; have z_ := Aside0.mk (Kd.S_below HO553.out hs_); clear HO553; have HO553 := z_; clear z_; have z_ := Aside0.mk (blk_below BK539.out hs_); clear BK539; have BK539 := z_; clear z_; (try clear hcz539_0); (try clear hcz539_1); (try clear hcz539_2); (try clear hcz539_3); have z_ := Aside0.mk (advB HB.out hs_); clear HB; have HB := z_; clear z_; have HZ56 := Aside0.mk (below_size hs_); clear hs_ hb; have HO557 := zHO557; clear zHO557; obtain ⟨Ao60, co61, eo62⟩ := slice_R HO557.out; subst eo62; have HO560 := zHO560; clear zHO560; obtain ⟨Ao63, co64, eo65⟩ := slice_S HO560.out; subst eo65; have HO563 := zHO563; clear zHO563; obtain ⟨Ao66, co67, eo68⟩ := slice_S HO563.out; subst eo68) | ((refine gd_ 7 ?_); refine bx_ 7 #[.string (⟨#[]⟩ : ByteArray), .slice none 0 0, .slice none 0 0, .slice none 0 0] 38 ?_; intro gb564 hg_ w69 hbox_ hb; have hs_ := adv (wl := w55) (tow_) hb; have BK564 := Aside0.mk hbox_; have HPB564 := Aside0.mk (boxIn (wl := w55) (tow_) hg_ hbox_); (try clear hcz539_0); (try clear hcz539_1); (try clear hcz539_2); (try clear hcz539_3); have z_ := Aside0.mk (Kd.R_below HO544.out hs_); clear HO544; have HO544 := z_; clear z_; have z_ := Aside0.mk (Kd.S_below HO547.out hs_); clear HO547; have HO547 := z_; clear z_; have z_ := Aside0.mk (Kd.S_below HO550.out hs_); clear HO550; have HO550 := z_; clear z_; have z_ := Aside0.mk (Kd.S_below HO553.out hs_); clear HO553; have HO553 := z_; clear z_; have z_ := Aside0.mk (Kd.R_below HO557.out hs_); clear HO557; have HO557 := z_; clear z_; have z_ := Aside0.mk (Kd.S_below HO560.out hs_); clear HO560; have HO560 := z_; clear z_; have z_ := Aside0.mk (Kd.S_below HO563.out hs_); clear HO563; have HO563 := z_; clear z_; have z_ := Aside0.mk (blk_below BK539.out hs_); clear BK539; have BK539 := z_; clear z_; have z_ := Aside0.mk (advB HB.out hs_); clear HB; have HB := z_; clear z_; have HZ70 := Aside0.mk (below_size hs_); clear hs_ hb hg_ hbox_; obtain ⟨hcz564_0, hcz564_1, hcz564_2, hcz564_3⟩ := c4_ BK564; have hfz564_0 := blk_frozen BK564.out 0; have hfz564_1 := blk_frozen BK564.out 1; have hfz564_2 := blk_frozen BK564.out 2; have hfz564_3 := blk_frozen BK564.out 3) | ((with_reducible refine gate_store (t := 38) (p := 7) rfl ?_); refine store_event (t := 38) (p := 7) (v := ?vo_w71) (w1 := ((((w69.setCell ⟨gb564, 0, none⟩ (.string t554)).setCell ⟨gb564, 1, none⟩ (.slice Ao60 t555.length co61)).setCell ⟨gb564, 2, none⟩ (.slice Ao63 t558.length co64)).setCell ⟨gb564, 3, none⟩ (.slice Ao66 t561.length co67))) ?hg ?ho ?hn ?hr ?_; (case ho => rfl); (case hg => rfl); (case hn => rfl); (case hr => first | (go_simp; done) | (go_simp; rfl)); intro w71 hw_; have hk_ : Kept w69 w71 (fun k => k = gb564) := keq (kset (kset (kset (kset (Kept.refl w69 (fun k => k = gb564)) gb564 0 (.string t554) rfl) gb564 1 (.slice Ao60 t555.length co61) rfl) gb564 2 (.slice Ao63 t558.length co64) rfl) gb564 3 (.slice Ao66 t561.length co67) rfl) hw_; (try clear hcz539_0); (try clear hcz539_1); (try clear hcz539_2); (try clear hcz539_3); (try clear hcz564_0); (try clear hcz564_1); (try clear hcz564_2); (try clear hcz564_3); (try clear hfz564_0); (try clear hfz564_1); (try clear hfz564_2); (try clear hfz564_3); have z_ := Aside0.mk (Kd.R_kept HO544.out hk_ (fun k_ h1_ h2_ => apart_ (Nat.le_trans HZ50.out <| HZ56.out) (HP37.out k_ h1_).2.1 (HPB564.out k_ h2_).1)); clear HO544; have HO544 := z_; clear z_; have z_ := Aside0.mk (Kd.S_kept HO547.out hk_ (fun k_ h1_ h2_ => apart_ (Nat.le_trans HZ50.out <| HZ56.out) (HP38.out k_ h1_).2.1 (HPB564.out k_ h2_).1)); clear HO547; have HO547 := z_; clear z_; have z_ := Aside0.mk (Kd.S_kept HO550.out hk_ (fun k_ h1_ h2_ => apart_ (Nat.le_trans HZ50.out <| HZ56.out) (HP39.out k_ h1_).2.1 (HPB564.out k_ h2_).1)); clear HO550; have HO550 := z_; clear z_; have z_ := Aside0.mk (Kd.S_kept HO553.out hk_ (fun k_ h1_ h2_ => apart_ (HZ56.out) (HP51.out k_ h1_).2.1 (HPB564.out k_ h2_).1)); clear HO553; have HO553 := z_; clear z_; have z_ := Aside0.mk (Kd.R_kept HO557.out hk_ (fun k_ h1_ h2_ => apart_ (Nat.le_refl _) (HP57.out k_ h1_).2.1 (HPB564.out k_ h2_).1)); clear HO557; have HO557 := z_; clear z_; have z_ := Aside0.mk (Kd.S_kept HO560.out hk_ (fun k_ h1_ h2_ => apart_ (Nat.le_refl _) (HP58.out k_ h1_).2.1 (HPB564.out k_ h2_).1)); clear HO560; have HO560 := z_; clear z_; have z_ := Aside0.mk (Kd.S_kept HO563.out hk_ (fun k_ h1_ h2_ => apart_ (Nat.le_refl _) (HP59.out k_ h1_).2.1 (HPB564.out k_ h2_).1)); clear HO563; have HO563 := z_; clear z_; have z_ := Aside0.mk (blk_kept BK539.out hk_ (fun he_ => (fun k_ h1_ h2_ => apart_ (Nat.le_trans HZ34.out <| Nat.le_trans HZ36.out <| Nat.le_trans HZ50.out <| HZ56.out) (HPB539.out k_ h1_).2.1 (HPB564.out k_ h2_).1) gb539 rfl he_)); clear BK539; have BK539 := z_; clear z_; have z_ := Aside0.mk (show w71.heap[gb564]? = some (.cells #[.string t554, .slice Ao60 t555.length co61, .slice Ao63 t558.length co64, .slice Ao66 t561.length co67] 38 (0, 0)) from (by rw [hw_]; exact (blk_put (cs' := #[.string t554, .slice Ao60 t555.length co61, .slice Ao63 t558.length co64, .slice Ao66 t561.length co67]) ((blk_put (cs' := #[.string t554, .slice Ao60 t555.length co61, .slice Ao63 t558.length co64, .slice none 0 0]) ((blk_put (cs' := #[.string t554, .slice Ao60 t555.length co61, .slice none 0 0, .slice none 0 0]) ((blk_put (cs' := #[.string t554, .slice none 0 0, .slice none 0 0, .slice none 0 0]) (BK564.out) 0 (.string t554) rfl)) 1 (.slice Ao60 t555.length co61) rfl)) 2 (.slice Ao63 t558.length co64) rfl)) 3 (.slice Ao66 t561.length co67) rfl))); clear BK564; have BK564 := z_; clear z_; have z_ := Aside0.mk (show Below w.heap.size w w71 from (by rw [hw_]; exact bset (bset (bset (bset (HB.out) gb564 0 (.string t554) (Nat.le_trans (Nat.le_trans HZ32.out <| Nat.le_trans HZ34.out <| Nat.le_trans HZ36.out <| Nat.le_trans HZ50.out <| HZ56.out) (HPB564.out gb564 rfl).1)) gb564 1 (.slice Ao60 t555.length co61) (Nat.le_trans (Nat.le_trans HZ32.out <| Nat.le_trans HZ34.out <| Nat.le_trans HZ36.out <| Nat.le_trans HZ50.out <| HZ56.out) (HPB564.out gb564 rfl).1)) gb564 2 (.slice Ao63 t558.length co64) (Nat.le_trans (Nat.le_trans HZ32.out <| Nat.le_trans HZ34.out <| Nat.le_trans HZ36.out <| Nat.le_trans HZ50.out <| HZ56.out) (HPB564.out gb564 rfl).1)) gb564 3 (.slice Ao66 t561.length co67) (Nat.le_trans (Nat.le_trans HZ32.out <| Nat.le_trans HZ34.out <| Nat.le_trans HZ36.out <| Nat.le_trans HZ50.out <| HZ56.out) (HPB564.out gb564 rfl).1))); clear HB; have HB := z_; clear z_; have HZ72 := Aside0.mk hk_.1; clear hk_ hw_; obtain ⟨hcz564_0, hcz564_1, hcz564_2, hcz564_3⟩ := c4_ BK564) | ((refine gc_ 16 ?_); refine goesL_ (some 26) rfl rfl Tryz.func16 (by kernel_rfl) rfl #[.agg #[.string t554, .slice Ao60 t555.length co61, .slice Ao63 t558.length co64, .slice Ao66 t561.length co67], .int .i64 a1] rfl (by (try simp only [List.map_toArray, List.map_cons, List.map_nil]); first | done | rfl) ?_; (with_reducible refine (impl_DifferencesFor.calls k t554 _ _ t555 _ _ t558 _ _ t561 a1 t565 _ ?side1 ?side2 ?side3 ?side4 ?side5 ?side6 E10.out).mono ?_); (case side1 => repeat (first | exact (Kd.R_reads' HO557.out).2.2 | (with_reducible refine Kd.C_alloc ?_ _) | (with_reducible refine Kd.C_drewN ?_ _) | (with_reducible refine Kd.C_drew ?_))); (case side2 => exact (Kd.R_reads' HO557.out).2.1); (case side3 => repeat (first | exact (Kd.S_reads' HO560.out).2.2 | (with_reducible refine Kd.C_alloc ?_ _) | (with_reducible refine Kd.C_drewN ?_ _) | (with_reducible refine Kd.C_drew ?_))); (case side4 => exact (Kd.S_reads' HO560.out).2.1); (case side5 => repeat (first | exact (Kd.S_reads' HO563.out).2.2 | (with_reducible refine Kd.C_alloc ?_ _) | (with_reducible refine Kd.C_drewN ?_ _) | (with_reducible refine Kd.C_drew ?_))); (case side6 => exact (Kd.S_reads' HO563.out).2.1); rintro e w73 ⟨v566, rfl, ho0, hb⟩; refine ⟨_, rfl, ?_⟩; have hs_ := adv (wl := w71) (tow_) hb; obtain ⟨P75, hp_, hq_⟩ := made_S (wl := w71) (base := w.heap.size) (tow_) (below_size HB.out) ho0; have HP75 := Aside0.mk hp_; have zHO567 := Aside0.mk hq_; clear hp_ hq_ ho0; have z_ := Aside0.mk (Kd.R_below HO544.out hs_); clear HO544; have HO544 := z_; clear z_; have z_ := Aside0.mk (Kd.S_below HO547.out hs_); clear HO547; have HO547 := z_; clear z_; have z_ := Aside0.mk (Kd.S_below HO550.out hs_); clear HO550; have HO550 := z_; clear z_; have z_ := Aside0.mk (Kd.S_below HO553.out hs_); clear HO553; have HO553 := z_; clear z_; have z_ := Aside0.mk (Kd.R_below HO557.out hs_); clear HO557; have HO557 := z_; clear z_; have z_ := Aside0.mk (Kd.S_below HO560.out hs_); clear HO560; have HO560 := z_; clear z_; have z_ := Aside0.mk (Kd.S_below HO563.out hs_); clear HO563; have HO563 := z_; clear z_; have z_ := Aside0.mk (blk_below BK539.out hs_); clear BK539; have BK539 := z_; clear z_; have z_ := Aside0.mk (blk_below BK564.out hs_); clear BK564; have BK564 := z_; clear z_; (try clear hcz539_0); (try clear hcz539_1); (try clear hcz539_2); (try clear hcz539_3); (try clear hcz564_0); (try clear hcz564_1); (try clear hcz564_2); (try clear hcz564_3); have z_ := Aside0.mk (advB HB.out hs_); clear HB; have HB := z_; clear z_; have HZ74 := Aside0.mk (below_size hs_); clear hs_ hb; have HO567 := zHO567; clear zHO567; obtain ⟨Ao76, co77, eo78⟩ := slice_S HO567.out; subst eo78; obtain ⟨hcz564_0, hcz564_1, hcz564_2, hcz564_3⟩ := c4_ BK564; obtain ⟨hcz539_0, hcz539_1, hcz539_2, hcz539_3⟩ := c4_ BK539) | ((refine gc_ 17 ?_); refine goesL_ (some 29) rfl rfl Tryz.func17 (by kernel_rfl) rfl #[.slice Ao76 t565.length co77, .slice Ao52 t551.length co53] rfl (by (try simp only [List.map_toArray, List.map_cons, List.map_nil]); first | done | rfl) ?_; (with_reducible refine (laws_eqIntSS.calls k _ _ t565 _ _ t551 true _ ?side1 ?side2 ?side3 ?side4 E11.out).mono ?_); (case side1 => repeat (first | exact (Kd.S_reads' HO567.out).2.2 | (with_reducible refine Kd.C_alloc ?_ _) | (with_reducible refine Kd.C_drewN ?_ _) | (with_reducible refine Kd.C_drew ?_))); (case side2 => exact (Kd.S_reads' HO567.out).2.1); (case side3 => repeat (first | exact (Kd.S_reads' HO553.out).2.2 | (with_reducible refine Kd.C_alloc ?_ _) | (with_reducible refine Kd.C_drewN ?_ _) | (with_reducible refine Kd.C_drew ?_))); (case side4 => exact (Kd.S_reads' HO553.out).2.1); rintro e w' ⟨rfl, ⟨nd, rfl⟩⟩; refine ⟨_, rfl, ?_⟩))
           refine start_ (n := 5) (S := fun w' => w'.cell? ⟨gb564, 0, none⟩ = some (.string t554) ∧ w'.cell? ⟨gb564, 1, none⟩ = some (.slice Ao60 t555.length co61) ∧ w'.cell? ⟨gb564, 2, none⟩ = some (.slice Ao63 t558.length co64) ∧ w'.cell? ⟨gb564, 3, none⟩ = some (.slice Ao66 t561.length co67) ∧ w'.cell? ⟨gb539, 0, none⟩ = some (.string a0_0) ∧ w'.cell? ⟨gb539, 1, none⟩ = some (.slice A0_1 l0_1.length c0_1) ∧ w'.cell? ⟨gb539, 2, none⟩ = some (.slice A0_2 l0_2.length c0_2) ∧ w'.cell? ⟨gb539, 3, none⟩ = some (.slice A0_3 l0_3.length c0_3)) (ds := []) #[false, false, false, false, false] (by kernel_rfl) rfl rfl ⟨(by first | exact (blk_cell BK564.out 0).trans rfl | exact (blk_cell (up_ BK564.out) 0).trans rfl), (by first | exact (blk_cell BK564.out 1).trans rfl | exact (blk_cell (up_ BK564.out) 1).trans rfl), (by first | exact (blk_cell BK564.out 2).trans rfl | exact (blk_cell (up_ BK564.out) 2).trans rfl), (by first | exact (blk_cell BK564.out 3).trans rfl | exact (blk_cell (up_ BK564.out) 3).trans rfl), (by first | exact (blk_cell BK539.out 0).trans rfl | exact (blk_cell (up_ BK539.out) 0).trans rfl), (by first | exact (blk_cell BK539.out 1).trans rfl | exact (blk_cell (up_ BK539.out) 1).trans rfl), (by first | exact (blk_cell BK539.out 2).trans rfl | exact (blk_cell (up_ BK539.out) 2).trans rfl), (by first | exact (blk_cell BK539.out 3).trans rfl | exact (blk_cell (up_ BK539.out) 3).trans rfl)⟩ (fun hHeld => ?_)
           refine tk_ 0 (some 31) hHeld ?_
           refine tk_ 1 (some 32) hHeld ?_
           refine on_ 2 (some 33) (fun K hK => ?_)
           refine goes_ Tryz.func15 (by kernel_rfl) rfl #[.agg #[.string a0_0, .slice A0_1 l0_1.length c0_1, .slice A0_2 l0_2.length c0_2, .slice A0_3 l0_3.length c0_3]] (by rfl) rfl rfl am_ ?_
           (with_reducible refine (laws_toTableau.calls k a0_0 _ _ l0_1 _ _ l0_2 _ _ l0_3 t569 t570 t573 t576 _ ?side1 ?side2 ?side3 ?side4 ?side5 ?side6 E13.out).mono ?_)
           (case side1 => exact Kd.C_below HR0_1.out (up_ HB.out))
           (case side2 => exact HC0_1.out)
           (case side3 => exact Kd.C_below HR0_2.out (up_ HB.out))
           (case side4 => exact HC0_2.out)
           (case side5 => exact Kd.C_below HR0_3.out (up_ HB.out))
           (case side6 => exact HC0_3.out)
           rintro e w79 ⟨v571, v574, v577, rfl, ho0, ho1, ho2, hb⟩
           refine ⟨_, rfl, ?_⟩
           have hs_ := adv (wl := w73) (tow_) hb
           obtain ⟨P81, hp_, hq_⟩ := made_R (wl := w73) (base := w.heap.size) (tow_) (below_size HB.out) ho0
           have HP81 := Aside0.mk hp_
           have zHO572 := Aside0.mk hq_
           clear hp_ hq_ ho0
           obtain ⟨P82, hp_, hq_⟩ := made_S (wl := w73) (base := w.heap.size) (tow_) (below_size HB.out) ho1
           have HP82 := Aside0.mk hp_
           have zHO575 := Aside0.mk hq_
           clear hp_ hq_ ho1
           obtain ⟨P83, hp_, hq_⟩ := made_S (wl := w73) (base := w.heap.size) (tow_) (below_size HB.out) ho2
           have HP83 := Aside0.mk hp_
           have zHO578 := Aside0.mk hq_
           clear hp_ hq_ ho2
           have z_ := Aside0.mk (Kd.R_below HO544.out hs_)
           clear HO544
           have HO544 := z_
           clear z_
           have z_ := Aside0.mk (Kd.S_below HO547.out hs_)
           clear HO547
           have HO547 := z_
           clear z_
           have z_ := Aside0.mk (Kd.S_below HO550.out hs_)
           clear HO550
           have HO550 := z_
           clear z_
           have z_ := Aside0.mk (Kd.S_below HO553.out hs_)
           clear HO553
           have HO553 := z_
           clear z_
           have z_ := Aside0.mk (Kd.R_below HO557.out hs_)
           clear HO557
           have HO557 := z_
           clear z_
           have z_ := Aside0.mk (Kd.S_below HO560.out hs_)
           clear HO560
           have HO560 := z_
           clear z_
           have z_ := Aside0.mk (Kd.S_below HO563.out hs_)
           clear HO563
           have HO563 := z_
           clear z_
           have z_ := Aside0.mk (Kd.S_below HO567.out hs_)
           clear HO567
           have HO567 := z_
           clear z_
           have z_ := Aside0.mk (blk_below BK539.out hs_)
           clear BK539
           have BK539 := z_
           clear z_
           have z_ := Aside0.mk (blk_below BK564.out hs_)
           clear BK564
           have BK564 := z_
           clear z_
           (try clear hcz539_0)
           (try clear hcz539_1)
           (try clear hcz539_2)
           (try clear hcz539_3)
           (try clear hcz564_0)
           (try clear hcz564_1)
           (try clear hcz564_2)
           (try clear hcz564_3)
           have z_ := Aside0.mk (advB HB.out hs_)
           clear HB
           have HB := z_
           clear z_
           have HZ80 := Aside0.mk (below_size hs_)
           clear hs_ hb
           have HO572 := zHO572
           clear zHO572
           obtain ⟨Ao84, co85, eo86⟩ := slice_R HO572.out
           subst eo86
           have HO575 := zHO575
           clear zHO575
           obtain ⟨Ao87, co88, eo89⟩ := slice_S HO575.out
           subst eo89
           have HO578 := zHO578
           clear zHO578
           obtain ⟨Ao90, co91, eo92⟩ := slice_S HO578.out
           subst eo92
           refine hK.out _ _ ⟨(by first | exact (blk_cell BK564.out 0).trans rfl | exact (blk_cell (up_ BK564.out) 0).trans rfl), (by first | exact (blk_cell BK564.out 1).trans rfl | exact (blk_cell (up_ BK564.out) 1).trans rfl), (by first | exact (blk_cell BK564.out 2).trans rfl | exact (blk_cell (up_ BK564.out) 2).trans rfl), (by first | exact (blk_cell BK564.out 3).trans rfl | exact (blk_cell (up_ BK564.out) 3).trans rfl), (by first | exact (blk_cell BK539.out 0).trans rfl | exact (blk_cell (up_ BK539.out) 0).trans rfl), (by first | exact (blk_cell BK539.out 1).trans rfl | exact (blk_cell (up_ BK539.out) 1).trans rfl), (by first | exact (blk_cell BK539.out 2).trans rfl | exact (blk_cell (up_ BK539.out) 2).trans rfl), (by first | exact (blk_cell BK539.out 3).trans rfl | exact (blk_cell (up_ BK539.out) 3).trans rfl)⟩ (fun hHeld => ?_)
           clear hK K
           refine nm_ ?_
           refine on_ 3 (some 34) (fun K hK => ?_)
           refine goes_ Tryz.func18 (by kernel_rfl) rfl #[.agg #[.string t554, .slice Ao60 t555.length co61, .slice Ao63 t558.length co64, .slice Ao66 t561.length co67], .agg #[.string t569, .slice Ao84 t570.length co85, .slice Ao87 t573.length co88, .slice Ao90 t576.length co91]] (by rfl) rfl rfl am_ ?_
           (with_reducible refine (laws_eqTableau.calls k t554 _ _ t555 _ _ t558 _ _ t561 t569 _ _ t570 _ _ t573 _ _ t576 true _ ?side1 ?side2 ?side3 ?side4 ?side5 ?side6 ?side7 ?side8 ?side9 ?side10 ?side11 ?side12 E14.out).mono ?_)
           (case side1 => repeat (first | exact (Kd.R_reads' HO557.out).2.2 | (with_reducible refine Kd.C_alloc ?_ _) | (with_reducible refine Kd.C_drewN ?_ _) | (with_reducible refine Kd.C_drew ?_)))
           (case side2 => exact (Kd.R_reads' HO557.out).2.1)
           (case side3 => repeat (first | exact (Kd.S_reads' HO560.out).2.2 | (with_reducible refine Kd.C_alloc ?_ _) | (with_reducible refine Kd.C_drewN ?_ _) | (with_reducible refine Kd.C_drew ?_)))
           (case side4 => exact (Kd.S_reads' HO560.out).2.1)
           (case side5 => repeat (first | exact (Kd.S_reads' HO563.out).2.2 | (with_reducible refine Kd.C_alloc ?_ _) | (with_reducible refine Kd.C_drewN ?_ _) | (with_reducible refine Kd.C_drew ?_)))
           (case side6 => exact (Kd.S_reads' HO563.out).2.1)
           (case side7 => repeat (first | exact (Kd.R_reads' HO572.out).2.2 | (with_reducible refine Kd.C_alloc ?_ _) | (with_reducible refine Kd.C_drewN ?_ _) | (with_reducible refine Kd.C_drew ?_)))
           (case side8 => exact (Kd.R_reads' HO572.out).2.1)
           (case side9 => repeat (first | exact (Kd.S_reads' HO575.out).2.2 | (with_reducible refine Kd.C_alloc ?_ _) | (with_reducible refine Kd.C_drewN ?_ _) | (with_reducible refine Kd.C_drew ?_)))
           (case side10 => exact (Kd.S_reads' HO575.out).2.1)
           (case side11 => repeat (first | exact (Kd.S_reads' HO578.out).2.2 | (with_reducible refine Kd.C_alloc ?_ _) | (with_reducible refine Kd.C_drewN ?_ _) | (with_reducible refine Kd.C_drew ?_)))
           (case side12 => exact (Kd.S_reads' HO578.out).2.1)
           rintro e w93 ⟨rfl, hb⟩
           refine ⟨_, rfl, ?_⟩
           have hs_ := adv (wl := w79) (tow_) hb
           have z_ := Aside0.mk (Kd.R_below HO544.out hs_)
           clear HO544
           have HO544 := z_
           clear z_
           have z_ := Aside0.mk (Kd.S_below HO547.out hs_)
           clear HO547
           have HO547 := z_
           clear z_
           have z_ := Aside0.mk (Kd.S_below HO550.out hs_)
           clear HO550
           have HO550 := z_
           clear z_
           have z_ := Aside0.mk (Kd.S_below HO553.out hs_)
           clear HO553
           have HO553 := z_
           clear z_
           have z_ := Aside0.mk (Kd.R_below HO557.out hs_)
           clear HO557
           have HO557 := z_
           clear z_
           have z_ := Aside0.mk (Kd.S_below HO560.out hs_)
           clear HO560
           have HO560 := z_
           clear z_
           have z_ := Aside0.mk (Kd.S_below HO563.out hs_)
           clear HO563
           have HO563 := z_
           clear z_
           have z_ := Aside0.mk (Kd.S_below HO567.out hs_)
           clear HO567
           have HO567 := z_
           clear z_
           have z_ := Aside0.mk (Kd.R_below HO572.out hs_)
           clear HO572
           have HO572 := z_
           clear z_
           have z_ := Aside0.mk (Kd.S_below HO575.out hs_)
           clear HO575
           have HO575 := z_
           clear z_
           have z_ := Aside0.mk (Kd.S_below HO578.out hs_)
           clear HO578
           have HO578 := z_
           clear z_
           have z_ := Aside0.mk (blk_below BK539.out hs_)
           clear BK539
           have BK539 := z_
           clear z_
           have z_ := Aside0.mk (blk_below BK564.out hs_)
           clear BK564
           have BK564 := z_
           clear z_
           (try clear hcz539_0)
           (try clear hcz539_1)
           (try clear hcz539_2)
           (try clear hcz539_3)
           (try clear hcz564_0)
           (try clear hcz564_1)
           (try clear hcz564_2)
           (try clear hcz564_3)
           have z_ := Aside0.mk (advB HB.out hs_)
           clear HB
           have HB := z_
           clear z_
           have HZ94 := Aside0.mk (below_size hs_)
           clear hs_ hb
           refine hK.out _ _ ⟨(by first | exact (blk_cell BK564.out 0).trans rfl | exact (blk_cell (up_ BK564.out) 0).trans rfl), (by first | exact (blk_cell BK564.out 1).trans rfl | exact (blk_cell (up_ BK564.out) 1).trans rfl), (by first | exact (blk_cell BK564.out 2).trans rfl | exact (blk_cell (up_ BK564.out) 2).trans rfl), (by first | exact (blk_cell BK564.out 3).trans rfl | exact (blk_cell (up_ BK564.out) 3).trans rfl), (by first | exact (blk_cell BK539.out 0).trans rfl | exact (blk_cell (up_ BK539.out) 0).trans rfl), (by first | exact (blk_cell BK539.out 1).trans rfl | exact (blk_cell (up_ BK539.out) 1).trans rfl), (by first | exact (blk_cell BK539.out 2).trans rfl | exact (blk_cell (up_ BK539.out) 2).trans rfl), (by first | exact (blk_cell BK539.out 3).trans rfl | exact (blk_cell (up_ BK539.out) 3).trans rfl)⟩ (fun hHeld => ?_)
           clear hK K
           refine nm_ ?_
           refine pu_ 4 (some 35) ?_
           refine done_ (by kernel_rfl) ?_
           obtain ⟨hcz564_0, hcz564_1, hcz564_2, hcz564_3⟩ := c4_ BK564
           go_wp2_with (first | ((refine gc_ 19 ?_); refine goesL_ (some 38) rfl rfl Tryz.func19 (by kernel_rfl) rfl #[.agg #[.string t554, .slice Ao60 t555.length co61, .slice Ao63 t558.length co64, .slice Ao66 t561.length co67], .int .i64 1] rfl (by (try simp only [List.map_toArray, List.map_cons, List.map_nil]); first | done | rfl) ?_; (with_reducible refine (laws_markTableau.calls k t554 P57 _ t555 P58 _ t558 P59 _ t561 1 t580 t581 t582 t583 w _ ?side1 ?side2 ?side3 ?side4 ?side5 ?side6 ?side7 E16.out).mono ?_); (case side1 => exact advB HB.out (tow_)); (case side2 => exact Kd.R_below HO557.out (tow_)); (case side3 => exact Kd.S_below HO560.out (tow_)); (case side4 => exact Kd.S_below HO563.out (tow_)); (case side5 => exact fun k_ h1_ h2_ => apartT_ (by decide) (HP57.out k_ h1_) (HP58.out k_ h2_)); (case side6 => exact fun k_ h1_ h2_ => apartT_ (by decide) (HP57.out k_ h1_) (HP59.out k_ h2_)); (case side7 => exact fun k_ h1_ h2_ => apartT_ (by decide) (HP58.out k_ h1_) (HP59.out k_ h2_)); rintro e w95 ⟨rfl, hm1_, hm2_, hm3_, hb2, hk⟩; refine ⟨_, rfl, ?_⟩; have hz_ := Aside0.mk (kept_le (wl := w93) (tow_) hk); have z_ := Aside0.mk (Kd.R_kept (Kd.R_below HO544.out (tow_)) hk (fun k_ h1_ => fun h2_ => h2_.elim ((fun k_ h1_ h2_ => apart_ (HZ50.out) (HP37.out k_ h1_).2.1 (HP57.out k_ h2_).1) k_ h1_) (fun h2_ => h2_.elim ((fun k_ h1_ h2_ => apart_ (HZ50.out) (HP37.out k_ h1_).2.1 (HP58.out k_ h2_).1) k_ h1_) ((fun k_ h1_ h2_ => apart_ (HZ50.out) (HP37.out k_ h1_).2.1 (HP59.out k_ h2_).1) k_ h1_)))); clear HO544; have HO544 := z_; clear z_; have z_ := Aside0.mk (Kd.S_kept (Kd.S_below HO547.out (tow_)) hk (fun k_ h1_ => fun h2_ => h2_.elim ((fun k_ h1_ h2_ => apart_ (HZ50.out) (HP38.out k_ h1_).2.1 (HP57.out k_ h2_).1) k_ h1_) (fun h2_ => h2_.elim ((fun k_ h1_ h2_ => apart_ (HZ50.out) (HP38.out k_ h1_).2.1 (HP58.out k_ h2_).1) k_ h1_) ((fun k_ h1_ h2_ => apart_ (HZ50.out) (HP38.out k_ h1_).2.1 (HP59.out k_ h2_).1) k_ h1_)))); clear HO547; have HO547 := z_; clear z_; have z_ := Aside0.mk (Kd.S_kept (Kd.S_below HO550.out (tow_)) hk (fun k_ h1_ => fun h2_ => h2_.elim ((fun k_ h1_ h2_ => apart_ (HZ50.out) (HP39.out k_ h1_).2.1 (HP57.out k_ h2_).1) k_ h1_) (fun h2_ => h2_.elim ((fun k_ h1_ h2_ => apart_ (HZ50.out) (HP39.out k_ h1_).2.1 (HP58.out k_ h2_).1) k_ h1_) ((fun k_ h1_ h2_ => apart_ (HZ50.out) (HP39.out k_ h1_).2.1 (HP59.out k_ h2_).1) k_ h1_)))); clear HO550; have HO550 := z_; clear z_; have z_ := Aside0.mk (Kd.S_kept (Kd.S_below HO553.out (tow_)) hk (fun k_ h1_ => fun h2_ => h2_.elim ((fun k_ h1_ h2_ => apart_ (Nat.le_refl _) (HP51.out k_ h1_).2.1 (HP57.out k_ h2_).1) k_ h1_) (fun h2_ => h2_.elim ((fun k_ h1_ h2_ => apart_ (Nat.le_refl _) (HP51.out k_ h1_).2.1 (HP58.out k_ h2_).1) k_ h1_) ((fun k_ h1_ h2_ => apart_ (Nat.le_refl _) (HP51.out k_ h1_).2.1 (HP59.out k_ h2_).1) k_ h1_)))); clear HO553; have HO553 := z_; clear z_; have z_ := Aside0.mk (Kd.S_kept (Kd.S_below HO567.out (tow_)) hk (fun k_ h1_ => fun h2_ => h2_.elim ((fun k_ h1_ h2_ => apart_ (Nat.le_trans HZ70.out <| HZ72.out) (HP57.out k_ h2_).2.1 (HP75.out k_ h1_).1) k_ h1_) (fun h2_ => h2_.elim ((fun k_ h1_ h2_ => apart_ (Nat.le_trans HZ70.out <| HZ72.out) (HP58.out k_ h2_).2.1 (HP75.out k_ h1_).1) k_ h1_) ((fun k_ h1_ h2_ => apart_ (Nat.le_trans HZ70.out <| HZ72.out) (HP59.out k_ h2_).2.1 (HP75.out k_ h1_).1) k_ h1_)))); clear HO567; have HO567 := z_; clear z_; have z_ := Aside0.mk (Kd.R_kept (Kd.R_below HO572.out (tow_)) hk (fun k_ h1_ => fun h2_ => h2_.elim ((fun k_ h1_ h2_ => apart_ (Nat.le_trans HZ70.out <| Nat.le_trans HZ72.out <| HZ74.out) (HP57.out k_ h2_).2.1 (HP81.out k_ h1_).1) k_ h1_) (fun h2_ => h2_.elim ((fun k_ h1_ h2_ => apart_ (Nat.le_trans HZ70.out <| Nat.le_trans HZ72.out <| HZ74.out) (HP58.out k_ h2_).2.1 (HP81.out k_ h1_).1) k_ h1_) ((fun k_ h1_ h2_ => apart_ (Nat.le_trans HZ70.out <| Nat.le_trans HZ72.out <| HZ74.out) (HP59.out k_ h2_).2.1 (HP81.out k_ h1_).1) k_ h1_)))); clear HO572; have HO572 := z_; clear z_; have z_ := Aside0.mk (Kd.S_kept (Kd.S_below HO575.out (tow_)) hk (fun k_ h1_ => fun h2_ => h2_.elim ((fun k_ h1_ h2_ => apart_ (Nat.le_trans HZ70.out <| Nat.le_trans HZ72.out <| HZ74.out) (HP57.out k_ h2_).2.1 (HP82.out k_ h1_).1) k_ h1_) (fun h2_ => h2_.elim ((fun k_ h1_ h2_ => apart_ (Nat.le_trans HZ70.out <| Nat.le_trans HZ72.out <| HZ74.out) (HP58.out k_ h2_).2.1 (HP82.out k_ h1_).1) k_ h1_) ((fun k_ h1_ h2_ => apart_ (Nat.le_trans HZ70.out <| Nat.le_trans HZ72.out <| HZ74.out) (HP59.out k_ h2_).2.1 (HP82.out k_ h1_).1) k_ h1_)))); clear HO575; have HO575 := z_; clear z_; have z_ := Aside0.mk (Kd.S_kept (Kd.S_below HO578.out (tow_)) hk (fun k_ h1_ => fun h2_ => h2_.elim ((fun k_ h1_ h2_ => apart_ (Nat.le_trans HZ70.out <| Nat.le_trans HZ72.out <| HZ74.out) (HP57.out k_ h2_).2.1 (HP83.out k_ h1_).1) k_ h1_) (fun h2_ => h2_.elim ((fun k_ h1_ h2_ => apart_ (Nat.le_trans HZ70.out <| Nat.le_trans HZ72.out <| HZ74.out) (HP58.out k_ h2_).2.1 (HP83.out k_ h1_).1) k_ h1_) ((fun k_ h1_ h2_ => apart_ (Nat.le_trans HZ70.out <| Nat.le_trans HZ72.out <| HZ74.out) (HP59.out k_ h2_).2.1 (HP83.out k_ h1_).1) k_ h1_)))); clear HO578; have HO578 := z_; clear z_; have z_ := Aside0.mk (blk_kept (blk_below BK539.out (tow_)) hk (fun hP_ => hP_.elim (fun hP_ => (fun k_ h1_ h2_ => apart_ (Nat.le_trans HZ34.out <| Nat.le_trans HZ36.out <| HZ50.out) (HPB539.out k_ h1_).2.1 (HP57.out k_ h2_).1) gb539 rfl hP_) (fun hP_ => hP_.elim (fun hP_ => (fun k_ h1_ h2_ => apart_ (Nat.le_trans HZ34.out <| Nat.le_trans HZ36.out <| HZ50.out) (HPB539.out k_ h1_).2.1 (HP58.out k_ h2_).1) gb539 rfl hP_) (fun hP_ => (fun k_ h1_ h2_ => apart_ (Nat.le_trans HZ34.out <| Nat.le_trans HZ36.out <| HZ50.out) (HPB539.out k_ h1_).2.1 (HP59.out k_ h2_).1) gb539 rfl hP_)))); clear BK539; have BK539 := z_; clear z_; have z_ := Aside0.mk (blk_kept (blk_below BK564.out (tow_)) hk (fun hP_ => hP_.elim (fun hP_ => (fun k_ h1_ h2_ => apart_ (Nat.le_refl _) (HP57.out k_ h2_).2.1 (HPB564.out k_ h1_).1) gb564 rfl hP_) (fun hP_ => hP_.elim (fun hP_ => (fun k_ h1_ h2_ => apart_ (Nat.le_refl _) (HP58.out k_ h2_).2.1 (HPB564.out k_ h1_).1) gb564 rfl hP_) (fun hP_ => (fun k_ h1_ h2_ => apart_ (Nat.le_refl _) (HP59.out k_ h2_).2.1 (HPB564.out k_ h1_).1) gb564 rfl hP_)))); clear BK564; have BK564 := z_; clear z_; (try clear hcz539_0); (try clear hcz539_1); (try clear hcz539_2); (try clear hcz539_3); (try clear hcz564_0); (try clear hcz564_1); (try clear hcz564_2); (try clear hcz564_3); have HZ96 := hz_; clear hz_; obtain ⟨P97, hp_, hq_⟩ := marked_R (lo := w49) (wl := w93) (tow_) (fun k_ hk_ => (HP57.out k_ hk_).1) (Nat.le_trans HZ56.out <| Nat.le_trans HZ70.out <| Nat.le_trans HZ72.out <| Nat.le_trans HZ74.out <| Nat.le_trans HZ80.out <| HZ94.out) hm1_; have HP97 := Aside0.mk hp_; clear HO557; have HO557 := Aside0.mk hq_; clear hm1_ hp_ hq_; have hl_ := (Kd.R_reads' HO557.out).1; rw [hl_] at HO557; (try rw [hl_]); (try rw [hl_] at BK564); clear hl_; obtain ⟨P98, hp_, hq_⟩ := marked_S (lo := w49) (wl := w93) (tow_) (fun k_ hk_ => (HP58.out k_ hk_).1) (Nat.le_trans HZ56.out <| Nat.le_trans HZ70.out <| Nat.le_trans HZ72.out <| Nat.le_trans HZ74.out <| Nat.le_trans HZ80.out <| HZ94.out) hm2_; have HP98 := Aside0.mk hp_; clear HO560; have HO560 := Aside0.mk hq_; clear hm2_ hp_ hq_; have hl_ := (Kd.S_reads' HO560.out).1; rw [hl_] at HO560; (try rw [hl_]); (try rw [hl_] at BK564); clear hl_; obtain ⟨P99, hp_, hq_⟩ := marked_S (lo := w49) (wl := w93) (tow_) (fun k_ hk_ => (HP59.out k_ hk_).1) (Nat.le_trans HZ56.out <| Nat.le_trans HZ70.out <| Nat.le_trans HZ72.out <| Nat.le_trans HZ74.out <| Nat.le_trans HZ80.out <| HZ94.out) hm3_; have HP99 := Aside0.mk hp_; clear HO563; have HO563 := Aside0.mk hq_; clear hm3_ hp_ hq_; have hl_ := (Kd.S_reads' HO563.out).1; rw [hl_] at HO563; (try rw [hl_]); (try rw [hl_] at BK564); clear hl_; clear hk; clear HB; have HB := Aside0.mk hb2; clear hb2) | (go_at_call 17; (with_reducible refine (laws_eqIntSS.calls k _ _ t565 _ _ t551 true _ ?side1 ?side2 ?side3 ?side4 E18.out).mono ?_); (case side1 => repeat (first | exact (Kd.S_reads' HO567.out).2.2 | (with_reducible refine Kd.C_alloc ?_ _) | (with_reducible refine Kd.C_drewN ?_ _) | (with_reducible refine Kd.C_drew ?_))); (case side2 => exact (Kd.S_reads' HO567.out).2.1); (case side3 => repeat (first | exact (Kd.S_reads' HO553.out).2.2 | (with_reducible refine Kd.C_alloc ?_ _) | (with_reducible refine Kd.C_drewN ?_ _) | (with_reducible refine Kd.C_drew ?_))); (case side4 => exact (Kd.S_reads' HO553.out).2.1); rintro e w' ⟨rfl, ⟨nd, rfl⟩⟩) | ((refine gc_ 20 ?_); refine goesL_ (some 49) rfl rfl Tryz.func20 (by kernel_rfl) rfl #[.slice Ao76 t565.length co77, .int .i64 1] rfl (by (try simp only [List.map_toArray, List.map_cons, List.map_nil]); first | done | rfl) ?_; (with_reducible refine (laws_markIntSS.calls k P75 _ t565 1 t585 t586 w _ ?side1 ?side2 E20.out).mono ?_); (case side1 => exact advB HB.out (tow_)); (case side2 => exact Kd.S_below HO567.out (tow_)); rintro e w100 ⟨rfl, hm_, hb2, hk⟩; refine ⟨_, rfl, ?_⟩; have hz_ := Aside0.mk (kept_le (wl := w95) (tow_) hk); have z_ := Aside0.mk (Kd.R_kept (Kd.R_below HO544.out (tow_)) hk (fun k_ h1_ h2_ => apart_ (Nat.le_trans HZ50.out <| Nat.le_trans HZ56.out <| Nat.le_trans HZ70.out <| HZ72.out) (HP37.out k_ h1_).2.1 (HP75.out k_ h2_).1)); clear HO544; have HO544 := z_; clear z_; have z_ := Aside0.mk (Kd.S_kept (Kd.S_below HO547.out (tow_)) hk (fun k_ h1_ h2_ => apart_ (Nat.le_trans HZ50.out <| Nat.le_trans HZ56.out <| Nat.le_trans HZ70.out <| HZ72.out) (HP38.out k_ h1_).2.1 (HP75.out k_ h2_).1)); clear HO547; have HO547 := z_; clear z_; have z_ := Aside0.mk (Kd.S_kept (Kd.S_below HO550.out (tow_)) hk (fun k_ h1_ h2_ => apart_ (Nat.le_trans HZ50.out <| Nat.le_trans HZ56.out <| Nat.le_trans HZ70.out <| HZ72.out) (HP39.out k_ h1_).2.1 (HP75.out k_ h2_).1)); clear HO550; have HO550 := z_; clear z_; have z_ := Aside0.mk (Kd.S_kept (Kd.S_below HO553.out (tow_)) hk (fun k_ h1_ h2_ => apart_ (Nat.le_trans HZ56.out <| Nat.le_trans HZ70.out <| HZ72.out) (HP51.out k_ h1_).2.1 (HP75.out k_ h2_).1)); clear HO553; have HO553 := z_; clear z_; clear HO557; clear HO560; clear HO563; have z_ := Aside0.mk (Kd.R_kept (Kd.R_below HO572.out (tow_)) hk (fun k_ h1_ h2_ => apart_ (Nat.le_refl _) (HP75.out k_ h2_).2.1 (HP81.out k_ h1_).1)); clear HO572; have HO572 := z_; clear z_; have z_ := Aside0.mk (Kd.S_kept (Kd.S_below HO575.out (tow_)) hk (fun k_ h1_ h2_ => apart_ (Nat.le_refl _) (HP75.out k_ h2_).2.1 (HP82.out k_ h1_).1)); clear HO575; have HO575 := z_; clear z_; have z_ := Aside0.mk (Kd.S_kept (Kd.S_below HO578.out (tow_)) hk (fun k_ h1_ h2_ => apart_ (Nat.le_refl _) (HP75.out k_ h2_).2.1 (HP83.out k_ h1_).1)); clear HO578; have HO578 := z_; clear z_; have z_ := Aside0.mk (blk_kept (blk_below BK539.out (tow_)) hk (fun hP_ => (fun k_ h1_ h2_ => apart_ (Nat.le_trans HZ34.out <| Nat.le_trans HZ36.out <| Nat.le_trans HZ50.out <| Nat.le_trans HZ56.out <| Nat.le_trans HZ70.out <| HZ72.out) (HPB539.out k_ h1_).2.1 (HP75.out k_ h2_).1) gb539 rfl hP_)); clear BK539; have BK539 := z_; clear z_; have z_ := Aside0.mk (blk_kept (blk_below BK564.out (tow_)) hk (fun hP_ => (fun k_ h1_ h2_ => apart_ (HZ72.out) (HPB564.out k_ h1_).2.1 (HP75.out k_ h2_).1) gb564 rfl hP_)); clear BK564; have BK564 := z_; clear z_; (try clear hcz539_0); (try clear hcz539_1); (try clear hcz539_2); (try clear hcz539_3); (try clear hcz564_0); (try clear hcz564_1); (try clear hcz564_2); (try clear hcz564_3); have HZ101 := hz_; clear hz_; obtain ⟨P102, hp_, hq_⟩ := marked_S (lo := w71) (wl := w95) (tow_) (fun k_ hk_ => (HP75.out k_ hk_).1) (Nat.le_trans HZ74.out <| Nat.le_trans HZ80.out <| Nat.le_trans HZ94.out <| HZ96.out) hm_; have HP102 := Aside0.mk hp_; clear HO567; have HO567 := Aside0.mk hq_; clear hm_ hp_ hq_; have hl_ := (Kd.S_reads' HO567.out).1; rw [hl_] at HO567; (try rw [hl_]); clear hl_; clear hk; clear HB; have HB := Aside0.mk hb2; clear hb2; obtain ⟨hcz539_0, hcz539_1, hcz539_2, hcz539_3⟩ := c4_ BK539) | ((refine gc_ 21 ?_); refine goesL_ (some 52) rfl rfl Tryz.func21 (by kernel_rfl) rfl #[.slice Ao76 t586.length co77, .int .i64 1] rfl (by (try simp only [List.map_toArray, List.map_cons, List.map_nil]); first | done | rfl) ?_; (with_reducible refine (laws_heldIntSS.calls k _ _ t586 1 t587 _ ?side1 ?side2 E21.out).mono ?_); (case side1 => repeat (first | exact (Kd.S_reads' HO567.out).2.2 | (with_reducible refine Kd.C_alloc ?_ _) | (with_reducible refine Kd.C_drewN ?_ _) | (with_reducible refine Kd.C_drew ?_))); (case side2 => exact (Kd.S_reads' HO567.out).2.1); rintro e w' ⟨rfl, ⟨nd, rfl⟩⟩; refine ⟨_, rfl, ?_⟩) | ((refine gc_ 15 ?_); refine goesL_ (some 59) rfl rfl Tryz.func15 (by kernel_rfl) rfl #[.agg #[.string a0_0, .slice A0_1 l0_1.length c0_1, .slice A0_2 l0_2.length c0_2, .slice A0_3 l0_3.length c0_3]] rfl (by (try simp only [List.map_toArray, List.map_cons, List.map_nil]); first | done | rfl) ?_; (with_reducible refine (laws_toTableau.calls k a0_0 _ _ l0_1 _ _ l0_2 _ _ l0_3 t588 t589 t592 t595 _ (Kd.C_below HR0_1.out (up_ HB.out)) HC0_1.out (Kd.C_below HR0_2.out (up_ HB.out)) HC0_2.out (Kd.C_below HR0_3.out (up_ HB.out)) HC0_3.out E24.out).mono ?_); rintro e w103 ⟨v590, v593, v596, rfl, ho0, ho1, ho2, hb⟩; refine ⟨_, rfl, ?_⟩; have hs_ := adv (wl := w100) (tow_) hb; obtain ⟨P105, hp_, hq_⟩ := made_R (wl := w100) (base := w.heap.size) (tow_) (below_size HB.out) ho0; have HP105 := Aside0.mk hp_; have zHO591 := Aside0.mk hq_; clear hp_ hq_ ho0; obtain ⟨P106, hp_, hq_⟩ := made_S (wl := w100) (base := w.heap.size) (tow_) (below_size HB.out) ho1; have HP106 := Aside0.mk hp_; have zHO594 := Aside0.mk hq_; clear hp_ hq_ ho1; obtain ⟨P107, hp_, hq_⟩ := made_S (wl := w100) (base := w.heap.size) (tow_) (below_size HB.out) ho2; have HP107 := Aside0.mk hp_; have zHO597 := Aside0.mk hq_; clear hp_ hq_ ho2; have z_ := Aside0.mk (Kd.R_below HO544.out hs_); clear HO544; have HO544 := z_; clear z_; have z_ := Aside0.mk (Kd.S_below HO547.out hs_); clear HO547; have HO547 := z_; clear z_; have z_ := Aside0.mk (Kd.S_below HO550.out hs_); clear HO550; have HO550 := z_; clear z_; have z_ := Aside0.mk (Kd.S_below HO553.out hs_); clear HO553; have HO553 := z_; clear z_; have z_ := Aside0.mk (Kd.S_below HO567.out hs_); clear HO567; have HO567 := z_; clear z_; have z_ := Aside0.mk (Kd.R_below HO572.out hs_); clear HO572; have HO572 := z_; clear z_; have z_ := Aside0.mk (Kd.S_below HO575.out hs_); clear HO575; have HO575 := z_; clear z_; have z_ := Aside0.mk (Kd.S_below HO578.out hs_); clear HO578; have HO578 := z_; clear z_; have z_ := Aside0.mk (blk_below BK539.out hs_); clear BK539; have BK539 := z_; clear z_; have z_ := Aside0.mk (blk_below BK564.out hs_); clear BK564; have BK564 := z_; clear z_; (try clear hcz539_0); (try clear hcz539_1); (try clear hcz539_2); (try clear hcz539_3); (try clear hcz564_0); (try clear hcz564_1); (try clear hcz564_2); (try clear hcz564_3); have z_ := Aside0.mk (advB HB.out hs_); clear HB; have HB := z_; clear z_; have HZ104 := Aside0.mk (below_size hs_); clear hs_ hb; have HO591 := zHO591; clear zHO591; obtain ⟨Ao108, co109, eo110⟩ := slice_R HO591.out; subst eo110; have HO594 := zHO594; clear zHO594; obtain ⟨Ao111, co112, eo113⟩ := slice_S HO594.out; subst eo113; have HO597 := zHO597; clear zHO597; obtain ⟨Ao114, co115, eo116⟩ := slice_S HO597.out; subst eo116) | ((refine gc_ 16 ?_); refine goesL_ (some 61) rfl rfl Tryz.func16 (by kernel_rfl) rfl #[.agg #[.string t588, .slice Ao108 t589.length co109, .slice Ao111 t592.length co112, .slice Ao114 t595.length co115], .int .i64 a1] rfl (by (try simp only [List.map_toArray, List.map_cons, List.map_nil]); first | done | rfl) ?_; (with_reducible refine (impl_DifferencesFor.calls k t588 _ _ t589 _ _ t592 _ _ t595 a1 t598 _ ?side1 ?side2 ?side3 ?side4 ?side5 ?side6 E25.out).mono ?_); (case side1 => repeat (first | exact (Kd.R_reads' HO591.out).2.2 | (with_reducible refine Kd.C_alloc ?_ _) | (with_reducible refine Kd.C_drewN ?_ _) | (with_reducible refine Kd.C_drew ?_))); (case side2 => exact (Kd.R_reads' HO591.out).2.1); (case side3 => repeat (first | exact (Kd.S_reads' HO594.out).2.2 | (with_reducible refine Kd.C_alloc ?_ _) | (with_reducible refine Kd.C_drewN ?_ _) | (with_reducible refine Kd.C_drew ?_))); (case side4 => exact (Kd.S_reads' HO594.out).2.1); (case side5 => repeat (first | exact (Kd.S_reads' HO597.out).2.2 | (with_reducible refine Kd.C_alloc ?_ _) | (with_reducible refine Kd.C_drewN ?_ _) | (with_reducible refine Kd.C_drew ?_))); (case side6 => exact (Kd.S_reads' HO597.out).2.1); rintro e w117 ⟨v599, rfl, ho0, hb⟩; refine ⟨_, rfl, ?_⟩; have hs_ := adv (wl := w103) (tow_) hb; obtain ⟨P119, hp_, hq_⟩ := made_S (wl := w103) (base := w.heap.size) (tow_) (below_size HB.out) ho0; have HP119 := Aside0.mk hp_; have zHO600 := Aside0.mk hq_; clear hp_ hq_ ho0; have z_ := Aside0.mk (Kd.R_below HO544.out hs_); clear HO544; have HO544 := z_; clear z_; have z_ := Aside0.mk (Kd.S_below HO547.out hs_); clear HO547; have HO547 := z_; clear z_; have z_ := Aside0.mk (Kd.S_below HO550.out hs_); clear HO550; have HO550 := z_; clear z_; have z_ := Aside0.mk (Kd.S_below HO553.out hs_); clear HO553; have HO553 := z_; clear z_; have z_ := Aside0.mk (Kd.S_below HO567.out hs_); clear HO567; have HO567 := z_; clear z_; have z_ := Aside0.mk (Kd.R_below HO572.out hs_); clear HO572; have HO572 := z_; clear z_; have z_ := Aside0.mk (Kd.S_below HO575.out hs_); clear HO575; have HO575 := z_; clear z_; have z_ := Aside0.mk (Kd.S_below HO578.out hs_); clear HO578; have HO578 := z_; clear z_; have z_ := Aside0.mk (Kd.R_below HO591.out hs_); clear HO591; have HO591 := z_; clear z_; have z_ := Aside0.mk (Kd.S_below HO594.out hs_); clear HO594; have HO594 := z_; clear z_; have z_ := Aside0.mk (Kd.S_below HO597.out hs_); clear HO597; have HO597 := z_; clear z_; have z_ := Aside0.mk (blk_below BK539.out hs_); clear BK539; have BK539 := z_; clear z_; have z_ := Aside0.mk (blk_below BK564.out hs_); clear BK564; have BK564 := z_; clear z_; (try clear hcz539_0); (try clear hcz539_1); (try clear hcz539_2); (try clear hcz539_3); (try clear hcz564_0); (try clear hcz564_1); (try clear hcz564_2); (try clear hcz564_3); have z_ := Aside0.mk (advB HB.out hs_); clear HB; have HB := z_; clear z_; have HZ118 := Aside0.mk (below_size hs_); clear hs_ hb; have HO600 := zHO600; clear zHO600; obtain ⟨Ao120, co121, eo122⟩ := slice_S HO600.out; subst eo122) | ((refine gc_ 17 ?_); refine goesL_ (some 64) rfl rfl Tryz.func17 (by kernel_rfl) rfl #[.slice Ao120 t598.length co121, .slice Ao52 t551.length co53] rfl (by (try simp only [List.map_toArray, List.map_cons, List.map_nil]); first | done | rfl) ?_; (with_reducible refine (laws_eqIntSS.calls k _ _ t598 _ _ t551 true _ ?side1 ?side2 ?side3 ?side4 E26.out).mono ?_); (case side1 => repeat (first | exact (Kd.S_reads' HO600.out).2.2 | (with_reducible refine Kd.C_alloc ?_ _) | (with_reducible refine Kd.C_drewN ?_ _) | (with_reducible refine Kd.C_drew ?_))); (case side2 => exact (Kd.S_reads' HO600.out).2.1); (case side3 => repeat (first | exact (Kd.S_reads' HO553.out).2.2 | (with_reducible refine Kd.C_alloc ?_ _) | (with_reducible refine Kd.C_drewN ?_ _) | (with_reducible refine Kd.C_drew ?_))); (case side4 => exact (Kd.S_reads' HO553.out).2.1); rintro e w' ⟨rfl, ⟨nd, rfl⟩⟩; refine ⟨_, rfl, ?_⟩) | ((refine gc_ 21 ?_); refine goesL_ (some 68) rfl rfl Tryz.func21 (by kernel_rfl) rfl #[.slice Ao76 t586.length co77, .int .i64 1] rfl (by (try simp only [List.map_toArray, List.map_cons, List.map_nil]); first | done | rfl) ?_; (with_reducible refine (laws_heldIntSS.calls k _ _ t586 1 t602 _ ?side1 ?side2 E28.out).mono ?_); (case side1 => repeat (first | exact (Kd.S_reads' HO567.out).2.2 | (with_reducible refine Kd.C_alloc ?_ _) | (with_reducible refine Kd.C_drewN ?_ _) | (with_reducible refine Kd.C_drew ?_))); (case side2 => exact (Kd.S_reads' HO567.out).2.1); rintro e w' ⟨rfl, ⟨nd, rfl⟩⟩; refine ⟨_, rfl, ?_⟩))
           go_ret
           exact ⟨rs_, advB HB.out (tow_)⟩
          ·rw [if_neg c30] at H
           exact absurd (Option.some.inj H) (by rw [hr_]; decide)
        ·replace c27 := Bool.eq_false_iff.mpr c27
         subst c27
         replace H : (some false) = some r := by rw [if_neg (show ¬ (false = true) by decide)] at H; exact H
         exact absurd (Option.some.inj H) (by rw [hr_]; decide)
       ·rw [if_neg c23] at H
        exact absurd (Option.some.inj H) (by rw [hr_]; decide)
     ·replace c19 := Bool.eq_false_iff.mpr c19
      subst c19
      replace H : (some false) = some r := by rw [if_neg (show ¬ (false = true) by decide)] at H; exact H
      exact absurd (Option.some.inj H) (by rw [hr_]; decide)
   ·replace c15 := Bool.eq_false_iff.mpr c15
    subst c15
    replace H : (some false) = some r := by rw [if_neg (show ¬ (false = true) by decide)] at H; exact H
    exact absurd (Option.some.inj H) (by rw [hr_]; decide)
  ·replace c12 := Bool.eq_false_iff.mpr c12
   subst c12
   replace H : (some false) = some r := by rw [if_neg (show ¬ (false = true) by decide)] at H; exact H
   exact absurd (Option.some.inj H) (by rw [hr_]; decide)

end Go.Proofs.YtkddpilambnicaaGreat.PFnExactDifferencesFor
