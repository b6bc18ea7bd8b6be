/- Walks of Go functions that the law FnExactFootRows uses: written by this session's program out of the kit's printer; each shows that a call comes to the answers of the Lean function beside it. Conditions: each contract's own. -/
import Derived.Test.YtkddpilambnicaaPFnExactFootRowsx0
import Derived.Test.YtkddpilambnicaaPFnExactFootRowsx1
import Derived.Test.YtkddpilambnicaaPFnExactFootRowsx2
import Derived.Test.YtkddpilambnicaaPFnExactFootRowsx8
import Derived.Test.YtkddpilambnicaaPFnExactFootRowsx9
import Derived.Test.YtkddpilambnicaaPFnExactFootRowsx14
import Derived.Test.YtkddpilambnicaaPFnExactFootRowsx15
import Derived.Test.YtkddpilambnicaaPFnExactFootRowsx16
namespace Go.Proofs.Ytkddpilambnicaa.PFnExactFootRows
open Go.RowKit Go.Proofs.YtkddpilambnicaaW.PrintWords Go.Proofs.YtkddpilambnicaaW.PrintLast Go.Proofs.YtkddpilambnicaaW.PrintMore Go.Proofs.Ytkddpilambnicaa.Mac Go.Proofs.Ytkddpilambnicaa.Law
attribute [local go_sem] max2_int min2_int max_two min_two max_three min_three max_four min_four   -- for this text's walks alone
set_option linter.unusedVariables false
set_option linter.unusedSimpArgs false

/-! ### laws_FnExactFootRows: function 8 -/
def laws_FnExactFootRows.f (k : Nat) (l0_0 : List Int) (a1_0 : Int) (l1_1 : List (S170)) (a1_2 : Int) : Option (Bool) := (laws_szWord.f l0_0 1048576).bind fun t456 => (if t456 < 0 then (some true) else ((laws_szFooting.f a1_0 l1_1 a1_2 t456).bind fun t457 => (if t457 < 0 then (some true) else ((laws_toWord.f k l0_0).bind fun t458 => ((laws_toFooting.f k a1_0 l1_1 a1_2).bind fun bt461 => ((spec_FootRows.f k t458 bt461.1 bt461.2.1 bt461.2.2).bind fun bt466 => ((laws_toWord.f k l0_0).bind fun t470 => ((laws_toFooting.f k a1_0 l1_1 a1_2).bind fun bt474 => ((impl_FootRows.f k t470 bt474.1 bt474.2.1 bt474.2.2).bind fun bt480 => ((laws_eqRowS.f k bt480.1 bt466.1).bind fun t484 => (if t484 = true then (if (bt480.2 != bt466.2) = true then (some false) else ((laws_toWord.f k l0_0).bind fun t485 => ((laws_eqWord.f k t470 t485).bind fun t488 => (if t488 = true then ((laws_toFooting.f k a1_0 l1_1 a1_2).bind fun bt489 => ((laws_eqFooting.f k bt474.1 bt474.2.1 bt474.2.2 bt489.1 bt489.2.1 bt489.2.2).bind fun t494 => (if t494 = true then ((laws_markWord.f k t470 1).bind fun bt495 => ((laws_markFooting.f k bt474.1 bt474.2.1 bt474.2.2 bt495.1).bind fun bt497 => (if bt497.1 < 0 then (some false) else ((laws_eqRowS.f k bt480.1 bt466.1).bind fun t499 => (if t499 = true then ((laws_markRowS.f k bt480.1 1).bind fun bt500 => ((laws_heldRowS.f k bt500.2 1).bind fun t502 => (if t502 < 0 then (some false) else (if t502 = bt500.1 then ((laws_toWord.f k l0_0).bind fun t503 => ((laws_toFooting.f k a1_0 l1_1 a1_2).bind fun bt506 => ((impl_FootRows.f k t503 bt506.1 bt506.2.1 bt506.2.2).bind fun bt511 => ((laws_eqRowS.f k bt511.1 bt466.1).bind fun t515 => (if t515 = true then (if (bt511.2 != bt466.2) = true then (some false) else ((laws_heldRowS.f k bt500.2 1).bind fun t516 => (if t516 < 0 then (some false) else (if t516 = bt500.1 then (some true) else (some false))))) else (some false)))))) else (some false))))) else (some false)))))) else (some false)))) else (some false))))) else (some false))))))))))))
set_option maxHeartbeats 16000000 in
set_option maxRecDepth 100000 in
theorem laws_FnExactFootRows.calls (k : Nat) (A0_0 : Option Addr) (c0_0 : Nat) (l0_0 : List Int) (a1_0 : Int) (A1_1 : Option Addr) (c1_1 : Nat) (l1_1 : List (S170)) (a1_2 : Int) (r : Bool) (w : World) (hr0_0 : Kd.C (Kd.int .i64) w A0_0 l0_0.length l0_0) (hc0_0 : l0_0.length ≤ c0_0) (hr1_1 : Kd.C k170 w A1_1 l1_1.length l1_1) (hc1_1 : l1_1.length ≤ c1_1) (hr_ : r = true) (h : laws_FnExactFootRows.f k l0_0 a1_0 l1_1 a1_2 = some r) :
  Calls Try.prog 8 #[.agg #[.slice A0_0 l0_0.length c0_0], .agg #[.int .i64 a1_0, .slice A1_1 l1_1.length c1_1, .int .i64 a1_2]] w fun e w' => e = .returned (.bool r) ∧ Below w.heap.size w w' := by
 have HR0_0 := Aside0.mk hr0_0
 have HC0_0 := Aside0.mk hc0_0
 clear hr0_0 hc0_0
 have HR1_1 := Aside0.mk hr1_1
 have HC1_1 := Aside0.mk hc1_1
 clear hr1_1 hc1_1
 have HB := Aside0.mk (Below.refl w.heap.size w)
 have H : ((laws_szWord.f l0_0 1048576).bind fun t456 => (if t456 < 0 then (some true) else ((laws_szFooting.f a1_0 l1_1 a1_2 t456).bind fun t457 => (if t457 < 0 then (some true) else ((laws_toWord.f k l0_0).bind fun t458 => ((laws_toFooting.f k a1_0 l1_1 a1_2).bind fun bt461 => ((spec_FootRows.f k t458 bt461.1 bt461.2.1 bt461.2.2).bind fun bt466 => ((laws_toWord.f k l0_0).bind fun t470 => ((laws_toFooting.f k a1_0 l1_1 a1_2).bind fun bt474 => ((impl_FootRows.f k t470 bt474.1 bt474.2.1 bt474.2.2).bind fun bt480 => ((laws_eqRowS.f k bt480.1 bt466.1).bind fun t484 => (if t484 = true then (if (bt480.2 != bt466.2) = true then (some false) else ((laws_toWord.f k l0_0).bind fun t485 => ((laws_eqWord.f k t470 t485).bind fun t488 => (if t488 = true then ((laws_toFooting.f k a1_0 l1_1 a1_2).bind fun bt489 => ((laws_eqFooting.f k bt474.1 bt474.2.1 bt474.2.2 bt489.1 bt489.2.1 bt489.2.2).bind fun t494 => (if t494 = true then ((laws_markWord.f k t470 1).bind fun bt495 => ((laws_markFooting.f k bt474.1 bt474.2.1 bt474.2.2 bt495.1).bind fun bt497 => (if bt497.1 < 0 then (some false) else ((laws_eqRowS.f k bt480.1 bt466.1).bind fun t499 => (if t499 = true then ((laws_markRowS.f k bt480.1 1).bind fun bt500 => ((laws_heldRowS.f k bt500.2 1).bind fun t502 => (if t502 < 0 then (some false) else (if t502 = bt500.1 then ((laws_toWord.f k l0_0).bind fun t503 => ((laws_toFooting.f k a1_0 l1_1 a1_2).bind fun bt506 => ((impl_FootRows.f k t503 bt506.1 bt506.2.1 bt506.2.2).bind fun bt511 => ((laws_eqRowS.f k bt511.1 bt466.1).bind fun t515 => (if t515 = true then (if (bt511.2 != bt466.2) = true then (some false) else ((laws_heldRowS.f k bt500.2 1).bind fun t516 => (if t516 < 0 then (some false) else (if t516 = bt500.1 then (some true) else (some false))))) else (some false)))))) else (some false))))) else (some false)))))) else (some false)))) else (some false))))) else (some false))))))))))))) = some r := h
 clear h
 replace H := bnd_ H; obtain ⟨t456, E1, H⟩ := H
 replace H := its_ H; rcases H with ⟨c2b0, H⟩ | ⟨c2b0, H⟩
 ·obtain rfl := Option.some.inj H
  go_enter Try.func8, Try.ntmps8
  go_wp2_with (first | ((with_reducible refine gd_ 2 ?_); refine bx_ 2 #[.slice A0_0 l0_0.length c0_0] 78 ?_; intro gb454 hg_ w3 hbox_ hb; have hs_ := adv (wl := w) (tow_) hb; have BK454 := Aside0.mk hbox_; have HPB454 := Aside0.mk (boxIn (wl := w) (tow_) hg_ hbox_); have z_ := Aside0.mk (advB HB.out hs_); clear HB; have HB := z_; clear z_; have HZ4 := Aside0.mk (below_size hs_); clear hs_ hb hg_ hbox_) | ((with_reducible refine gd_ 3 ?_); refine bx_ 3 #[.int .i64 a1_0, .slice A1_1 l1_1.length c1_1, .int .i64 a1_2] 81 ?_; intro gb455 hg_ w5 hbox_ hb; have hs_ := adv (wl := w3) (tow_) hb; have BK455 := Aside0.mk hbox_; have HPB455 := Aside0.mk (boxIn (wl := w3) (tow_) hg_ hbox_); (try clear hcz454_0); have z_ := Aside0.mk (blk_below BK454.out hs_); clear BK454; have BK454 := z_; clear z_; have z_ := Aside0.mk (advB HB.out hs_); clear HB; have HB := z_; clear z_; have HZ6 := Aside0.mk (below_size hs_); clear hs_ hb hg_ hbox_; have hcz454_0 := c1_ BK454) | ((with_reducible refine gc_ 54 ?_); refine goesL_ (some 19) rfl rfl Try.func54 (by kernel_rfl) rfl #[.agg #[.slice A0_0 l0_0.length c0_0], .int .i64 1048576] rfl (by (try simp only [List.map_toArray, List.map_cons, List.map_nil]); first | done | rfl) ?_; (with_reducible refine (laws_szWord.calls _ _ l0_0 1048576 t456 _ (Kd.C_below HR0_0.out (up_ HB.out)) HC0_0.out E1.out).mono ?_); rintro e w7 ⟨rfl, hb⟩; refine ⟨_, rfl, ?_⟩; have hs_ := adv (wl := w5) (tow_) hb; have z_ := Aside0.mk (blk_below BK454.out hs_); clear BK454; have BK454 := z_; clear z_; have z_ := Aside0.mk (blk_below BK455.out hs_); clear BK455; have BK455 := z_; clear z_; (try clear hcz454_0); (try clear hcz455_0); (try clear hcz455_1); (try clear hcz455_2); have z_ := Aside0.mk (advB HB.out hs_); clear HB; have HB := z_; clear z_; have HZ8 := Aside0.mk (below_size hs_); clear hs_ hb))
  go_ret
  exact ⟨rs_, advB HB.out (tow_)⟩
 ·replace H := bnd_ H; obtain ⟨t457, E9, H⟩ := H
  replace H := its_ H; rcases H with ⟨c10b0, H⟩ | ⟨c10b0, H⟩
  ·obtain rfl := Option.some.inj H
   go_enter Try.func8, Try.ntmps8
   go_wp2_with (first | ((with_reducible refine gd_ 2 ?_); refine bx_ 2 #[.slice A0_0 l0_0.length c0_0] 78 ?_; intro gb454 hg_ w11 hbox_ hb; have hs_ := adv (wl := w) (tow_) hb; have BK454 := Aside0.mk hbox_; have HPB454 := Aside0.mk (boxIn (wl := w) (tow_) hg_ hbox_); have z_ := Aside0.mk (advB HB.out hs_); clear HB; have HB := z_; clear z_; have HZ12 := Aside0.mk (below_size hs_); clear hs_ hb hg_ hbox_) | ((with_reducible refine gd_ 3 ?_); refine bx_ 3 #[.int .i64 a1_0, .slice A1_1 l1_1.length c1_1, .int .i64 a1_2] 81 ?_; intro gb455 hg_ w13 hbox_ hb; have hs_ := adv (wl := w11) (tow_) hb; have BK455 := Aside0.mk hbox_; have HPB455 := Aside0.mk (boxIn (wl := w11) (tow_) hg_ hbox_); (try clear hcz454_0); have z_ := Aside0.mk (blk_below BK454.out hs_); clear BK454; have BK454 := z_; clear z_; have z_ := Aside0.mk (advB HB.out hs_); clear HB; have HB := z_; clear z_; have HZ14 := Aside0.mk (below_size hs_); clear hs_ hb hg_ hbox_; have hcz454_0 := c1_ BK454) | ((with_reducible refine gc_ 54 ?_); refine goesL_ (some 19) rfl rfl Try.func54 (by kernel_rfl) rfl #[.agg #[.slice A0_0 l0_0.length c0_0], .int .i64 1048576] rfl (by (try simp only [List.map_toArray, List.map_cons, List.map_nil]); first | done | rfl) ?_; (with_reducible refine (laws_szWord.calls _ _ l0_0 1048576 t456 _ (Kd.C_below HR0_0.out (up_ HB.out)) HC0_0.out E1.out).mono ?_); rintro e w15 ⟨rfl, hb⟩; refine ⟨_, rfl, ?_⟩; have hs_ := adv (wl := w13) (tow_) hb; have z_ := Aside0.mk (blk_below BK454.out hs_); clear BK454; have BK454 := z_; clear z_; have z_ := Aside0.mk (blk_below BK455.out hs_); clear BK455; have BK455 := z_; clear z_; (try clear hcz454_0); (try clear hcz455_0); (try clear hcz455_1); (try clear hcz455_2); have z_ := Aside0.mk (advB HB.out hs_); clear HB; have HB := z_; clear z_; have HZ16 := Aside0.mk (below_size hs_); clear hs_ hb; obtain ⟨hcz455_0, hcz455_1, hcz455_2⟩ := c3_ BK455) | ((with_reducible refine gc_ 55 ?_); refine goesL_ (some 24) rfl rfl Try.func55 (by kernel_rfl) rfl #[.agg #[.int .i64 a1_0, .slice A1_1 l1_1.length c1_1, .int .i64 a1_2], .int .i64 t456] rfl (by (try simp only [List.map_toArray, List.map_cons, List.map_nil]); first | done | rfl) ?_; (with_reducible refine (laws_szFooting.calls a1_0 _ _ l1_1 a1_2 t456 t457 _ (Kd.C_below HR1_1.out (up_ HB.out)) HC1_1.out E9.out).mono ?_); rintro e w17 ⟨rfl, hb⟩; refine ⟨_, rfl, ?_⟩; have hs_ := adv (wl := w15) (tow_) hb; have z_ := Aside0.mk (blk_below BK454.out hs_); clear BK454; have BK454 := z_; clear z_; have z_ := Aside0.mk (blk_below BK455.out hs_); clear BK455; have BK455 := z_; clear z_; (try clear hcz454_0); (try clear hcz455_0); (try clear hcz455_1); (try clear hcz455_2); have z_ := Aside0.mk (advB HB.out hs_); clear HB; have HB := z_; clear z_; have HZ18 := Aside0.mk (below_size hs_); clear hs_ hb))
   go_ret
   exact ⟨rs_, advB HB.out (tow_)⟩
  ·replace H := bnd_ H; obtain ⟨t458, E19, H⟩ := H
   replace H := Option.bind_eq_some_iff.mp H
   obtain ⟨⟨t461, t462, t465⟩, E200, H⟩ := H
   replace H : ((spec_FootRows.f k t458 t461 t462 t465).bind fun bt466 => ((laws_toWord.f k l0_0).bind fun t470 => ((laws_toFooting.f k a1_0 l1_1 a1_2).bind fun bt474 => ((impl_FootRows.f k t470 bt474.1 bt474.2.1 bt474.2.2).bind fun bt480 => ((laws_eqRowS.f k bt480.1 bt466.1).bind fun t484 => (if t484 = true then (if (bt480.2 != bt466.2) = true then (some false) else ((laws_toWord.f k l0_0).bind fun t485 => ((laws_eqWord.f k t470 t485).bind fun t488 => (if t488 = true then ((laws_toFooting.f k a1_0 l1_1 a1_2).bind fun bt489 => ((laws_eqFooting.f k bt474.1 bt474.2.1 bt474.2.2 bt489.1 bt489.2.1 bt489.2.2).bind fun t494 => (if t494 = true then ((laws_markWord.f k t470 1).bind fun bt495 => ((laws_markFooting.f k bt474.1 bt474.2.1 bt474.2.2 bt495.1).bind fun bt497 => (if bt497.1 < 0 then (some false) else ((laws_eqRowS.f k bt480.1 bt466.1).bind fun t499 => (if t499 = true then ((laws_markRowS.f k bt480.1 1).bind fun bt500 => ((laws_heldRowS.f k bt500.2 1).bind fun t502 => (if t502 < 0 then (some false) else (if t502 = bt500.1 then ((laws_toWord.f k l0_0).bind fun t503 => ((laws_toFooting.f k a1_0 l1_1 a1_2).bind fun bt506 => ((impl_FootRows.f k t503 bt506.1 bt506.2.1 bt506.2.2).bind fun bt511 => ((laws_eqRowS.f k bt511.1 bt466.1).bind fun t515 => (if t515 = true then (if (bt511.2 != bt466.2) = true then (some false) else ((laws_heldRowS.f k bt500.2 1).bind fun t516 => (if t516 < 0 then (some false) else (if t516 = bt500.1 then (some true) else (some false))))) else (some false)))))) else (some false))))) else (some false)))))) else (some false)))) else (some false))))) else (some false))))))) = some r := H
   have E20 := Aside0.mk E200
   clear E200
   replace H := Option.bind_eq_some_iff.mp H
   obtain ⟨⟨t466, t469⟩, E210, H⟩ := H
   replace H : ((laws_toWord.f k l0_0).bind fun t470 => ((laws_toFooting.f k a1_0 l1_1 a1_2).bind fun bt474 => ((impl_FootRows.f k t470 bt474.1 bt474.2.1 bt474.2.2).bind fun bt480 => ((laws_eqRowS.f k bt480.1 t466).bind fun t484 => (if t484 = true then (if (bt480.2 != t469) = true then (some false) else ((laws_toWord.f k l0_0).bind fun t485 => ((laws_eqWord.f k t470 t485).bind fun t488 => (if t488 = true then ((laws_toFooting.f k a1_0 l1_1 a1_2).bind fun bt489 => ((laws_eqFooting.f k bt474.1 bt474.2.1 bt474.2.2 bt489.1 bt489.2.1 bt489.2.2).bind fun t494 => (if t494 = true then ((laws_markWord.f k t470 1).bind fun bt495 => ((laws_markFooting.f k bt474.1 bt474.2.1 bt474.2.2 bt495.1).bind fun bt497 => (if bt497.1 < 0 then (some false) else ((laws_eqRowS.f k bt480.1 t466).bind fun t499 => (if t499 = true then ((laws_markRowS.f k bt480.1 1).bind fun bt500 => ((laws_heldRowS.f k bt500.2 1).bind fun t502 => (if t502 < 0 then (some false) else (if t502 = bt500.1 then ((laws_toWord.f k l0_0).bind fun t503 => ((laws_toFooting.f k a1_0 l1_1 a1_2).bind fun bt506 => ((impl_FootRows.f k t503 bt506.1 bt506.2.1 bt506.2.2).bind fun bt511 => ((laws_eqRowS.f k bt511.1 t466).bind fun t515 => (if t515 = true then (if (bt511.2 != t469) = true then (some false) else ((laws_heldRowS.f k bt500.2 1).bind fun t516 => (if t516 < 0 then (some false) else (if t516 = bt500.1 then (some true) else (some false))))) else (some false)))))) else (some false))))) else (some false)))))) else (some false)))) else (some false))))) else (some false)))))) = some r := H
   have E21 := Aside0.mk E210
   clear E210
   replace H := bnd_ H; obtain ⟨t470, E22, H⟩ := H
   replace H := Option.bind_eq_some_iff.mp H
   obtain ⟨⟨t474, t475, t478⟩, E230, H⟩ := H
   replace H : ((impl_FootRows.f k t470 t474 t475 t478).bind fun bt480 => ((laws_eqRowS.f k bt480.1 t466).bind fun t484 => (if t484 = true then (if (bt480.2 != t469) = true then (some false) else ((laws_toWord.f k l0_0).bind fun t485 => ((laws_eqWord.f k t470 t485).bind fun t488 => (if t488 = true then ((laws_toFooting.f k a1_0 l1_1 a1_2).bind fun bt489 => ((laws_eqFooting.f k t474 t475 t478 bt489.1 bt489.2.1 bt489.2.2).bind fun t494 => (if t494 = true then ((laws_markWord.f k t470 1).bind fun bt495 => ((laws_markFooting.f k t474 t475 t478 bt495.1).bind fun bt497 => (if bt497.1 < 0 then (some false) else ((laws_eqRowS.f k bt480.1 t466).bind fun t499 => (if t499 = true then ((laws_markRowS.f k bt480.1 1).bind fun bt500 => ((laws_heldRowS.f k bt500.2 1).bind fun t502 => (if t502 < 0 then (some false) else (if t502 = bt500.1 then ((laws_toWord.f k l0_0).bind fun t503 => ((laws_toFooting.f k a1_0 l1_1 a1_2).bind fun bt506 => ((impl_FootRows.f k t503 bt506.1 bt506.2.1 bt506.2.2).bind fun bt511 => ((laws_eqRowS.f k bt511.1 t466).bind fun t515 => (if t515 = true then (if (bt511.2 != t469) = true then (some false) else ((laws_heldRowS.f k bt500.2 1).bind fun t516 => (if t516 < 0 then (some false) else (if t516 = bt500.1 then (some true) else (some false))))) else (some false)))))) else (some false))))) else (some false)))))) else (some false)))) else (some false))))) else (some false)))) = some r := H
   have E23 := Aside0.mk E230
   clear E230
   replace H := Option.bind_eq_some_iff.mp H
   obtain ⟨⟨t480, t483⟩, E240, H⟩ := H
   replace H : ((laws_eqRowS.f k t480 t466).bind fun t484 => (if t484 = true then (if (t483 != t469) = true then (some false) else ((laws_toWord.f k l0_0).bind fun t485 => ((laws_eqWord.f k t470 t485).bind fun t488 => (if t488 = true then ((laws_toFooting.f k a1_0 l1_1 a1_2).bind fun bt489 => ((laws_eqFooting.f k t474 t475 t478 bt489.1 bt489.2.1 bt489.2.2).bind fun t494 => (if t494 = true then ((laws_markWord.f k t470 1).bind fun bt495 => ((laws_markFooting.f k t474 t475 t478 bt495.1).bind fun bt497 => (if bt497.1 < 0 then (some false) else ((laws_eqRowS.f k t480 t466).bind fun t499 => (if t499 = true then ((laws_markRowS.f k t480 1).bind fun bt500 => ((laws_heldRowS.f k bt500.2 1).bind fun t502 => (if t502 < 0 then (some false) else (if t502 = bt500.1 then ((laws_toWord.f k l0_0).bind fun t503 => ((laws_toFooting.f k a1_0 l1_1 a1_2).bind fun bt506 => ((impl_FootRows.f k t503 bt506.1 bt506.2.1 bt506.2.2).bind fun bt511 => ((laws_eqRowS.f k bt511.1 t466).bind fun t515 => (if t515 = true then (if (bt511.2 != t469) = true then (some false) else ((laws_heldRowS.f k bt500.2 1).bind fun t516 => (if t516 < 0 then (some false) else (if t516 = bt500.1 then (some true) else (some false))))) else (some false)))))) else (some false))))) else (some false)))))) else (some false)))) else (some false))))) else (some false))) = some r := H
   have E24 := Aside0.mk E240
   clear E240
   replace H := bnd_ H; obtain ⟨t484, E25, H⟩ := H
   by_cases c26 : t484 = true
   ·subst c26
    replace H : (if (t483 != t469) = true then (some false) else ((laws_toWord.f k l0_0).bind fun t485 => ((laws_eqWord.f k t470 t485).bind fun t488 => (if t488 = true then ((laws_toFooting.f k a1_0 l1_1 a1_2).bind fun bt489 => ((laws_eqFooting.f k t474 t475 t478 bt489.1 bt489.2.1 bt489.2.2).bind fun t494 => (if t494 = true then ((laws_markWord.f k t470 1).bind fun bt495 => ((laws_markFooting.f k t474 t475 t478 bt495.1).bind fun bt497 => (if bt497.1 < 0 then (some false) else ((laws_eqRowS.f k t480 t466).bind fun t499 => (if t499 = true then ((laws_markRowS.f k t480 1).bind fun bt500 => ((laws_heldRowS.f k bt500.2 1).bind fun t502 => (if t502 < 0 then (some false) else (if t502 = bt500.1 then ((laws_toWord.f k l0_0).bind fun t503 => ((laws_toFooting.f k a1_0 l1_1 a1_2).bind fun bt506 => ((impl_FootRows.f k t503 bt506.1 bt506.2.1 bt506.2.2).bind fun bt511 => ((laws_eqRowS.f k bt511.1 t466).bind fun t515 => (if t515 = true then (if (bt511.2 != t469) = true then (some false) else ((laws_heldRowS.f k bt500.2 1).bind fun t516 => (if t516 < 0 then (some false) else (if t516 = bt500.1 then (some true) else (some false))))) else (some false)))))) else (some false))))) else (some false)))))) else (some false)))) else (some false))))) = some r := by rw [if_pos rfl] at H; exact H
    by_cases c27 : (t483 != t469) = true
    ·rw [if_pos c27] at H
     exact absurd (Option.some.inj H) (by rw [hr_]; decide)
    ·rw [if_neg c27] at H
     have c27b0 : (t483 != t469) = false := by simpa using c27
     (try (have c27b1 : decide (t483 = t469) = true := by simpa using c27))
     (try (have c27b2 : (t483 == t469) = true := by simpa using c27))
     clear c27
     replace H := bnd_ H; obtain ⟨t485, E28, H⟩ := H
     replace H := bnd_ H; obtain ⟨t488, E29, H⟩ := H
     by_cases c30 : t488 = true
     ·subst c30
      replace H : ((laws_toFooting.f k a1_0 l1_1 a1_2).bind fun bt489 => ((laws_eqFooting.f k t474 t475 t478 bt489.1 bt489.2.1 bt489.2.2).bind fun t494 => (if t494 = true then ((laws_markWord.f k t470 1).bind fun bt495 => ((laws_markFooting.f k t474 t475 t478 bt495.1).bind fun bt497 => (if bt497.1 < 0 then (some false) else ((laws_eqRowS.f k t480 t466).bind fun t499 => (if t499 = true then ((laws_markRowS.f k t480 1).bind fun bt500 => ((laws_heldRowS.f k bt500.2 1).bind fun t502 => (if t502 < 0 then (some false) else (if t502 = bt500.1 then ((laws_toWord.f k l0_0).bind fun t503 => ((laws_toFooting.f k a1_0 l1_1 a1_2).bind fun bt506 => ((impl_FootRows.f k t503 bt506.1 bt506.2.1 bt506.2.2).bind fun bt511 => ((laws_eqRowS.f k bt511.1 t466).bind fun t515 => (if t515 = true then (if (bt511.2 != t469) = true then (some false) else ((laws_heldRowS.f k bt500.2 1).bind fun t516 => (if t516 < 0 then (some false) else (if t516 = bt500.1 then (some true) else (some false))))) else (some false)))))) else (some false))))) else (some false)))))) else (some false)))) = some r := by rw [if_pos rfl] at H; exact H
      replace H := Option.bind_eq_some_iff.mp H
      obtain ⟨⟨t489, t490, t493⟩, E310, H⟩ := H
      replace H : ((laws_eqFooting.f k t474 t475 t478 t489 t490 t493).bind fun t494 => (if t494 = true then ((laws_markWord.f k t470 1).bind fun bt495 => ((laws_markFooting.f k t474 t475 t478 bt495.1).bind fun bt497 => (if bt497.1 < 0 then (some false) else ((laws_eqRowS.f k t480 t466).bind fun t499 => (if t499 = true then ((laws_markRowS.f k t480 1).bind fun bt500 => ((laws_heldRowS.f k bt500.2 1).bind fun t502 => (if t502 < 0 then (some false) else (if t502 = bt500.1 then ((laws_toWord.f k l0_0).bind fun t503 => ((laws_toFooting.f k a1_0 l1_1 a1_2).bind fun bt506 => ((impl_FootRows.f k t503 bt506.1 bt506.2.1 bt506.2.2).bind fun bt511 => ((laws_eqRowS.f k bt511.1 t466).bind fun t515 => (if t515 = true then (if (bt511.2 != t469) = true then (some false) else ((laws_heldRowS.f k bt500.2 1).bind fun t516 => (if t516 < 0 then (some false) else (if t516 = bt500.1 then (some true) else (some false))))) else (some false)))))) else (some false))))) else (some false)))))) else (some false))) = some r := H
      have E31 := Aside0.mk E310
      clear E310
      replace H := bnd_ H; obtain ⟨t494, E32, H⟩ := H
      by_cases c33 : t494 = true
      ·subst c33
       replace H : ((laws_markWord.f k t470 1).bind fun bt495 => ((laws_markFooting.f k t474 t475 t478 bt495.1).bind fun bt497 => (if bt497.1 < 0 then (some false) else ((laws_eqRowS.f k t480 t466).bind fun t499 => (if t499 = true then ((laws_markRowS.f k t480 1).bind fun bt500 => ((laws_heldRowS.f k bt500.2 1).bind fun t502 => (if t502 < 0 then (some false) else (if t502 = bt500.1 then ((laws_toWord.f k l0_0).bind fun t503 => ((laws_toFooting.f k a1_0 l1_1 a1_2).bind fun bt506 => ((impl_FootRows.f k t503 bt506.1 bt506.2.1 bt506.2.2).bind fun bt511 => ((laws_eqRowS.f k bt511.1 t466).bind fun t515 => (if t515 = true then (if (bt511.2 != t469) = true then (some false) else ((laws_heldRowS.f k bt500.2 1).bind fun t516 => (if t516 < 0 then (some false) else (if t516 = bt500.1 then (some true) else (some false))))) else (some false)))))) else (some false))))) else (some false)))))) = some r := by rw [if_pos rfl] at H; exact H
       replace H := Option.bind_eq_some_iff.mp H
       obtain ⟨⟨t495, t496⟩, E340, H⟩ := H
       replace H : ((laws_markFooting.f k t474 t475 t478 t495).bind fun bt497 => (if bt497.1 < 0 then (some false) else ((laws_eqRowS.f k t480 t466).bind fun t499 => (if t499 = true then ((laws_markRowS.f k t480 1).bind fun bt500 => ((laws_heldRowS.f k bt500.2 1).bind fun t502 => (if t502 < 0 then (some false) else (if t502 = bt500.1 then ((laws_toWord.f k l0_0).bind fun t503 => ((laws_toFooting.f k a1_0 l1_1 a1_2).bind fun bt506 => ((impl_FootRows.f k t503 bt506.1 bt506.2.1 bt506.2.2).bind fun bt511 => ((laws_eqRowS.f k bt511.1 t466).bind fun t515 => (if t515 = true then (if (bt511.2 != t469) = true then (some false) else ((laws_heldRowS.f k bt500.2 1).bind fun t516 => (if t516 < 0 then (some false) else (if t516 = bt500.1 then (some true) else (some false))))) else (some false)))))) else (some false))))) else (some false))))) = some r := H
       have E34 := Aside0.mk E340
       clear E340
       replace H := Option.bind_eq_some_iff.mp H
       obtain ⟨⟨t497, t498⟩, E350, H⟩ := H
       replace H : (if t497 < 0 then (some false) else ((laws_eqRowS.f k t480 t466).bind fun t499 => (if t499 = true then ((laws_markRowS.f k t480 1).bind fun bt500 => ((laws_heldRowS.f k bt500.2 1).bind fun t502 => (if t502 < 0 then (some false) else (if t502 = bt500.1 then ((laws_toWord.f k l0_0).bind fun t503 => ((laws_toFooting.f k a1_0 l1_1 a1_2).bind fun bt506 => ((impl_FootRows.f k t503 bt506.1 bt506.2.1 bt506.2.2).bind fun bt511 => ((laws_eqRowS.f k bt511.1 t466).bind fun t515 => (if t515 = true then (if (bt511.2 != t469) = true then (some false) else ((laws_heldRowS.f k bt500.2 1).bind fun t516 => (if t516 < 0 then (some false) else (if t516 = bt500.1 then (some true) else (some false))))) else (some false)))))) else (some false))))) else (some false)))) = some r := H
       have E35 := Aside0.mk E350
       clear E350
       by_cases c36 : t497 < 0
       ·rw [if_pos c36] at H
        exact absurd (Option.some.inj H) (by rw [hr_]; decide)
       ·rw [if_neg c36] at H
        have c36b0 : decide (t497 < 0) = false := decide_eq_false c36
        clear c36
        replace H := bnd_ H; obtain ⟨t499, E37, H⟩ := H
        by_cases c38 : t499 = true
        ·subst c38
         replace H : ((laws_markRowS.f k t480 1).bind fun bt500 => ((laws_heldRowS.f k bt500.2 1).bind fun t502 => (if t502 < 0 then (some false) else (if t502 = bt500.1 then ((laws_toWord.f k l0_0).bind fun t503 => ((laws_toFooting.f k a1_0 l1_1 a1_2).bind fun bt506 => ((impl_FootRows.f k t503 bt506.1 bt506.2.1 bt506.2.2).bind fun bt511 => ((laws_eqRowS.f k bt511.1 t466).bind fun t515 => (if t515 = true then (if (bt511.2 != t469) = true then (some false) else ((laws_heldRowS.f k bt500.2 1).bind fun t516 => (if t516 < 0 then (some false) else (if t516 = bt500.1 then (some true) else (some false))))) else (some false)))))) else (some false))))) = some r := by rw [if_pos rfl] at H; exact H
         replace H := Option.bind_eq_some_iff.mp H
         obtain ⟨⟨t500, t501⟩, E390, H⟩ := H
         replace H : ((laws_heldRowS.f k t501 1).bind fun t502 => (if t502 < 0 then (some false) else (if t502 = t500 then ((laws_toWord.f k l0_0).bind fun t503 => ((laws_toFooting.f k a1_0 l1_1 a1_2).bind fun bt506 => ((impl_FootRows.f k t503 bt506.1 bt506.2.1 bt506.2.2).bind fun bt511 => ((laws_eqRowS.f k bt511.1 t466).bind fun t515 => (if t515 = true then (if (bt511.2 != t469) = true then (some false) else ((laws_heldRowS.f k t501 1).bind fun t516 => (if t516 < 0 then (some false) else (if t516 = t500 then (some true) else (some false))))) else (some false)))))) else (some false)))) = some r := H
         have E39 := Aside0.mk E390
         clear E390
         replace H := bnd_ H; obtain ⟨t502, E40, H⟩ := H
         by_cases c41 : t502 < 0
         ·rw [if_pos c41] at H
          exact absurd (Option.some.inj H) (by rw [hr_]; decide)
         ·rw [if_neg c41] at H
          have c41b0 : decide (t502 < 0) = false := decide_eq_false c41
          clear c41
          by_cases c42 : t502 = t500
          ·rw [if_pos c42] at H
           have c42b0 : (t502 == t500) = true := beq_iff_eq.mpr c42
           have c42b1 : (t502 != t500) = false := bne_eq_false_iff_eq.mpr c42
           clear c42
           replace H := bnd_ H; obtain ⟨t503, E43, H⟩ := H
           replace H := Option.bind_eq_some_iff.mp H
           obtain ⟨⟨t506, t507, t510⟩, E440, H⟩ := H
           replace H : ((impl_FootRows.f k t503 t506 t507 t510).bind fun bt511 => ((laws_eqRowS.f k bt511.1 t466).bind fun t515 => (if t515 = true then (if (bt511.2 != t469) = true then (some false) else ((laws_heldRowS.f k t501 1).bind fun t516 => (if t516 < 0 then (some false) else (if t516 = t500 then (some true) else (some false))))) else (some false)))) = some r := H
           have E44 := Aside0.mk E440
           clear E440
           replace H := Option.bind_eq_some_iff.mp H
           obtain ⟨⟨t511, t514⟩, E450, H⟩ := H
           replace H : ((laws_eqRowS.f k t511 t466).bind fun t515 => (if t515 = true then (if (t514 != t469) = true then (some false) else ((laws_heldRowS.f k t501 1).bind fun t516 => (if t516 < 0 then (some false) else (if t516 = t500 then (some true) else (some false))))) else (some false))) = some r := H
           have E45 := Aside0.mk E450
           clear E450
           replace H := bnd_ H; obtain ⟨t515, E46, H⟩ := H
           by_cases c47 : t515 = true
           ·subst c47
            replace H : (if (t514 != t469) = true then (some false) else ((laws_heldRowS.f k t501 1).bind fun t516 => (if t516 < 0 then (some false) else (if t516 = t500 then (some true) else (some false))))) = some r := by rw [if_pos rfl] at H; exact H
            by_cases c48 : (t514 != t469) = true
            ·rw [if_pos c48] at H
             exact absurd (Option.some.inj H) (by rw [hr_]; decide)
            ·rw [if_neg c48] at H
             have c48b0 : (t514 != t469) = false := by simpa using c48
             (try (have c48b1 : decide (t514 = t469) = true := by simpa using c48))
             (try (have c48b2 : (t514 == t469) = true := by simpa using c48))
             clear c48
             replace H := bnd_ H; obtain ⟨t516, E49, H⟩ := H
             by_cases c50 : t516 < 0
             ·rw [if_pos c50] at H
              exact absurd (Option.some.inj H) (by rw [hr_]; decide)
             ·rw [if_neg c50] at H
              have c50b0 : decide (t516 < 0) = false := decide_eq_false c50
              clear c50
              by_cases c51 : t516 = t500
              ·rw [if_pos c51] at H
               have c51b0 : (t516 == t500) = true := beq_iff_eq.mpr c51
               have c51b1 : (t516 != t500) = false := bne_eq_false_iff_eq.mpr c51
               clear c51
               obtain rfl := Option.some.inj H
               go_enter Try.func8, Try.ntmps8
               go_wp2_with (first | ((with_reducible refine gd_ 2 ?_); refine bx_ 2 #[.slice A0_0 l0_0.length c0_0] 78 ?_; intro gb454 hg_ w52 hbox_ hb; have hs_ := adv (wl := w) (tow_) hb; have BK454 := Aside0.mk hbox_; have HPB454 := Aside0.mk (boxIn (wl := w) (tow_) hg_ hbox_); have z_ := Aside0.mk (advB HB.out hs_); clear HB; have HB := z_; clear z_; have HZ53 := Aside0.mk (below_size hs_); clear hs_ hb hg_ hbox_) | ((with_reducible refine gd_ 3 ?_); refine bx_ 3 #[.int .i64 a1_0, .slice A1_1 l1_1.length c1_1, .int .i64 a1_2] 81 ?_; intro gb455 hg_ w54 hbox_ hb; have hs_ := adv (wl := w52) (tow_) hb; have BK455 := Aside0.mk hbox_; have HPB455 := Aside0.mk (boxIn (wl := w52) (tow_) hg_ hbox_); (try clear hcz454_0); have z_ := Aside0.mk (blk_below BK454.out hs_); clear BK454; have BK454 := z_; clear z_; have z_ := Aside0.mk (advB HB.out hs_); clear HB; have HB := z_; clear z_; have HZ55 := Aside0.mk (below_size hs_); clear hs_ hb hg_ hbox_; have hcz454_0 := c1_ BK454) | ((with_reducible refine gc_ 54 ?_); refine goesL_ (some 19) rfl rfl Try.func54 (by kernel_rfl) rfl #[.agg #[.slice A0_0 l0_0.length c0_0], .int .i64 1048576] rfl (by (try simp only [List.map_toArray, List.map_cons, List.map_nil]); first | done | rfl) ?_; (with_reducible refine (laws_szWord.calls _ _ l0_0 1048576 t456 _ (Kd.C_below HR0_0.out (up_ HB.out)) HC0_0.out E1.out).mono ?_); rintro e w56 ⟨rfl, hb⟩; refine ⟨_, rfl, ?_⟩; have hs_ := adv (wl := w54) (tow_) hb; have z_ := Aside0.mk (blk_below BK454.out hs_); clear BK454; have BK454 := z_; clear z_; have z_ := Aside0.mk (blk_below BK455.out hs_); clear BK455; have BK455 := z_; clear z_; (try clear hcz454_0); (try clear hcz455_0); (try clear hcz455_1); (try clear hcz455_2); have z_ := Aside0.mk (advB HB.out hs_); clear HB; have HB := z_; clear z_; have HZ57 := Aside0.mk (below_size hs_); clear hs_ hb; obtain ⟨hcz455_0, hcz455_1, hcz455_2⟩ := c3_ BK455) | ((with_reducible refine gc_ 55 ?_); refine goesL_ (some 24) rfl rfl Try.func55 (by kernel_rfl) rfl #[.agg #[.int .i64 a1_0, .slice A1_1 l1_1.length c1_1, .int .i64 a1_2], .int .i64 t456] rfl (by (try simp only [List.map_toArray, List.map_cons, List.map_nil]); first | done | rfl) ?_; (with_reducible refine (laws_szFooting.calls a1_0 _ _ l1_1 a1_2 t456 t457 _ (Kd.C_below HR1_1.out (up_ HB.out)) HC1_1.out E9.out).mono ?_); rintro e w58 ⟨rfl, hb⟩; refine ⟨_, rfl, ?_⟩; have hs_ := adv (wl := w56) (tow_) hb; have z_ := Aside0.mk (blk_below BK454.out hs_); clear BK454; have BK454 := z_; clear z_; have z_ := Aside0.mk (blk_below BK455.out hs_); clear BK455; have BK455 := z_; clear z_; (try clear hcz454_0); (try clear hcz455_0); (try clear hcz455_1); (try clear hcz455_2); have z_ := Aside0.mk (advB HB.out hs_); clear HB; have HB := z_; clear z_; have HZ59 := Aside0.mk (below_size hs_); clear hs_ hb; have hcz454_0 := c1_ BK454))
               refine start_ (n := 10) (S := fun w' => w'.cell? ⟨gb454, 0, none⟩ = some (.slice A0_0 l0_0.length c0_0) ∧ w'.cell? ⟨gb455, 0, none⟩ = some (.int .i64 a1_0) ∧ w'.cell? ⟨gb455, 1, none⟩ = some (.slice A1_1 l1_1.length c1_1) ∧ w'.cell? ⟨gb455, 2, none⟩ = some (.int .i64 a1_2)) (ds := []) #[false, false, false, false, false, false, false, false, false, false] (by kernel_rfl) rfl rfl ⟨(by first | exact (blk_cell BK454.out 0).trans rfl | exact (blk_cell (up_ BK454.out) 0).trans rfl), (by first | exact (blk_cell BK455.out 0).trans rfl | exact (blk_cell (up_ BK455.out) 0).trans rfl), (by first | exact (blk_cell BK455.out 1).trans rfl | exact (blk_cell (up_ BK455.out) 1).trans rfl), (by first | exact (blk_cell BK455.out 2).trans rfl | exact (blk_cell (up_ BK455.out) 2).trans rfl)⟩ (fun hHeld => ?_)
               refine tk_ 0 (some 28) hHeld ?_
               refine tk_ 2 (some 30) hHeld ?_
               refine on_ 1 (some 29) (fun K hK => ?_)
               refine goes_ Try.func57 (by kernel_rfl) rfl #[.agg #[.slice A0_0 l0_0.length c0_0]] (by rfl) rfl rfl am_ ?_
               (with_reducible refine (laws_toWord.calls k _ _ l0_0 t458 _ ?side1 ?side2 E19.out).mono ?_)
               (case side1 => exact Kd.C_below HR0_0.out (up_ HB.out))
               (case side2 => exact HC0_0.out)
               rintro e w60 ⟨v459, rfl, ho0, hb⟩
               refine ⟨_, rfl, ?_⟩
               have hs_ := adv (wl := w58) (tow_) hb
               obtain ⟨P62, hp_, hq_⟩ := made_R (wl := w58) (base := w.heap.size) (tow_) (below_size HB.out) ho0
               have HP62 := Aside0.mk hp_
               have zHO460 := Aside0.mk hq_
               clear hp_ hq_ ho0
               have z_ := Aside0.mk (blk_below BK454.out hs_)
               clear BK454
               have BK454 := z_
               clear z_
               have z_ := Aside0.mk (blk_below BK455.out hs_)
               clear BK455
               have BK455 := z_
               clear z_
               (try clear hcz454_0)
               (try clear hcz455_0)
               (try clear hcz455_1)
               (try clear hcz455_2)
               have z_ := Aside0.mk (advB HB.out hs_)
               clear HB
               have HB := z_
               clear z_
               have HZ61 := Aside0.mk (below_size hs_)
               clear hs_ hb
               have HO460 := zHO460
               clear zHO460
               obtain ⟨Ao63, co64, eo65⟩ := slice_R HO460.out
               subst eo65
               refine hK.out _ _ ⟨(by first | exact (blk_cell BK454.out 0).trans rfl | exact (blk_cell (up_ BK454.out) 0).trans rfl), (by first | exact (blk_cell BK455.out 0).trans rfl | exact (blk_cell (up_ BK455.out) 0).trans rfl), (by first | exact (blk_cell BK455.out 1).trans rfl | exact (blk_cell (up_ BK455.out) 1).trans rfl), (by first | exact (blk_cell BK455.out 2).trans rfl | exact (blk_cell (up_ BK455.out) 2).trans rfl)⟩ (fun hHeld => ?_)
               clear hK K
               refine nm_ ?_
               refine on_ 3 (some 31) (fun K hK => ?_)
               refine goes_ Try.func58 (by kernel_rfl) rfl #[.agg #[.int .i64 a1_0, .slice A1_1 l1_1.length c1_1, .int .i64 a1_2]] (by rfl) rfl rfl am_ ?_
               (with_reducible refine (laws_toFooting.calls k a1_0 _ _ l1_1 a1_2 t461 t462 t465 _ ?side1 ?side2 E20.out).mono ?_)
               (case side1 => exact Kd.C_below HR1_1.out (up_ HB.out))
               (case side2 => exact HC1_1.out)
               rintro e w66 ⟨v463, rfl, ho0, hb⟩
               refine ⟨_, rfl, ?_⟩
               have hs_ := adv (wl := w60) (tow_) hb
               obtain ⟨P68, hp_, hq_⟩ := made_R (wl := w60) (base := w.heap.size) (tow_) (below_size HB.out) ho0
               have HP68 := Aside0.mk hp_
               have zHO464 := Aside0.mk hq_
               clear hp_ hq_ ho0
               have z_ := Aside0.mk (Kd.R_below HO460.out hs_)
               clear HO460
               have HO460 := z_
               clear z_
               have z_ := Aside0.mk (blk_below BK454.out hs_)
               clear BK454
               have BK454 := z_
               clear z_
               have z_ := Aside0.mk (blk_below BK455.out hs_)
               clear BK455
               have BK455 := z_
               clear z_
               (try clear hcz454_0)
               (try clear hcz455_0)
               (try clear hcz455_1)
               (try clear hcz455_2)
               have z_ := Aside0.mk (advB HB.out hs_)
               clear HB
               have HB := z_
               clear z_
               have HZ67 := Aside0.mk (below_size hs_)
               clear hs_ hb
               have HO464 := zHO464
               clear zHO464
               obtain ⟨Ao69, co70, eo71⟩ := slice_R HO464.out
               subst eo71
               refine hK.out _ _ ⟨(by first | exact (blk_cell BK454.out 0).trans rfl | exact (blk_cell (up_ BK454.out) 0).trans rfl), (by first | exact (blk_cell BK455.out 0).trans rfl | exact (blk_cell (up_ BK455.out) 0).trans rfl), (by first | exact (blk_cell BK455.out 1).trans rfl | exact (blk_cell (up_ BK455.out) 1).trans rfl), (by first | exact (blk_cell BK455.out 2).trans rfl | exact (blk_cell (up_ BK455.out) 2).trans rfl)⟩ (fun hHeld => ?_)
               clear hK K
               refine nm_ ?_
               refine on_ 4 (some 32) (fun K hK => ?_)
               refine goes_ Try.func56 (by kernel_rfl) rfl #[.agg #[.slice Ao63 t458.length co64], .agg #[.int .i64 t461, .slice Ao69 t462.length co70, .int .i64 t465]] (by rfl) rfl rfl am_ ?_
               (with_reducible refine (spec_FootRows.calls k _ _ t458 t461 _ _ t462 t465 t466 t469 _ ?side1 ?side2 ?side3 ?side4 E21.out).mono ?_)
               (case side1 => repeat (first | exact (Kd.R_reads' HO460.out).2.2 | (with_reducible refine Kd.C_alloc ?_ _) | (with_reducible refine Kd.C_drewN ?_ _) | (with_reducible refine Kd.C_drew ?_)))
               (case side2 => exact (Kd.R_reads' HO460.out).2.1)
               (case side3 => repeat (first | exact (Kd.R_reads' HO464.out).2.2 | (with_reducible refine Kd.C_alloc ?_ _) | (with_reducible refine Kd.C_drewN ?_ _) | (with_reducible refine Kd.C_drew ?_)))
               (case side4 => exact (Kd.R_reads' HO464.out).2.1)
               rintro e w72 ⟨v467, rfl, ho0, hb⟩
               refine ⟨_, rfl, ?_⟩
               have hs_ := adv (wl := w66) (tow_) hb
               obtain ⟨P74, hp_, hq_⟩ := made_N (wl := w66) (base := w.heap.size) (tow_) (below_size HB.out) ho0 (fun k_ hk_ => by first | exact hk_ | exact hk_.1)
               have HP74 := Aside0.mk hp_
               have zHO468 := Aside0.mk hq_
               clear hp_ hq_ ho0
               have z_ := Aside0.mk (Kd.R_below HO460.out hs_)
               clear HO460
               have HO460 := z_
               clear z_
               have z_ := Aside0.mk (Kd.R_below HO464.out hs_)
               clear HO464
               have HO464 := z_
               clear z_
               have z_ := Aside0.mk (blk_below BK454.out hs_)
               clear BK454
               have BK454 := z_
               clear z_
               have z_ := Aside0.mk (blk_below BK455.out hs_)
               clear BK455
               have BK455 := z_
               clear z_
               (try clear hcz454_0)
               (try clear hcz455_0)
               (try clear hcz455_1)
               (try clear hcz455_2)
               have z_ := Aside0.mk (advB HB.out hs_)
               clear HB
               have HB := z_
               clear z_
               have HZ73 := Aside0.mk (below_size hs_)
               clear hs_ hb
               have HO468 := zHO468
               clear zHO468
               obtain ⟨Ao75, co76, eo77⟩ := slice_N HO468.out
               subst eo77
               refine hK.out _ _ ⟨(by first | exact (blk_cell BK454.out 0).trans rfl | exact (blk_cell (up_ BK454.out) 0).trans rfl), (by first | exact (blk_cell BK455.out 0).trans rfl | exact (blk_cell (up_ BK455.out) 0).trans rfl), (by first | exact (blk_cell BK455.out 1).trans rfl | exact (blk_cell (up_ BK455.out) 1).trans rfl), (by first | exact (blk_cell BK455.out 2).trans rfl | exact (blk_cell (up_ BK455.out) 2).trans rfl)⟩ (fun hHeld => ?_)
               clear hK K
               refine nm_ ?_
               refine pu_ 5 (some 27) ?_
               refine pu_ 6 (some 33) ?_
               refine pu_ 7 (some 34) ?_
               refine pu_ 8 (some 6) ?_
               refine pu_ 9 (some 7) ?_
               refine done_ (by kernel_rfl) ?_
               have hcz454_0 := c1_ BK454
               go_wp2_with (first | ((with_reducible refine gc_ 57 ?_); refine goesL_ (some 36) rfl rfl Try.func57 (by kernel_rfl) rfl #[.agg #[.slice A0_0 l0_0.length c0_0]] rfl (by (try simp only [List.map_toArray, List.map_cons, List.map_nil]); first | done | rfl) ?_; (with_reducible refine (laws_toWord.calls k _ _ l0_0 t470 _ (Kd.C_below HR0_0.out (up_ HB.out)) HC0_0.out E22.out).mono ?_); rintro e w78 ⟨v471, rfl, ho0, hb⟩; refine ⟨_, rfl, ?_⟩; have hs_ := adv (wl := w72) (tow_) hb; obtain ⟨P80, hp_, hq_⟩ := made_R (wl := w72) (base := w.heap.size) (tow_) (below_size HB.out) ho0; have HP80 := Aside0.mk hp_; have zHO472 := Aside0.mk hq_; clear hp_ hq_ ho0; have z_ := Aside0.mk (Kd.R_below HO460.out hs_); clear HO460; have HO460 := z_; clear z_; have z_ := Aside0.mk (Kd.R_below HO464.out hs_); clear HO464; have HO464 := z_; clear z_; have z_ := Aside0.mk (Kd.N_below HO468.out hs_); clear HO468; have HO468 := z_; clear z_; have z_ := Aside0.mk (blk_below BK454.out hs_); clear BK454; have BK454 := z_; clear z_; have z_ := Aside0.mk (blk_below BK455.out hs_); clear BK455; have BK455 := z_; clear z_; (try clear hcz454_0); (try clear hcz455_0); (try clear hcz455_1); (try clear hcz455_2); have z_ := Aside0.mk (advB HB.out hs_); clear HB; have HB := z_; clear z_; have HZ79 := Aside0.mk (below_size hs_); clear hs_ hb; have HO472 := zHO472; clear zHO472; obtain ⟨Ao81, co82, eo83⟩ := slice_R HO472.out; subst eo83) | ((with_reducible refine gd_ 8 ?_); refine bx_ 8 #[.slice none 0 0] 86 ?_; intro gb473 hg_ w84 hbox_ hb; have hs_ := adv (wl := w78) (tow_) hb; have BK473 := Aside0.mk hbox_; have HPB473 := Aside0.mk (boxIn (wl := w78) (tow_) hg_ hbox_); (try clear hcz454_0); (try clear hcz455_0); (try clear hcz455_1); (try clear hcz455_2); have z_ := Aside0.mk (Kd.R_below HO460.out hs_); clear HO460; have HO460 := z_; clear z_; have z_ := Aside0.mk (Kd.R_below HO464.out hs_); clear HO464; have HO464 := z_; clear z_; have z_ := Aside0.mk (Kd.N_below HO468.out hs_); clear HO468; have HO468 := z_; clear z_; have z_ := Aside0.mk (Kd.R_below HO472.out hs_); clear HO472; have HO472 := z_; clear z_; have z_ := Aside0.mk (blk_below BK454.out hs_); clear BK454; have BK454 := z_; clear z_; have z_ := Aside0.mk (blk_below BK455.out hs_); clear BK455; have BK455 := z_; clear z_; have z_ := Aside0.mk (advB HB.out hs_); clear HB; have HB := z_; clear z_; have HZ85 := Aside0.mk (below_size hs_); clear hs_ hb hg_ hbox_; have hcz473_0 := c1_ BK473; have hfz473_0 := blk_frozen BK473.out 0) | ((with_reducible refine gate_store (t := 86) (p := 8) rfl ?_); refine store_event (t := 86) (p := 8) (v := ?vo_w86) (w1 := (w84.setCell ⟨gb473, 0, none⟩ (.slice Ao81 t470.length co82))) ?hg ?ho ?hn ?hr ?_; (case ho => rfl); (case hg => rfl); (case hn => rfl); (case hr => first | (go_simp; done) | (go_simp; rfl)); intro w86 hw_; have hk_ : Kept w84 w86 (fun k => k = gb473) := keq (kset (Kept.refl w84 (fun k => k = gb473)) gb473 0 (.slice Ao81 t470.length co82) rfl) hw_; (try clear hcz454_0); (try clear hcz455_0); (try clear hcz455_1); (try clear hcz455_2); (try clear hcz473_0); (try clear hfz473_0); have z_ := Aside0.mk (Kd.R_kept HO460.out hk_ (fun k_ h1_ h2_ => apart_ (Nat.le_trans HZ67.out <| Nat.le_trans HZ73.out <| HZ79.out) (HP62.out k_ h1_).2.1 (HPB473.out k_ h2_).1)); clear HO460; have HO460 := z_; clear z_; have z_ := Aside0.mk (Kd.R_kept HO464.out hk_ (fun k_ h1_ h2_ => apart_ (Nat.le_trans HZ73.out <| HZ79.out) (HP68.out k_ h1_).2.1 (HPB473.out k_ h2_).1)); clear HO464; have HO464 := z_; clear z_; have z_ := Aside0.mk (Kd.N_kept HO468.out hk_ (fun k_ h1_ h2_ => apart_ (HZ79.out) (HP74.out k_ h1_).2.1 (HPB473.out k_ h2_).1)); clear HO468; have HO468 := z_; clear z_; have z_ := Aside0.mk (Kd.R_kept HO472.out hk_ (fun k_ h1_ h2_ => apart_ (Nat.le_refl _) (HP80.out k_ h1_).2.1 (HPB473.out k_ h2_).1)); clear HO472; have HO472 := z_; clear z_; have z_ := Aside0.mk (blk_kept BK454.out hk_ (fun he_ => (fun k_ h1_ h2_ => apart_ (Nat.le_trans HZ55.out <| Nat.le_trans HZ57.out <| Nat.le_trans HZ59.out <| Nat.le_trans HZ61.out <| Nat.le_trans HZ67.out <| Nat.le_trans HZ73.out <| HZ79.out) (HPB454.out k_ h1_).2.1 (HPB473.out k_ h2_).1) gb454 rfl he_)); clear BK454; have BK454 := z_; clear z_; have z_ := Aside0.mk (blk_kept BK455.out hk_ (fun he_ => (fun k_ h1_ h2_ => apart_ (Nat.le_trans HZ57.out <| Nat.le_trans HZ59.out <| Nat.le_trans HZ61.out <| Nat.le_trans HZ67.out <| Nat.le_trans HZ73.out <| HZ79.out) (HPB455.out k_ h1_).2.1 (HPB473.out k_ h2_).1) gb455 rfl he_)); clear BK455; have BK455 := z_; clear z_; have z_ := Aside0.mk (show w86.heap[gb473]? = some (.cells #[.slice Ao81 t470.length co82] 86 (0, 0)) from (by rw [hw_]; exact (blk_put (cs' := #[.slice Ao81 t470.length co82]) (BK473.out) 0 (.slice Ao81 t470.length co82) rfl))); clear BK473; have BK473 := z_; clear z_; have z_ := Aside0.mk (show Below w.heap.size w w86 from (by rw [hw_]; exact bset (HB.out) gb473 0 (.slice Ao81 t470.length co82) (Nat.le_trans (Nat.le_trans HZ53.out <| Nat.le_trans HZ55.out <| Nat.le_trans HZ57.out <| Nat.le_trans HZ59.out <| Nat.le_trans HZ61.out <| Nat.le_trans HZ67.out <| Nat.le_trans HZ73.out <| HZ79.out) (HPB473.out gb473 rfl).1))); clear HB; have HB := z_; clear z_; have HZ87 := Aside0.mk hk_.1; clear hk_ hw_; obtain ⟨hcz455_0, hcz455_1, hcz455_2⟩ := c3_ BK455) | ((with_reducible refine gc_ 58 ?_); refine goesL_ (some 38) rfl rfl Try.func58 (by kernel_rfl) rfl #[.agg #[.int .i64 a1_0, .slice A1_1 l1_1.length c1_1, .int .i64 a1_2]] rfl (by (try simp only [List.map_toArray, List.map_cons, List.map_nil]); first | done | rfl) ?_; (with_reducible refine (laws_toFooting.calls k a1_0 _ _ l1_1 a1_2 t474 t475 t478 _ (Kd.C_below HR1_1.out (up_ HB.out)) HC1_1.out E23.out).mono ?_); rintro e w88 ⟨v476, rfl, ho0, hb⟩; refine ⟨_, rfl, ?_⟩; have hs_ := adv (wl := w86) (tow_) hb; obtain ⟨P90, hp_, hq_⟩ := made_R (wl := w86) (base := w.heap.size) (tow_) (below_size HB.out) ho0; have HP90 := Aside0.mk hp_; have zHO477 := Aside0.mk hq_; clear hp_ hq_ ho0; have z_ := Aside0.mk (Kd.R_below HO460.out hs_); clear HO460; have HO460 := z_; clear z_; have z_ := Aside0.mk (Kd.R_below HO464.out hs_); clear HO464; have HO464 := z_; clear z_; have z_ := Aside0.mk (Kd.N_below HO468.out hs_); clear HO468; have HO468 := z_; clear z_; have z_ := Aside0.mk (Kd.R_below HO472.out hs_); clear HO472; have HO472 := z_; clear z_; have z_ := Aside0.mk (blk_below BK454.out hs_); clear BK454; have BK454 := z_; clear z_; have z_ := Aside0.mk (blk_below BK455.out hs_); clear BK455; have BK455 := z_; clear z_; have z_ := Aside0.mk (blk_below BK473.out hs_); clear BK473; have BK473 := z_; clear z_; (try clear hcz454_0); (try clear hcz455_0); (try clear hcz455_1); (try clear hcz455_2); (try clear hcz473_0); have z_ := Aside0.mk (advB HB.out hs_); clear HB; have HB := z_; clear z_; have HZ89 := Aside0.mk (below_size hs_); clear hs_ hb; have HO477 := zHO477; clear zHO477; obtain ⟨Ao91, co92, eo93⟩ := slice_R HO477.out; subst eo93) | ((with_reducible refine gd_ 9 ?_); refine bx_ 9 #[.int .i64 0, .slice none 0 0, .int .i64 0] 90 ?_; intro gb479 hg_ w94 hbox_ hb; have hs_ := adv (wl := w88) (tow_) hb; have BK479 := Aside0.mk hbox_; have HPB479 := Aside0.mk (boxIn (wl := w88) (tow_) hg_ hbox_); (try clear hcz454_0); (try clear hcz455_0); (try clear hcz455_1); (try clear hcz455_2); (try clear hcz473_0); have z_ := Aside0.mk (Kd.R_below HO460.out hs_); clear HO460; have HO460 := z_; clear z_; have z_ := Aside0.mk (Kd.R_below HO464.out hs_); clear HO464; have HO464 := z_; clear z_; have z_ := Aside0.mk (Kd.N_below HO468.out hs_); clear HO468; have HO468 := z_; clear z_; have z_ := Aside0.mk (Kd.R_below HO472.out hs_); clear HO472; have HO472 := z_; clear z_; have z_ := Aside0.mk (Kd.R_below HO477.out hs_); clear HO477; have HO477 := z_; clear z_; have z_ := Aside0.mk (blk_below BK454.out hs_); clear BK454; have BK454 := z_; clear z_; have z_ := Aside0.mk (blk_below BK455.out hs_); clear BK455; have BK455 := z_; clear z_; have z_ := Aside0.mk (blk_below BK473.out hs_); clear BK473; have BK473 := z_; clear z_; have z_ := Aside0.mk (advB HB.out hs_); clear HB; have HB := z_; clear z_; have HZ95 := Aside0.mk (below_size hs_); clear hs_ hb hg_ hbox_; obtain ⟨hcz479_0, hcz479_1, hcz479_2⟩ := c3_ BK479; have hfz479_0 := blk_frozen BK479.out 0; have hfz479_1 := blk_frozen BK479.out 1; have hfz479_2 := blk_frozen BK479.out 2) | ((with_reducible refine gate_store (t := 90) (p := 9) rfl ?_); refine store_event (t := 90) (p := 9) (v := ?vo_w96) (w1 := (((w94.setCell ⟨gb479, 0, none⟩ (.int .i64 t474)).setCell ⟨gb479, 1, none⟩ (.slice Ao91 t475.length co92)).setCell ⟨gb479, 2, none⟩ (.int .i64 t478))) ?hg ?ho ?hn ?hr ?_; (case ho => rfl); (case hg => rfl); (case hn => rfl); (case hr => first | (go_simp; done) | (go_simp; rfl)); intro w96 hw_; have hk_ : Kept w94 w96 (fun k => k = gb479) := keq (kset (kset (kset (Kept.refl w94 (fun k => k = gb479)) gb479 0 (.int .i64 t474) rfl) gb479 1 (.slice Ao91 t475.length co92) rfl) gb479 2 (.int .i64 t478) rfl) hw_; (try clear hcz454_0); (try clear hcz455_0); (try clear hcz455_1); (try clear hcz455_2); (try clear hcz473_0); (try clear hcz479_0); (try clear hcz479_1); (try clear hcz479_2); (try clear hfz479_0); (try clear hfz479_1); (try clear hfz479_2); have z_ := Aside0.mk (Kd.R_kept HO460.out hk_ (fun k_ h1_ h2_ => apart_ (Nat.le_trans HZ67.out <| Nat.le_trans HZ73.out <| Nat.le_trans HZ79.out <| Nat.le_trans HZ85.out <| Nat.le_trans HZ87.out <| HZ89.out) (HP62.out k_ h1_).2.1 (HPB479.out k_ h2_).1)); clear HO460; have HO460 := z_; clear z_; have z_ := Aside0.mk (Kd.R_kept HO464.out hk_ (fun k_ h1_ h2_ => apart_ (Nat.le_trans HZ73.out <| Nat.le_trans HZ79.out <| Nat.le_trans HZ85.out <| Nat.le_trans HZ87.out <| HZ89.out) (HP68.out k_ h1_).2.1 (HPB479.out k_ h2_).1)); clear HO464; have HO464 := z_; clear z_; have z_ := Aside0.mk (Kd.N_kept HO468.out hk_ (fun k_ h1_ h2_ => apart_ (Nat.le_trans HZ79.out <| Nat.le_trans HZ85.out <| Nat.le_trans HZ87.out <| HZ89.out) (HP74.out k_ h1_).2.1 (HPB479.out k_ h2_).1)); clear HO468; have HO468 := z_; clear z_; have z_ := Aside0.mk (Kd.R_kept HO472.out hk_ (fun k_ h1_ h2_ => apart_ (Nat.le_trans HZ85.out <| Nat.le_trans HZ87.out <| HZ89.out) (HP80.out k_ h1_).2.1 (HPB479.out k_ h2_).1)); clear HO472; have HO472 := z_; clear z_; have z_ := Aside0.mk (Kd.R_kept HO477.out hk_ (fun k_ h1_ h2_ => apart_ (Nat.le_refl _) (HP90.out k_ h1_).2.1 (HPB479.out k_ h2_).1)); clear HO477; have HO477 := z_; clear z_; have z_ := Aside0.mk (blk_kept BK454.out hk_ (fun he_ => (fun k_ h1_ h2_ => apart_ (Nat.le_trans HZ55.out <| Nat.le_trans HZ57.out <| Nat.le_trans HZ59.out <| Nat.le_trans HZ61.out <| Nat.le_trans HZ67.out <| Nat.le_trans HZ73.out <| Nat.le_trans HZ79.out <| Nat.le_trans HZ85.out <| Nat.le_trans HZ87.out <| HZ89.out) (HPB454.out k_ h1_).2.1 (HPB479.out k_ h2_).1) gb454 rfl he_)); clear BK454; have BK454 := z_; clear z_; have z_ := Aside0.mk (blk_kept BK455.out hk_ (fun he_ => (fun k_ h1_ h2_ => apart_ (Nat.le_trans HZ57.out <| Nat.le_trans HZ59.out <| Nat.le_trans HZ61.out <| Nat.le_trans HZ67.out <| Nat.le_trans HZ73.out <| Nat.le_trans HZ79.out <| Nat.le_trans HZ85.out <| Nat.le_trans HZ87.out <| HZ89.out) (HPB455.out k_ h1_).2.1 (HPB479.out k_ h2_).1) gb455 rfl he_)); clear BK455; have BK455 := z_; clear z_; have z_ := Aside0.mk (blk_kept BK473.out hk_ (fun he_ => (fun k_ h1_ h2_ => apart_ (Nat.le_trans HZ87.out <| HZ89.out) (HPB473.out k_ h1_).2.1 (HPB479.out k_ h2_).1) gb473 rfl he_)); clear BK473; have BK473 := z_; clear z_; have z_ := Aside0.mk (show w96.heap[gb479]? = some (.cells #[.int .i64 t474, .slice Ao91 t475.length co92, .int .i64 t478] 90 (0, 0)) from (by rw [hw_]; exact (blk_put (cs' := #[.int .i64 t474, .slice Ao91 t475.length co92, .int .i64 t478]) ((blk_put (cs' := #[.int .i64 t474, .slice Ao91 t475.length co92, .int .i64 0]) ((blk_put (cs' := #[.int .i64 t474, .slice none 0 0, .int .i64 0]) (BK479.out) 0 (.int .i64 t474) rfl)) 1 (.slice Ao91 t475.length co92) rfl)) 2 (.int .i64 t478) rfl))); clear BK479; have BK479 := z_; clear z_; have z_ := Aside0.mk (show Below w.heap.size w w96 from (by rw [hw_]; exact bset (bset (bset (HB.out) gb479 0 (.int .i64 t474) (Nat.le_trans (Nat.le_trans HZ53.out <| Nat.le_trans HZ55.out <| Nat.le_trans HZ57.out <| Nat.le_trans HZ59.out <| Nat.le_trans HZ61.out <| Nat.le_trans HZ67.out <| Nat.le_trans HZ73.out <| Nat.le_trans HZ79.out <| Nat.le_trans HZ85.out <| Nat.le_trans HZ87.out <| HZ89.out) (HPB479.out gb479 rfl).1)) gb479 1 (.slice Ao91 t475.length co92) (Nat.le_trans (Nat.le_trans HZ53.out <| Nat.le_trans HZ55.out <| Nat.le_trans HZ57.out <| Nat.le_trans HZ59.out <| Nat.le_trans HZ61.out <| Nat.le_trans HZ67.out <| Nat.le_trans HZ73.out <| Nat.le_trans HZ79.out <| Nat.le_trans HZ85.out <| Nat.le_trans HZ87.out <| HZ89.out) (HPB479.out gb479 rfl).1)) gb479 2 (.int .i64 t478) (Nat.le_trans (Nat.le_trans HZ53.out <| Nat.le_trans HZ55.out <| Nat.le_trans HZ57.out <| Nat.le_trans HZ59.out <| Nat.le_trans HZ61.out <| Nat.le_trans HZ67.out <| Nat.le_trans HZ73.out <| Nat.le_trans HZ79.out <| Nat.le_trans HZ85.out <| Nat.le_trans HZ87.out <| HZ89.out) (HPB479.out gb479 rfl).1))); clear HB; have HB := z_; clear z_; have HZ97 := Aside0.mk hk_.1; clear hk_ hw_; have hcz473_0 := c1_ BK473; obtain ⟨hcz479_0, hcz479_1, hcz479_2⟩ := c3_ BK479) | ((with_reducible refine gc_ 59 ?_); refine goesL_ (some 42) rfl rfl Try.func59 (by kernel_rfl) rfl #[.agg #[.slice Ao81 t470.length co82], .agg #[.int .i64 t474, .slice Ao91 t475.length co92, .int .i64 t478]] rfl (by (try simp only [List.map_toArray, List.map_cons, List.map_nil]); first | done | rfl) ?_; (with_reducible refine (impl_FootRows.calls k _ _ t470 t474 _ _ t475 t478 t480 t483 _ ?side1 ?side2 ?side3 ?side4 E24.out).mono ?_); (case side1 => repeat (first | exact (Kd.R_reads' HO472.out).2.2 | (with_reducible refine Kd.C_alloc ?_ _) | (with_reducible refine Kd.C_drewN ?_ _) | (with_reducible refine Kd.C_drew ?_))); (case side2 => exact (Kd.R_reads' HO472.out).2.1); (case side3 => repeat (first | exact (Kd.R_reads' HO477.out).2.2 | (with_reducible refine Kd.C_alloc ?_ _) | (with_reducible refine Kd.C_drewN ?_ _) | (with_reducible refine Kd.C_drew ?_))); (case side4 => exact (Kd.R_reads' HO477.out).2.1); rintro e w98 ⟨v481, rfl, ho0, hb⟩; refine ⟨_, rfl, ?_⟩; have hs_ := adv (wl := w96) (tow_) hb; obtain ⟨P100, hp_, hq_⟩ := made_S (wl := w96) (base := w.heap.size) (tow_) (below_size HB.out) ho0; have HP100 := Aside0.mk hp_; have zHO482 := Aside0.mk hq_; clear hp_ hq_ ho0; have z_ := Aside0.mk (Kd.R_below HO460.out hs_); clear HO460; have HO460 := z_; clear z_; have z_ := Aside0.mk (Kd.R_below HO464.out hs_); clear HO464; have HO464 := z_; clear z_; have z_ := Aside0.mk (Kd.N_below HO468.out hs_); clear HO468; have HO468 := z_; clear z_; have z_ := Aside0.mk (Kd.R_below HO472.out hs_); clear HO472; have HO472 := z_; clear z_; have z_ := Aside0.mk (Kd.R_below HO477.out hs_); clear HO477; have HO477 := z_; clear z_; have z_ := Aside0.mk (blk_below BK454.out hs_); clear BK454; have BK454 := z_; clear z_; have z_ := Aside0.mk (blk_below BK455.out hs_); clear BK455; have BK455 := z_; clear z_; have z_ := Aside0.mk (blk_below BK473.out hs_); clear BK473; have BK473 := z_; clear z_; have z_ := Aside0.mk (blk_below BK479.out hs_); clear BK479; have BK479 := z_; clear z_; (try clear hcz454_0); (try clear hcz455_0); (try clear hcz455_1); (try clear hcz455_2); (try clear hcz473_0); (try clear hcz479_0); (try clear hcz479_1); (try clear hcz479_2); have z_ := Aside0.mk (advB HB.out hs_); clear HB; have HB := z_; clear z_; have HZ99 := Aside0.mk (below_size hs_); clear hs_ hb; have HO482 := zHO482; clear zHO482; obtain ⟨Ao101, co102, eo103⟩ := slice_S HO482.out; subst eo103) | ((with_reducible refine gc_ 27 ?_); refine goesL_ (some 47) rfl rfl Try.func27 (by kernel_rfl) rfl #[.slice Ao101 t480.length co102, .slice Ao75 t466.length co76] rfl (by (try simp only [List.map_toArray, List.map_cons, List.map_nil]); first | done | rfl) ?_; (with_reducible refine (laws_eqRowS.calls k _ _ t480 _ _ t466 true _ ?side1 ?side2 ?side3 ?side4 E25.out).mono ?_); (case side1 => repeat (first | exact (Kd.S_reads' HO482.out).2.2 | (with_reducible refine Kd.C_alloc ?_ _) | (with_reducible refine Kd.C_drewN ?_ _) | (with_reducible refine Kd.C_drew ?_))); (case side2 => exact (Kd.S_reads' HO482.out).2.1); (case side3 => repeat (first | exact (Kd.N_reads' HO468.out).2.2 | (with_reducible refine Kd.C_alloc ?_ _) | (with_reducible refine Kd.C_drewN ?_ _) | (with_reducible refine Kd.C_drew ?_))); (case side4 => exact (Kd.N_reads' HO468.out).2.1); rintro e w104 ⟨rfl, hb⟩; refine ⟨_, rfl, ?_⟩; have hs_ := adv (wl := w98) (tow_) hb; have z_ := Aside0.mk (Kd.R_below HO460.out hs_); clear HO460; have HO460 := z_; clear z_; have z_ := Aside0.mk (Kd.R_below HO464.out hs_); clear HO464; have HO464 := z_; clear z_; have z_ := Aside0.mk (Kd.N_below HO468.out hs_); clear HO468; have HO468 := z_; clear z_; have z_ := Aside0.mk (Kd.R_below HO472.out hs_); clear HO472; have HO472 := z_; clear z_; have z_ := Aside0.mk (Kd.R_below HO477.out hs_); clear HO477; have HO477 := z_; clear z_; have z_ := Aside0.mk (Kd.S_below HO482.out hs_); clear HO482; have HO482 := z_; clear z_; have z_ := Aside0.mk (blk_below BK454.out hs_); clear BK454; have BK454 := z_; clear z_; have z_ := Aside0.mk (blk_below BK455.out hs_); clear BK455; have BK455 := z_; clear z_; have z_ := Aside0.mk (blk_below BK473.out hs_); clear BK473; have BK473 := z_; clear z_; have z_ := Aside0.mk (blk_below BK479.out hs_); clear BK479; have BK479 := z_; clear z_; (try clear hcz454_0); (try clear hcz455_0); (try clear hcz455_1); (try clear hcz455_2); (try clear hcz473_0); (try clear hcz479_0); (try clear hcz479_1); (try clear hcz479_2); have z_ := Aside0.mk (advB HB.out hs_); clear HB; have HB := z_; clear z_; have HZ105 := Aside0.mk (below_size hs_); clear hs_ hb; have hcz473_0 := c1_ BK473; have hcz454_0 := c1_ BK454))
               refine start_ (n := 5) (S := fun w' => w'.cell? ⟨gb473, 0, none⟩ = some (.slice Ao81 t470.length co82) ∧ w'.cell? ⟨gb454, 0, none⟩ = some (.slice A0_0 l0_0.length c0_0)) (ds := []) #[false, false, false, false, false] (by kernel_rfl) rfl rfl ⟨(by first | exact (blk_cell BK473.out 0).trans rfl | exact (blk_cell (up_ BK473.out) 0).trans rfl), (by first | exact (blk_cell BK454.out 0).trans rfl | exact (blk_cell (up_ BK454.out) 0).trans rfl)⟩ (fun hHeld => ?_)
               refine tk_ 0 (some 54) hHeld ?_
               refine tk_ 1 (some 55) hHeld ?_
               refine on_ 2 (some 56) (fun K hK => ?_)
               refine goes_ Try.func57 (by kernel_rfl) rfl #[.agg #[.slice A0_0 l0_0.length c0_0]] (by rfl) rfl rfl am_ ?_
               (with_reducible refine (laws_toWord.calls k _ _ l0_0 t485 _ ?side1 ?side2 E28.out).mono ?_)
               (case side1 => exact Kd.C_below HR0_0.out (up_ HB.out))
               (case side2 => exact HC0_0.out)
               rintro e w106 ⟨v486, rfl, ho0, hb⟩
               refine ⟨_, rfl, ?_⟩
               have hs_ := adv (wl := w104) (tow_) hb
               obtain ⟨P108, hp_, hq_⟩ := made_R (wl := w104) (base := w.heap.size) (tow_) (below_size HB.out) ho0
               have HP108 := Aside0.mk hp_
               have zHO487 := Aside0.mk hq_
               clear hp_ hq_ ho0
               have z_ := Aside0.mk (Kd.R_below HO460.out hs_)
               clear HO460
               have HO460 := z_
               clear z_
               have z_ := Aside0.mk (Kd.R_below HO464.out hs_)
               clear HO464
               have HO464 := z_
               clear z_
               have z_ := Aside0.mk (Kd.N_below HO468.out hs_)
               clear HO468
               have HO468 := z_
               clear z_
               have z_ := Aside0.mk (Kd.R_below HO472.out hs_)
               clear HO472
               have HO472 := z_
               clear z_
               have z_ := Aside0.mk (Kd.R_below HO477.out hs_)
               clear HO477
               have HO477 := z_
               clear z_
               have z_ := Aside0.mk (Kd.S_below HO482.out hs_)
               clear HO482
               have HO482 := z_
               clear z_
               have z_ := Aside0.mk (blk_below BK454.out hs_)
               clear BK454
               have BK454 := z_
               clear z_
               have z_ := Aside0.mk (blk_below BK455.out hs_)
               clear BK455
               have BK455 := z_
               clear z_
               have z_ := Aside0.mk (blk_below BK473.out hs_)
               clear BK473
               have BK473 := z_
               clear z_
               have z_ := Aside0.mk (blk_below BK479.out hs_)
               clear BK479
               have BK479 := z_
               clear z_
               (try clear hcz454_0)
               (try clear hcz455_0)
               (try clear hcz455_1)
               (try clear hcz455_2)
               (try clear hcz473_0)
               (try clear hcz479_0)
               (try clear hcz479_1)
               (try clear hcz479_2)
               have z_ := Aside0.mk (advB HB.out hs_)
               clear HB
               have HB := z_
               clear z_
               have HZ107 := Aside0.mk (below_size hs_)
               clear hs_ hb
               have HO487 := zHO487
               clear zHO487
               obtain ⟨Ao109, co110, eo111⟩ := slice_R HO487.out
               subst eo111
               refine hK.out _ _ ⟨(by first | exact (blk_cell BK473.out 0).trans rfl | exact (blk_cell (up_ BK473.out) 0).trans rfl), (by first | exact (blk_cell BK454.out 0).trans rfl | exact (blk_cell (up_ BK454.out) 0).trans rfl)⟩ (fun hHeld => ?_)
               clear hK K
               refine nm_ ?_
               refine on_ 3 (some 57) (fun K hK => ?_)
               refine goes_ Try.func60 (by kernel_rfl) rfl #[.agg #[.slice Ao81 t470.length co82], .agg #[.slice Ao109 t485.length co110]] (by rfl) rfl rfl am_ ?_
               (with_reducible refine (laws_eqWord.calls k _ _ t470 _ _ t485 true _ ?side1 ?side2 ?side3 ?side4 E29.out).mono ?_)
               (case side1 => repeat (first | exact (Kd.R_reads' HO472.out).2.2 | (with_reducible refine Kd.C_alloc ?_ _) | (with_reducible refine Kd.C_drewN ?_ _) | (with_reducible refine Kd.C_drew ?_)))
               (case side2 => exact (Kd.R_reads' HO472.out).2.1)
               (case side3 => repeat (first | exact (Kd.R_reads' HO487.out).2.2 | (with_reducible refine Kd.C_alloc ?_ _) | (with_reducible refine Kd.C_drewN ?_ _) | (with_reducible refine Kd.C_drew ?_)))
               (case side4 => exact (Kd.R_reads' HO487.out).2.1)
               rintro e w112 ⟨rfl, hb⟩
               refine ⟨_, rfl, ?_⟩
               have hs_ := adv (wl := w106) (tow_) hb
               have z_ := Aside0.mk (Kd.R_below HO460.out hs_)
               clear HO460
               have HO460 := z_
               clear z_
               have z_ := Aside0.mk (Kd.R_below HO464.out hs_)
               clear HO464
               have HO464 := z_
               clear z_
               have z_ := Aside0.mk (Kd.N_below HO468.out hs_)
               clear HO468
               have HO468 := z_
               clear z_
               have z_ := Aside0.mk (Kd.R_below HO472.out hs_)
               clear HO472
               have HO472 := z_
               clear z_
               have z_ := Aside0.mk (Kd.R_below HO477.out hs_)
               clear HO477
               have HO477 := z_
               clear z_
               have z_ := Aside0.mk (Kd.S_below HO482.out hs_)
               clear HO482
               have HO482 := z_
               clear z_
               have z_ := Aside0.mk (Kd.R_below HO487.out hs_)
               clear HO487
               have HO487 := z_
               clear z_
               have z_ := Aside0.mk (blk_below BK454.out hs_)
               clear BK454
               have BK454 := z_
               clear z_
               have z_ := Aside0.mk (blk_below BK455.out hs_)
               clear BK455
               have BK455 := z_
               clear z_
               have z_ := Aside0.mk (blk_below BK473.out hs_)
               clear BK473
               have BK473 := z_
               clear z_
               have z_ := Aside0.mk (blk_below BK479.out hs_)
               clear BK479
               have BK479 := z_
               clear z_
               (try clear hcz454_0)
               (try clear hcz455_0)
               (try clear hcz455_1)
               (try clear hcz455_2)
               (try clear hcz473_0)
               (try clear hcz479_0)
               (try clear hcz479_1)
               (try clear hcz479_2)
               have z_ := Aside0.mk (advB HB.out hs_)
               clear HB
               have HB := z_
               clear z_
               have HZ113 := Aside0.mk (below_size hs_)
               clear hs_ hb
               refine hK.out _ _ ⟨(by first | exact (blk_cell BK473.out 0).trans rfl | exact (blk_cell (up_ BK473.out) 0).trans rfl), (by first | exact (blk_cell BK454.out 0).trans rfl | exact (blk_cell (up_ BK454.out) 0).trans rfl)⟩ (fun hHeld => ?_)
               clear hK K
               refine nm_ ?_
               refine pu_ 4 (some 58) ?_
               refine done_ (by kernel_rfl) ?_
               obtain ⟨hcz479_0, hcz479_1, hcz479_2⟩ := c3_ BK479
               obtain ⟨hcz455_0, hcz455_1, hcz455_2⟩ := c3_ BK455
               try go_wp2
               refine start_ (n := 5) (S := fun w' => w'.cell? ⟨gb479, 0, none⟩ = some (.int .i64 t474) ∧ w'.cell? ⟨gb479, 1, none⟩ = some (.slice Ao91 t475.length co92) ∧ w'.cell? ⟨gb479, 2, none⟩ = some (.int .i64 t478) ∧ w'.cell? ⟨gb455, 0, none⟩ = some (.int .i64 a1_0) ∧ w'.cell? ⟨gb455, 1, none⟩ = some (.slice A1_1 l1_1.length c1_1) ∧ w'.cell? ⟨gb455, 2, none⟩ = some (.int .i64 a1_2)) (ds := []) #[false, false, false, false, false] (by kernel_rfl) rfl rfl ⟨(by first | exact (blk_cell BK479.out 0).trans rfl | exact (blk_cell (up_ BK479.out) 0).trans rfl), (by first | exact (blk_cell BK479.out 1).trans rfl | exact (blk_cell (up_ BK479.out) 1).trans rfl), (by first | exact (blk_cell BK479.out 2).trans rfl | exact (blk_cell (up_ BK479.out) 2).trans rfl), (by first | exact (blk_cell BK455.out 0).trans rfl | exact (blk_cell (up_ BK455.out) 0).trans rfl), (by first | exact (blk_cell BK455.out 1).trans rfl | exact (blk_cell (up_ BK455.out) 1).trans rfl), (by first | exact (blk_cell BK455.out 2).trans rfl | exact (blk_cell (up_ BK455.out) 2).trans rfl)⟩ (fun hHeld => ?_)
               refine tk_ 0 (some 59) hHeld ?_
               refine tk_ 1 (some 60) hHeld ?_
               refine on_ 2 (some 61) (fun K hK => ?_)
               refine goes_ Try.func58 (by kernel_rfl) rfl #[.agg #[.int .i64 a1_0, .slice A1_1 l1_1.length c1_1, .int .i64 a1_2]] (by rfl) rfl rfl am_ ?_
               (with_reducible refine (laws_toFooting.calls k a1_0 _ _ l1_1 a1_2 t489 t490 t493 _ ?side1 ?side2 E31.out).mono ?_)
               (case side1 => exact Kd.C_below HR1_1.out (up_ HB.out))
               (case side2 => exact HC1_1.out)
               rintro e w114 ⟨v491, rfl, ho0, hb⟩
               refine ⟨_, rfl, ?_⟩
               have hs_ := adv (wl := w112) (tow_) hb
               obtain ⟨P116, hp_, hq_⟩ := made_R (wl := w112) (base := w.heap.size) (tow_) (below_size HB.out) ho0
               have HP116 := Aside0.mk hp_
               have zHO492 := Aside0.mk hq_
               clear hp_ hq_ ho0
               have z_ := Aside0.mk (Kd.R_below HO460.out hs_)
               clear HO460
               have HO460 := z_
               clear z_
               have z_ := Aside0.mk (Kd.R_below HO464.out hs_)
               clear HO464
               have HO464 := z_
               clear z_
               have z_ := Aside0.mk (Kd.N_below HO468.out hs_)
               clear HO468
               have HO468 := z_
               clear z_
               have z_ := Aside0.mk (Kd.R_below HO472.out hs_)
               clear HO472
               have HO472 := z_
               clear z_
               have z_ := Aside0.mk (Kd.R_below HO477.out hs_)
               clear HO477
               have HO477 := z_
               clear z_
               have z_ := Aside0.mk (Kd.S_below HO482.out hs_)
               clear HO482
               have HO482 := z_
               clear z_
               have z_ := Aside0.mk (Kd.R_below HO487.out hs_)
               clear HO487
               have HO487 := z_
               clear z_
               have z_ := Aside0.mk (blk_below BK454.out hs_)
               clear BK454
               have BK454 := z_
               clear z_
               have z_ := Aside0.mk (blk_below BK455.out hs_)
               clear BK455
               have BK455 := z_
               clear z_
               have z_ := Aside0.mk (blk_below BK473.out hs_)
               clear BK473
               have BK473 := z_
               clear z_
               have z_ := Aside0.mk (blk_below BK479.out hs_)
               clear BK479
               have BK479 := z_
               clear z_
               (try clear hcz454_0)
               (try clear hcz455_0)
               (try clear hcz455_1)
               (try clear hcz455_2)
               (try clear hcz473_0)
               (try clear hcz479_0)
               (try clear hcz479_1)
               (try clear hcz479_2)
               have z_ := Aside0.mk (advB HB.out hs_)
               clear HB
               have HB := z_
               clear z_
               have HZ115 := Aside0.mk (below_size hs_)
               clear hs_ hb
               have HO492 := zHO492
               clear zHO492
               obtain ⟨Ao117, co118, eo119⟩ := slice_R HO492.out
               subst eo119
               refine hK.out _ _ ⟨(by first | exact (blk_cell BK479.out 0).trans rfl | exact (blk_cell (up_ BK479.out) 0).trans rfl), (by first | exact (blk_cell BK479.out 1).trans rfl | exact (blk_cell (up_ BK479.out) 1).trans rfl), (by first | exact (blk_cell BK479.out 2).trans rfl | exact (blk_cell (up_ BK479.out) 2).trans rfl), (by first | exact (blk_cell BK455.out 0).trans rfl | exact (blk_cell (up_ BK455.out) 0).trans rfl), (by first | exact (blk_cell BK455.out 1).trans rfl | exact (blk_cell (up_ BK455.out) 1).trans rfl), (by first | exact (blk_cell BK455.out 2).trans rfl | exact (blk_cell (up_ BK455.out) 2).trans rfl)⟩ (fun hHeld => ?_)
               clear hK K
               refine nm_ ?_
               refine on_ 3 (some 62) (fun K hK => ?_)
               refine goes_ Try.func61 (by kernel_rfl) rfl #[.agg #[.int .i64 t474, .slice Ao91 t475.length co92, .int .i64 t478], .agg #[.int .i64 t489, .slice Ao117 t490.length co118, .int .i64 t493]] (by rfl) rfl rfl am_ ?_
               (with_reducible refine (laws_eqFooting.calls k t474 _ _ t475 t478 t489 _ _ t490 t493 true _ ?side1 ?side2 ?side3 ?side4 E32.out).mono ?_)
               (case side1 => repeat (first | exact (Kd.R_reads' HO477.out).2.2 | (with_reducible refine Kd.C_alloc ?_ _) | (with_reducible refine Kd.C_drewN ?_ _) | (with_reducible refine Kd.C_drew ?_)))
               (case side2 => exact (Kd.R_reads' HO477.out).2.1)
               (case side3 => repeat (first | exact (Kd.R_reads' HO492.out).2.2 | (with_reducible refine Kd.C_alloc ?_ _) | (with_reducible refine Kd.C_drewN ?_ _) | (with_reducible refine Kd.C_drew ?_)))
               (case side4 => exact (Kd.R_reads' HO492.out).2.1)
               rintro e w120 ⟨rfl, hb⟩
               refine ⟨_, rfl, ?_⟩
               have hs_ := adv (wl := w114) (tow_) hb
               have z_ := Aside0.mk (Kd.R_below HO460.out hs_)
               clear HO460
               have HO460 := z_
               clear z_
               have z_ := Aside0.mk (Kd.R_below HO464.out hs_)
               clear HO464
               have HO464 := z_
               clear z_
               have z_ := Aside0.mk (Kd.N_below HO468.out hs_)
               clear HO468
               have HO468 := z_
               clear z_
               have z_ := Aside0.mk (Kd.R_below HO472.out hs_)
               clear HO472
               have HO472 := z_
               clear z_
               have z_ := Aside0.mk (Kd.R_below HO477.out hs_)
               clear HO477
               have HO477 := z_
               clear z_
               have z_ := Aside0.mk (Kd.S_below HO482.out hs_)
               clear HO482
               have HO482 := z_
               clear z_
               have z_ := Aside0.mk (Kd.R_below HO487.out hs_)
               clear HO487
               have HO487 := z_
               clear z_
               have z_ := Aside0.mk (Kd.R_below HO492.out hs_)
               clear HO492
               have HO492 := z_
               clear z_
               have z_ := Aside0.mk (blk_below BK454.out hs_)
               clear BK454
               have BK454 := z_
               clear z_
               have z_ := Aside0.mk (blk_below BK455.out hs_)
               clear BK455
               have BK455 := z_
               clear z_
               have z_ := Aside0.mk (blk_below BK473.out hs_)
               clear BK473
               have BK473 := z_
               clear z_
               have z_ := Aside0.mk (blk_below BK479.out hs_)
               clear BK479
               have BK479 := z_
               clear z_
               (try clear hcz454_0)
               (try clear hcz455_0)
               (try clear hcz455_1)
               (try clear hcz455_2)
               (try clear hcz473_0)
               (try clear hcz479_0)
               (try clear hcz479_1)
               (try clear hcz479_2)
               have z_ := Aside0.mk (advB HB.out hs_)
               clear HB
               have HB := z_
               clear z_
               have HZ121 := Aside0.mk (below_size hs_)
               clear hs_ hb
               refine hK.out _ _ ⟨(by first | exact (blk_cell BK479.out 0).trans rfl | exact (blk_cell (up_ BK479.out) 0).trans rfl), (by first | exact (blk_cell BK479.out 1).trans rfl | exact (blk_cell (up_ BK479.out) 1).trans rfl), (by first | exact (blk_cell BK479.out 2).trans rfl | exact (blk_cell (up_ BK479.out) 2).trans rfl), (by first | exact (blk_cell BK455.out 0).trans rfl | exact (blk_cell (up_ BK455.out) 0).trans rfl), (by first | exact (blk_cell BK455.out 1).trans rfl | exact (blk_cell (up_ BK455.out) 1).trans rfl), (by first | exact (blk_cell BK455.out 2).trans rfl | exact (blk_cell (up_ BK455.out) 2).trans rfl)⟩ (fun hHeld => ?_)
               clear hK K
               refine nm_ ?_
               refine pu_ 4 (some 63) ?_
               refine done_ (by kernel_rfl) ?_
               have hcz473_0 := c1_ BK473
               go_wp2_with (first | ((with_reducible refine gc_ 62 ?_); refine goesL_ (some 66) rfl rfl Try.func62 (by kernel_rfl) rfl #[.agg #[.slice Ao81 t470.length co82], .int .i64 1] rfl (by (try simp only [List.map_toArray, List.map_cons, List.map_nil]); first | done | rfl) ?_; (with_reducible refine (laws_markWord.calls k P80 _ t470 1 t495 t496 w _ ?side1 ?side2 E34.out).mono ?_); (case side1 => exact advB HB.out (tow_)); (case side2 => exact Kd.R_below HO472.out (tow_)); rintro e w122 ⟨rfl, hm_, hb2, hk⟩; refine ⟨_, rfl, ?_⟩; have hz_ := Aside0.mk (kept_le (wl := w120) (tow_) hk); have z_ := Aside0.mk (Kd.R_kept (Kd.R_below HO460.out (tow_)) hk (fun k_ h1_ h2_ => apart_ (Nat.le_trans HZ67.out <| HZ73.out) (HP62.out k_ h1_).2.1 (HP80.out k_ h2_).1)); clear HO460; have HO460 := z_; clear z_; have z_ := Aside0.mk (Kd.R_kept (Kd.R_below HO464.out (tow_)) hk (fun k_ h1_ h2_ => apart_ (HZ73.out) (HP68.out k_ h1_).2.1 (HP80.out k_ h2_).1)); clear HO464; have HO464 := z_; clear z_; have z_ := Aside0.mk (Kd.N_kept (Kd.N_below HO468.out (tow_)) hk (fun k_ h1_ h2_ => apart_ (Nat.le_refl _) (HP74.out k_ h1_).2.1 (HP80.out k_ h2_).1)); clear HO468; have HO468 := z_; clear z_; have z_ := Aside0.mk (Kd.R_kept (Kd.R_below HO477.out (tow_)) hk (fun k_ h1_ h2_ => apart_ (Nat.le_trans HZ85.out <| HZ87.out) (HP80.out k_ h2_).2.1 (HP90.out k_ h1_).1)); clear HO477; have HO477 := z_; clear z_; have z_ := Aside0.mk (Kd.S_kept (Kd.S_below HO482.out (tow_)) hk (fun k_ h1_ h2_ => apart_ (Nat.le_trans HZ85.out <| Nat.le_trans HZ87.out <| Nat.le_trans HZ89.out <| Nat.le_trans HZ95.out <| HZ97.out) (HP80.out k_ h2_).2.1 (HP100.out k_ h1_).1)); clear HO482; have HO482 := z_; clear z_; have z_ := Aside0.mk (Kd.R_kept (Kd.R_below HO487.out (tow_)) hk (fun k_ h1_ h2_ => apart_ (Nat.le_trans HZ85.out <| Nat.le_trans HZ87.out <| Nat.le_trans HZ89.out <| Nat.le_trans HZ95.out <| Nat.le_trans HZ97.out <| Nat.le_trans HZ99.out <| HZ105.out) (HP80.out k_ h2_).2.1 (HP108.out k_ h1_).1)); clear HO487; have HO487 := z_; clear z_; have z_ := Aside0.mk (Kd.R_kept (Kd.R_below HO492.out (tow_)) hk (fun k_ h1_ h2_ => apart_ (Nat.le_trans HZ85.out <| Nat.le_trans HZ87.out <| Nat.le_trans HZ89.out <| Nat.le_trans HZ95.out <| Nat.le_trans HZ97.out <| Nat.le_trans HZ99.out <| Nat.le_trans HZ105.out <| Nat.le_trans HZ107.out <| HZ113.out) (HP80.out k_ h2_).2.1 (HP116.out k_ h1_).1)); clear HO492; have HO492 := z_; clear z_; have z_ := Aside0.mk (blk_kept (blk_below BK454.out (tow_)) hk (fun hP_ => (fun k_ h1_ h2_ => apart_ (Nat.le_trans HZ55.out <| Nat.le_trans HZ57.out <| Nat.le_trans HZ59.out <| Nat.le_trans HZ61.out <| Nat.le_trans HZ67.out <| HZ73.out) (HPB454.out k_ h1_).2.1 (HP80.out k_ h2_).1) gb454 rfl hP_)); clear BK454; have BK454 := z_; clear z_; have z_ := Aside0.mk (blk_kept (blk_below BK455.out (tow_)) hk (fun hP_ => (fun k_ h1_ h2_ => apart_ (Nat.le_trans HZ57.out <| Nat.le_trans HZ59.out <| Nat.le_trans HZ61.out <| Nat.le_trans HZ67.out <| HZ73.out) (HPB455.out k_ h1_).2.1 (HP80.out k_ h2_).1) gb455 rfl hP_)); clear BK455; have BK455 := z_; clear z_; have z_ := Aside0.mk (blk_kept (blk_below BK473.out (tow_)) hk (fun hP_ => (fun k_ h1_ h2_ => apart_ (Nat.le_refl _) (HP80.out k_ h2_).2.1 (HPB473.out k_ h1_).1) gb473 rfl hP_)); clear BK473; have BK473 := z_; clear z_; have z_ := Aside0.mk (blk_kept (blk_below BK479.out (tow_)) hk (fun hP_ => (fun k_ h1_ h2_ => apart_ (Nat.le_trans HZ85.out <| Nat.le_trans HZ87.out <| HZ89.out) (HP80.out k_ h2_).2.1 (HPB479.out k_ h1_).1) gb479 rfl hP_)); clear BK479; have BK479 := z_; clear z_; (try clear hcz454_0); (try clear hcz455_0); (try clear hcz455_1); (try clear hcz455_2); (try clear hcz473_0); (try clear hcz479_0); (try clear hcz479_1); (try clear hcz479_2); have HZ123 := hz_; clear hz_; obtain ⟨P124, hp_, hq_⟩ := marked_R (lo := w72) (wl := w120) (tow_) (fun k_ hk_ => (HP80.out k_ hk_).1) (Nat.le_trans HZ79.out <| Nat.le_trans HZ85.out <| Nat.le_trans HZ87.out <| Nat.le_trans HZ89.out <| Nat.le_trans HZ95.out <| Nat.le_trans HZ97.out <| Nat.le_trans HZ99.out <| Nat.le_trans HZ105.out <| Nat.le_trans HZ107.out <| Nat.le_trans HZ113.out <| Nat.le_trans HZ115.out <| HZ121.out) hm_; have HP124 := Aside0.mk hp_; clear HO472; have HO472 := Aside0.mk hq_; clear hm_ hp_ hq_; have hl_ := (Kd.R_reads' HO472.out).1; rw [hl_] at HO472; (try rw [hl_]); (try rw [hl_] at BK473); clear hl_; clear hk; clear HB; have HB := Aside0.mk hb2; clear hb2; obtain ⟨hcz479_0, hcz479_1, hcz479_2⟩ := c3_ BK479) | ((with_reducible refine gc_ 63 ?_); refine goesL_ (some 69) rfl rfl Try.func63 (by kernel_rfl) rfl #[.agg #[.int .i64 t474, .slice Ao91 t475.length co92, .int .i64 t478], .int .i64 t495] rfl (by (try simp only [List.map_toArray, List.map_cons, List.map_nil]); first | done | rfl) ?_; (with_reducible refine (laws_markFooting.calls k t474 P90 _ t475 t478 t495 t497 t498 w _ ?side1 ?side2 E35.out).mono ?_); (case side1 => exact advB HB.out (tow_)); (case side2 => exact Kd.R_below HO477.out (tow_)); rintro e w125 ⟨rfl, hm_, hb2, hk⟩; refine ⟨_, rfl, ?_⟩; have hz_ := Aside0.mk (kept_le (wl := w122) (tow_) hk); have z_ := Aside0.mk (Kd.R_kept (Kd.R_below HO460.out (tow_)) hk (fun k_ h1_ h2_ => apart_ (Nat.le_trans HZ67.out <| Nat.le_trans HZ73.out <| Nat.le_trans HZ79.out <| Nat.le_trans HZ85.out <| HZ87.out) (HP62.out k_ h1_).2.1 (HP90.out k_ h2_).1)); clear HO460; have HO460 := z_; clear z_; have z_ := Aside0.mk (Kd.R_kept (Kd.R_below HO464.out (tow_)) hk (fun k_ h1_ h2_ => apart_ (Nat.le_trans HZ73.out <| Nat.le_trans HZ79.out <| Nat.le_trans HZ85.out <| HZ87.out) (HP68.out k_ h1_).2.1 (HP90.out k_ h2_).1)); clear HO464; have HO464 := z_; clear z_; have z_ := Aside0.mk (Kd.N_kept (Kd.N_below HO468.out (tow_)) hk (fun k_ h1_ h2_ => apart_ (Nat.le_trans HZ79.out <| Nat.le_trans HZ85.out <| HZ87.out) (HP74.out k_ h1_).2.1 (HP90.out k_ h2_).1)); clear HO468; have HO468 := z_; clear z_; clear HO472; have z_ := Aside0.mk (Kd.S_kept (Kd.S_below HO482.out (tow_)) hk (fun k_ h1_ h2_ => apart_ (Nat.le_trans HZ95.out <| HZ97.out) (HP90.out k_ h2_).2.1 (HP100.out k_ h1_).1)); clear HO482; have HO482 := z_; clear z_; have z_ := Aside0.mk (Kd.R_kept (Kd.R_below HO487.out (tow_)) hk (fun k_ h1_ h2_ => apart_ (Nat.le_trans HZ95.out <| Nat.le_trans HZ97.out <| Nat.le_trans HZ99.out <| HZ105.out) (HP90.out k_ h2_).2.1 (HP108.out k_ h1_).1)); clear HO487; have HO487 := z_; clear z_; have z_ := Aside0.mk (Kd.R_kept (Kd.R_below HO492.out (tow_)) hk (fun k_ h1_ h2_ => apart_ (Nat.le_trans HZ95.out <| Nat.le_trans HZ97.out <| Nat.le_trans HZ99.out <| Nat.le_trans HZ105.out <| Nat.le_trans HZ107.out <| HZ113.out) (HP90.out k_ h2_).2.1 (HP116.out k_ h1_).1)); clear HO492; have HO492 := z_; clear z_; have z_ := Aside0.mk (blk_kept (blk_below BK454.out (tow_)) hk (fun hP_ => (fun k_ h1_ h2_ => apart_ (Nat.le_trans HZ55.out <| Nat.le_trans HZ57.out <| Nat.le_trans HZ59.out <| Nat.le_trans HZ61.out <| Nat.le_trans HZ67.out <| Nat.le_trans HZ73.out <| Nat.le_trans HZ79.out <| Nat.le_trans HZ85.out <| HZ87.out) (HPB454.out k_ h1_).2.1 (HP90.out k_ h2_).1) gb454 rfl hP_)); clear BK454; have BK454 := z_; clear z_; have z_ := Aside0.mk (blk_kept (blk_below BK455.out (tow_)) hk (fun hP_ => (fun k_ h1_ h2_ => apart_ (Nat.le_trans HZ57.out <| Nat.le_trans HZ59.out <| Nat.le_trans HZ61.out <| Nat.le_trans HZ67.out <| Nat.le_trans HZ73.out <| Nat.le_trans HZ79.out <| Nat.le_trans HZ85.out <| HZ87.out) (HPB455.out k_ h1_).2.1 (HP90.out k_ h2_).1) gb455 rfl hP_)); clear BK455; have BK455 := z_; clear z_; have z_ := Aside0.mk (blk_kept (blk_below BK473.out (tow_)) hk (fun hP_ => (fun k_ h1_ h2_ => apart_ (HZ87.out) (HPB473.out k_ h1_).2.1 (HP90.out k_ h2_).1) gb473 rfl hP_)); clear BK473; have BK473 := z_; clear z_; have z_ := Aside0.mk (blk_kept (blk_below BK479.out (tow_)) hk (fun hP_ => (fun k_ h1_ h2_ => apart_ (Nat.le_refl _) (HP90.out k_ h2_).2.1 (HPB479.out k_ h1_).1) gb479 rfl hP_)); clear BK479; have BK479 := z_; clear z_; (try clear hcz454_0); (try clear hcz455_0); (try clear hcz455_1); (try clear hcz455_2); (try clear hcz473_0); (try clear hcz479_0); (try clear hcz479_1); (try clear hcz479_2); have HZ126 := hz_; clear hz_; obtain ⟨P127, hp_, hq_⟩ := marked_R (lo := w86) (wl := w122) (tow_) (fun k_ hk_ => (HP90.out k_ hk_).1) (Nat.le_trans HZ89.out <| Nat.le_trans HZ95.out <| Nat.le_trans HZ97.out <| Nat.le_trans HZ99.out <| Nat.le_trans HZ105.out <| Nat.le_trans HZ107.out <| Nat.le_trans HZ113.out <| Nat.le_trans HZ115.out <| Nat.le_trans HZ121.out <| HZ123.out) hm_; have HP127 := Aside0.mk hp_; clear HO477; have HO477 := Aside0.mk hq_; clear hm_ hp_ hq_; have hl_ := (Kd.R_reads' HO477.out).1; rw [hl_] at HO477; (try rw [hl_]); (try rw [hl_] at BK479); clear hl_; clear hk; clear HB; have HB := Aside0.mk hb2; clear hb2) | (go_at_call 27; (with_reducible refine (laws_eqRowS.calls k _ _ t480 _ _ t466 true _ ?side1 ?side2 ?side3 ?side4 E37.out).mono ?_); (case side1 => repeat (first | exact (Kd.S_reads' HO482.out).2.2 | (with_reducible refine Kd.C_alloc ?_ _) | (with_reducible refine Kd.C_drewN ?_ _) | (with_reducible refine Kd.C_drew ?_))); (case side2 => exact (Kd.S_reads' HO482.out).2.1); (case side3 => repeat (first | exact (Kd.N_reads' HO468.out).2.2 | (with_reducible refine Kd.C_alloc ?_ _) | (with_reducible refine Kd.C_drewN ?_ _) | (with_reducible refine Kd.C_drew ?_))); (case side4 => exact (Kd.N_reads' HO468.out).2.1); rintro e w128 ⟨rfl, hb⟩; have hs_ := adv (wl := w125) (tow_) hb; have z_ := Aside0.mk (Kd.R_below HO460.out hs_); clear HO460; have HO460 := z_; clear z_; have z_ := Aside0.mk (Kd.R_below HO464.out hs_); clear HO464; have HO464 := z_; clear z_; have z_ := Aside0.mk (Kd.N_below HO468.out hs_); clear HO468; have HO468 := z_; clear z_; have z_ := Aside0.mk (Kd.R_below HO477.out hs_); clear HO477; have HO477 := z_; clear z_; have z_ := Aside0.mk (Kd.S_below HO482.out hs_); clear HO482; have HO482 := z_; clear z_; have z_ := Aside0.mk (Kd.R_below HO487.out hs_); clear HO487; have HO487 := z_; clear z_; have z_ := Aside0.mk (Kd.R_below HO492.out hs_); clear HO492; have HO492 := z_; clear z_; have z_ := Aside0.mk (blk_below BK454.out hs_); clear BK454; have BK454 := z_; clear z_; have z_ := Aside0.mk (blk_below BK455.out hs_); clear BK455; have BK455 := z_; clear z_; have z_ := Aside0.mk (blk_below BK473.out hs_); clear BK473; have BK473 := z_; clear z_; have z_ := Aside0.mk (blk_below BK479.out hs_); clear BK479; have BK479 := z_; clear z_; (try clear hcz454_0); (try clear hcz455_0); (try clear hcz455_1); (try clear hcz455_2); (try clear hcz473_0); (try clear hcz479_0); (try clear hcz479_1); (try clear hcz479_2); have z_ := Aside0.mk (advB HB.out hs_); clear HB; have HB := z_; clear z_; have HZ129 := Aside0.mk (below_size hs_); clear hs_ hb) | ((with_reducible refine gc_ 28 ?_); refine goesL_ (some 85) rfl rfl Try.func28 (by kernel_rfl) rfl #[.slice Ao101 t480.length co102, .int .i64 1] rfl (by (try simp only [List.map_toArray, List.map_cons, List.map_nil]); first | done | rfl) ?_; (with_reducible refine (laws_markRowS.calls k P100 _ t480 1 t500 t501 w _ ?side1 ?side2 E39.out).mono ?_); (case side1 => exact advB HB.out (tow_)); (case side2 => exact Kd.S_below HO482.out (tow_)); rintro e w130 ⟨rfl, hm_, hb2, hk⟩; refine ⟨_, rfl, ?_⟩; have hz_ := Aside0.mk (kept_le (wl := w128) (tow_) hk); have z_ := Aside0.mk (Kd.R_kept (Kd.R_below HO460.out (tow_)) hk (fun k_ h1_ h2_ => apart_ (Nat.le_trans HZ67.out <| Nat.le_trans HZ73.out <| Nat.le_trans HZ79.out <| Nat.le_trans HZ85.out <| Nat.le_trans HZ87.out <| Nat.le_trans HZ89.out <| Nat.le_trans HZ95.out <| HZ97.out) (HP62.out k_ h1_).2.1 (HP100.out k_ h2_).1)); clear HO460; have HO460 := z_; clear z_; have z_ := Aside0.mk (Kd.R_kept (Kd.R_below HO464.out (tow_)) hk (fun k_ h1_ h2_ => apart_ (Nat.le_trans HZ73.out <| Nat.le_trans HZ79.out <| Nat.le_trans HZ85.out <| Nat.le_trans HZ87.out <| Nat.le_trans HZ89.out <| Nat.le_trans HZ95.out <| HZ97.out) (HP68.out k_ h1_).2.1 (HP100.out k_ h2_).1)); clear HO464; have HO464 := z_; clear z_; have z_ := Aside0.mk (Kd.N_kept (Kd.N_below HO468.out (tow_)) hk (fun k_ h1_ h2_ => apart_ (Nat.le_trans HZ79.out <| Nat.le_trans HZ85.out <| Nat.le_trans HZ87.out <| Nat.le_trans HZ89.out <| Nat.le_trans HZ95.out <| HZ97.out) (HP74.out k_ h1_).2.1 (HP100.out k_ h2_).1)); clear HO468; have HO468 := z_; clear z_; clear HO477; have z_ := Aside0.mk (Kd.R_kept (Kd.R_below HO487.out (tow_)) hk (fun k_ h1_ h2_ => apart_ (HZ105.out) (HP100.out k_ h2_).2.1 (HP108.out k_ h1_).1)); clear HO487; have HO487 := z_; clear z_; have z_ := Aside0.mk (Kd.R_kept (Kd.R_below HO492.out (tow_)) hk (fun k_ h1_ h2_ => apart_ (Nat.le_trans HZ105.out <| Nat.le_trans HZ107.out <| HZ113.out) (HP100.out k_ h2_).2.1 (HP116.out k_ h1_).1)); clear HO492; have HO492 := z_; clear z_; have z_ := Aside0.mk (blk_kept (blk_below BK454.out (tow_)) hk (fun hP_ => (fun k_ h1_ h2_ => apart_ (Nat.le_trans HZ55.out <| Nat.le_trans HZ57.out <| Nat.le_trans HZ59.out <| Nat.le_trans HZ61.out <| Nat.le_trans HZ67.out <| Nat.le_trans HZ73.out <| Nat.le_trans HZ79.out <| Nat.le_trans HZ85.out <| Nat.le_trans HZ87.out <| Nat.le_trans HZ89.out <| Nat.le_trans HZ95.out <| HZ97.out) (HPB454.out k_ h1_).2.1 (HP100.out k_ h2_).1) gb454 rfl hP_)); clear BK454; have BK454 := z_; clear z_; have z_ := Aside0.mk (blk_kept (blk_below BK455.out (tow_)) hk (fun hP_ => (fun k_ h1_ h2_ => apart_ (Nat.le_trans HZ57.out <| Nat.le_trans HZ59.out <| Nat.le_trans HZ61.out <| Nat.le_trans HZ67.out <| Nat.le_trans HZ73.out <| Nat.le_trans HZ79.out <| Nat.le_trans HZ85.out <| Nat.le_trans HZ87.out <| Nat.le_trans HZ89.out <| Nat.le_trans HZ95.out <| HZ97.out) (HPB455.out k_ h1_).2.1 (HP100.out k_ h2_).1) gb455 rfl hP_)); clear BK455; have BK455 := z_; clear z_; have z_ := Aside0.mk (blk_kept (blk_below BK473.out (tow_)) hk (fun hP_ => (fun k_ h1_ h2_ => apart_ (Nat.le_trans HZ87.out <| Nat.le_trans HZ89.out <| Nat.le_trans HZ95.out <| HZ97.out) (HPB473.out k_ h1_).2.1 (HP100.out k_ h2_).1) gb473 rfl hP_)); clear BK473; have BK473 := z_; clear z_; have z_ := Aside0.mk (blk_kept (blk_below BK479.out (tow_)) hk (fun hP_ => (fun k_ h1_ h2_ => apart_ (HZ97.out) (HPB479.out k_ h1_).2.1 (HP100.out k_ h2_).1) gb479 rfl hP_)); clear BK479; have BK479 := z_; clear z_; (try clear hcz454_0); (try clear hcz455_0); (try clear hcz455_1); (try clear hcz455_2); (try clear hcz473_0); (try clear hcz479_0); (try clear hcz479_1); (try clear hcz479_2); have HZ131 := hz_; clear hz_; obtain ⟨P132, hp_, hq_⟩ := marked_S (lo := w96) (wl := w128) (tow_) (fun k_ hk_ => (HP100.out k_ hk_).1) (Nat.le_trans HZ99.out <| Nat.le_trans HZ105.out <| Nat.le_trans HZ107.out <| Nat.le_trans HZ113.out <| Nat.le_trans HZ115.out <| Nat.le_trans HZ121.out <| Nat.le_trans HZ123.out <| Nat.le_trans HZ126.out <| HZ129.out) hm_; have HP132 := Aside0.mk hp_; clear HO482; have HO482 := Aside0.mk hq_; clear hm_ hp_ hq_; have hl_ := (Kd.S_reads' HO482.out).1; rw [hl_] at HO482; (try rw [hl_]); clear hl_; clear hk; clear HB; have HB := Aside0.mk hb2; clear hb2; have hcz454_0 := c1_ BK454) | ((with_reducible refine gc_ 64 ?_); refine goesL_ (some 88) rfl rfl Try.func64 (by kernel_rfl) rfl #[.slice Ao101 t501.length co102, .int .i64 1] rfl (by (try simp only [List.map_toArray, List.map_cons, List.map_nil]); first | done | rfl) ?_; (with_reducible refine (laws_heldRowS.calls k _ _ t501 1 t502 _ ?side1 ?side2 E40.out).mono ?_); (case side1 => repeat (first | exact (Kd.S_reads' HO482.out).2.2 | (with_reducible refine Kd.C_alloc ?_ _) | (with_reducible refine Kd.C_drewN ?_ _) | (with_reducible refine Kd.C_drew ?_))); (case side2 => exact (Kd.S_reads' HO482.out).2.1); rintro e w' ⟨rfl, ⟨nd, rfl⟩⟩; refine ⟨_, rfl, ?_⟩))
               refine start_ (n := 10) (S := fun w' => w'.cell? ⟨gb454, 0, none⟩ = some (.slice A0_0 l0_0.length c0_0) ∧ w'.cell? ⟨gb455, 0, none⟩ = some (.int .i64 a1_0) ∧ w'.cell? ⟨gb455, 1, none⟩ = some (.slice A1_1 l1_1.length c1_1) ∧ w'.cell? ⟨gb455, 2, none⟩ = some (.int .i64 a1_2)) (ds := []) #[false, false, false, false, false, false, false, false, false, false] (by kernel_rfl) rfl rfl ⟨(by first | exact (blk_cell BK454.out 0).trans rfl | exact (blk_cell (up_ BK454.out) 0).trans rfl), (by first | exact (blk_cell BK455.out 0).trans rfl | exact (blk_cell (up_ BK455.out) 0).trans rfl), (by first | exact (blk_cell BK455.out 1).trans rfl | exact (blk_cell (up_ BK455.out) 1).trans rfl), (by first | exact (blk_cell BK455.out 2).trans rfl | exact (blk_cell (up_ BK455.out) 2).trans rfl)⟩ (fun hHeld => ?_)
               refine tk_ 0 (some 95) hHeld ?_
               refine tk_ 2 (some 97) hHeld ?_
               refine on_ 1 (some 96) (fun K hK => ?_)
               refine goes_ Try.func57 (by kernel_rfl) rfl #[.agg #[.slice A0_0 l0_0.length c0_0]] (by rfl) rfl rfl am_ ?_
               (with_reducible refine (laws_toWord.calls k _ _ l0_0 t503 _ ?side1 ?side2 E43.out).mono ?_)
               (case side1 => exact Kd.C_below HR0_0.out (up_ HB.out))
               (case side2 => exact HC0_0.out)
               rintro e w133 ⟨v504, rfl, ho0, hb⟩
               refine ⟨_, rfl, ?_⟩
               have hs_ := adv (wl := w130) (tow_) hb
               obtain ⟨P135, hp_, hq_⟩ := made_R (wl := w130) (base := w.heap.size) (tow_) (below_size HB.out) ho0
               have HP135 := Aside0.mk hp_
               have zHO505 := Aside0.mk hq_
               clear hp_ hq_ ho0
               have z_ := Aside0.mk (Kd.R_below HO460.out hs_)
               clear HO460
               have HO460 := z_
               clear z_
               have z_ := Aside0.mk (Kd.R_below HO464.out hs_)
               clear HO464
               have HO464 := z_
               clear z_
               have z_ := Aside0.mk (Kd.N_below HO468.out hs_)
               clear HO468
               have HO468 := z_
               clear z_
               have z_ := Aside0.mk (Kd.S_below HO482.out hs_)
               clear HO482
               have HO482 := z_
               clear z_
               have z_ := Aside0.mk (Kd.R_below HO487.out hs_)
               clear HO487
               have HO487 := z_
               clear z_
               have z_ := Aside0.mk (Kd.R_below HO492.out hs_)
               clear HO492
               have HO492 := z_
               clear z_
               have z_ := Aside0.mk (blk_below BK454.out hs_)
               clear BK454
               have BK454 := z_
               clear z_
               have z_ := Aside0.mk (blk_below BK455.out hs_)
               clear BK455
               have BK455 := z_
               clear z_
               have z_ := Aside0.mk (blk_below BK473.out hs_)
               clear BK473
               have BK473 := z_
               clear z_
               have z_ := Aside0.mk (blk_below BK479.out hs_)
               clear BK479
               have BK479 := z_
               clear z_
               (try clear hcz454_0)
               (try clear hcz455_0)
               (try clear hcz455_1)
               (try clear hcz455_2)
               (try clear hcz473_0)
               (try clear hcz479_0)
               (try clear hcz479_1)
               (try clear hcz479_2)
               have z_ := Aside0.mk (advB HB.out hs_)
               clear HB
               have HB := z_
               clear z_
               have HZ134 := Aside0.mk (below_size hs_)
               clear hs_ hb
               have HO505 := zHO505
               clear zHO505
               obtain ⟨Ao136, co137, eo138⟩ := slice_R HO505.out
               subst eo138
               refine hK.out _ _ ⟨(by first | exact (blk_cell BK454.out 0).trans rfl | exact (blk_cell (up_ BK454.out) 0).trans rfl), (by first | exact (blk_cell BK455.out 0).trans rfl | exact (blk_cell (up_ BK455.out) 0).trans rfl), (by first | exact (blk_cell BK455.out 1).trans rfl | exact (blk_cell (up_ BK455.out) 1).trans rfl), (by first | exact (blk_cell BK455.out 2).trans rfl | exact (blk_cell (up_ BK455.out) 2).trans rfl)⟩ (fun hHeld => ?_)
               clear hK K
               refine nm_ ?_
               refine on_ 3 (some 98) (fun K hK => ?_)
               refine goes_ Try.func58 (by kernel_rfl) rfl #[.agg #[.int .i64 a1_0, .slice A1_1 l1_1.length c1_1, .int .i64 a1_2]] (by rfl) rfl rfl am_ ?_
               (with_reducible refine (laws_toFooting.calls k a1_0 _ _ l1_1 a1_2 t506 t507 t510 _ ?side1 ?side2 E44.out).mono ?_)
               (case side1 => exact Kd.C_below HR1_1.out (up_ HB.out))
               (case side2 => exact HC1_1.out)
               rintro e w139 ⟨v508, rfl, ho0, hb⟩
               refine ⟨_, rfl, ?_⟩
               have hs_ := adv (wl := w133) (tow_) hb
               obtain ⟨P141, hp_, hq_⟩ := made_R (wl := w133) (base := w.heap.size) (tow_) (below_size HB.out) ho0
               have HP141 := Aside0.mk hp_
               have zHO509 := Aside0.mk hq_
               clear hp_ hq_ ho0
               have z_ := Aside0.mk (Kd.R_below HO460.out hs_)
               clear HO460
               have HO460 := z_
               clear z_
               have z_ := Aside0.mk (Kd.R_below HO464.out hs_)
               clear HO464
               have HO464 := z_
               clear z_
               have z_ := Aside0.mk (Kd.N_below HO468.out hs_)
               clear HO468
               have HO468 := z_
               clear z_
               have z_ := Aside0.mk (Kd.S_below HO482.out hs_)
               clear HO482
               have HO482 := z_
               clear z_
               have z_ := Aside0.mk (Kd.R_below HO487.out hs_)
               clear HO487
               have HO487 := z_
               clear z_
               have z_ := Aside0.mk (Kd.R_below HO492.out hs_)
               clear HO492
               have HO492 := z_
               clear z_
               have z_ := Aside0.mk (Kd.R_below HO505.out hs_)
               clear HO505
               have HO505 := z_
               clear z_
               have z_ := Aside0.mk (blk_below BK454.out hs_)
               clear BK454
               have BK454 := z_
               clear z_
               have z_ := Aside0.mk (blk_below BK455.out hs_)
               clear BK455
               have BK455 := z_
               clear z_
               have z_ := Aside0.mk (blk_below BK473.out hs_)
               clear BK473
               have BK473 := z_
               clear z_
               have z_ := Aside0.mk (blk_below BK479.out hs_)
               clear BK479
               have BK479 := z_
               clear z_
               (try clear hcz454_0)
               (try clear hcz455_0)
               (try clear hcz455_1)
               (try clear hcz455_2)
               (try clear hcz473_0)
               (try clear hcz479_0)
               (try clear hcz479_1)
               (try clear hcz479_2)
               have z_ := Aside0.mk (advB HB.out hs_)
               clear HB
               have HB := z_
               clear z_
               have HZ140 := Aside0.mk (below_size hs_)
               clear hs_ hb
               have HO509 := zHO509
               clear zHO509
               obtain ⟨Ao142, co143, eo144⟩ := slice_R HO509.out
               subst eo144
               refine hK.out _ _ ⟨(by first | exact (blk_cell BK454.out 0).trans rfl | exact (blk_cell (up_ BK454.out) 0).trans rfl), (by first | exact (blk_cell BK455.out 0).trans rfl | exact (blk_cell (up_ BK455.out) 0).trans rfl), (by first | exact (blk_cell BK455.out 1).trans rfl | exact (blk_cell (up_ BK455.out) 1).trans rfl), (by first | exact (blk_cell BK455.out 2).trans rfl | exact (blk_cell (up_ BK455.out) 2).trans rfl)⟩ (fun hHeld => ?_)
               clear hK K
               refine nm_ ?_
               refine on_ 4 (some 99) (fun K hK => ?_)
               refine goes_ Try.func59 (by kernel_rfl) rfl #[.agg #[.slice Ao136 t503.length co137], .agg #[.int .i64 t506, .slice Ao142 t507.length co143, .int .i64 t510]] (by rfl) rfl rfl am_ ?_
               (with_reducible refine (impl_FootRows.calls k _ _ t503 t506 _ _ t507 t510 t511 t514 _ ?side1 ?side2 ?side3 ?side4 E45.out).mono ?_)
               (case side1 => repeat (first | exact (Kd.R_reads' HO505.out).2.2 | (with_reducible refine Kd.C_alloc ?_ _) | (with_reducible refine Kd.C_drewN ?_ _) | (with_reducible refine Kd.C_drew ?_)))
               (case side2 => exact (Kd.R_reads' HO505.out).2.1)
               (case side3 => repeat (first | exact (Kd.R_reads' HO509.out).2.2 | (with_reducible refine Kd.C_alloc ?_ _) | (with_reducible refine Kd.C_drewN ?_ _) | (with_reducible refine Kd.C_drew ?_)))
               (case side4 => exact (Kd.R_reads' HO509.out).2.1)
               rintro e w145 ⟨v512, rfl, ho0, hb⟩
               refine ⟨_, rfl, ?_⟩
               have hs_ := adv (wl := w139) (tow_) hb
               obtain ⟨P147, hp_, hq_⟩ := made_S (wl := w139) (base := w.heap.size) (tow_) (below_size HB.out) ho0
               have HP147 := Aside0.mk hp_
               have zHO513 := Aside0.mk hq_
               clear hp_ hq_ ho0
               have z_ := Aside0.mk (Kd.R_below HO460.out hs_)
               clear HO460
               have HO460 := z_
               clear z_
               have z_ := Aside0.mk (Kd.R_below HO464.out hs_)
               clear HO464
               have HO464 := z_
               clear z_
               have z_ := Aside0.mk (Kd.N_below HO468.out hs_)
               clear HO468
               have HO468 := z_
               clear z_
               have z_ := Aside0.mk (Kd.S_below HO482.out hs_)
               clear HO482
               have HO482 := z_
               clear z_
               have z_ := Aside0.mk (Kd.R_below HO487.out hs_)
               clear HO487
               have HO487 := z_
               clear z_
               have z_ := Aside0.mk (Kd.R_below HO492.out hs_)
               clear HO492
               have HO492 := z_
               clear z_
               have z_ := Aside0.mk (Kd.R_below HO505.out hs_)
               clear HO505
               have HO505 := z_
               clear z_
               have z_ := Aside0.mk (Kd.R_below HO509.out hs_)
               clear HO509
               have HO509 := z_
               clear z_
               have z_ := Aside0.mk (blk_below BK454.out hs_)
               clear BK454
               have BK454 := z_
               clear z_
               have z_ := Aside0.mk (blk_below BK455.out hs_)
               clear BK455
               have BK455 := z_
               clear z_
               have z_ := Aside0.mk (blk_below BK473.out hs_)
               clear BK473
               have BK473 := z_
               clear z_
               have z_ := Aside0.mk (blk_below BK479.out hs_)
               clear BK479
               have BK479 := z_
               clear z_
               (try clear hcz454_0)
               (try clear hcz455_0)
               (try clear hcz455_1)
               (try clear hcz455_2)
               (try clear hcz473_0)
               (try clear hcz479_0)
               (try clear hcz479_1)
               (try clear hcz479_2)
               have z_ := Aside0.mk (advB HB.out hs_)
               clear HB
               have HB := z_
               clear z_
               have HZ146 := Aside0.mk (below_size hs_)
               clear hs_ hb
               have HO513 := zHO513
               clear zHO513
               obtain ⟨Ao148, co149, eo150⟩ := slice_S HO513.out
               subst eo150
               refine hK.out _ _ ⟨(by first | exact (blk_cell BK454.out 0).trans rfl | exact (blk_cell (up_ BK454.out) 0).trans rfl), (by first | exact (blk_cell BK455.out 0).trans rfl | exact (blk_cell (up_ BK455.out) 0).trans rfl), (by first | exact (blk_cell BK455.out 1).trans rfl | exact (blk_cell (up_ BK455.out) 1).trans rfl), (by first | exact (blk_cell BK455.out 2).trans rfl | exact (blk_cell (up_ BK455.out) 2).trans rfl)⟩ (fun hHeld => ?_)
               clear hK K
               refine nm_ ?_
               refine pu_ 5 (some 94) ?_
               refine pu_ 6 (some 100) ?_
               refine pu_ 7 (some 101) ?_
               refine pu_ 8 (some 15) ?_
               refine pu_ 9 (some 16) ?_
               refine done_ (by kernel_rfl) ?_
               go_wp2_with (first | ((with_reducible refine gc_ 27 ?_); refine goesL_ (some 104) rfl rfl Try.func27 (by kernel_rfl) rfl #[.slice Ao148 t511.length co149, .slice Ao75 t466.length co76] rfl (by (try simp only [List.map_toArray, List.map_cons, List.map_nil]); first | done | rfl) ?_; (with_reducible refine (laws_eqRowS.calls k _ _ t511 _ _ t466 true _ ?side1 ?side2 ?side3 ?side4 E46.out).mono ?_); (case side1 => repeat (first | exact (Kd.S_reads' HO513.out).2.2 | (with_reducible refine Kd.C_alloc ?_ _) | (with_reducible refine Kd.C_drewN ?_ _) | (with_reducible refine Kd.C_drew ?_))); (case side2 => exact (Kd.S_reads' HO513.out).2.1); (case side3 => repeat (first | exact (Kd.N_reads' HO468.out).2.2 | (with_reducible refine Kd.C_alloc ?_ _) | (with_reducible refine Kd.C_drewN ?_ _) | (with_reducible refine Kd.C_drew ?_))); (case side4 => exact (Kd.N_reads' HO468.out).2.1); rintro e w151 ⟨rfl, hb⟩; refine ⟨_, rfl, ?_⟩; have hs_ := adv (wl := w145) (tow_) hb; have z_ := Aside0.mk (Kd.R_below HO460.out hs_); clear HO460; have HO460 := z_; clear z_; have z_ := Aside0.mk (Kd.R_below HO464.out hs_); clear HO464; have HO464 := z_; clear z_; have z_ := Aside0.mk (Kd.N_below HO468.out hs_); clear HO468; have HO468 := z_; clear z_; have z_ := Aside0.mk (Kd.S_below HO482.out hs_); clear HO482; have HO482 := z_; clear z_; have z_ := Aside0.mk (Kd.R_below HO487.out hs_); clear HO487; have HO487 := z_; clear z_; have z_ := Aside0.mk (Kd.R_below HO492.out hs_); clear HO492; have HO492 := z_; clear z_; have z_ := Aside0.mk (Kd.R_below HO505.out hs_); clear HO505; have HO505 := z_; clear z_; have z_ := Aside0.mk (Kd.R_below HO509.out hs_); clear HO509; have HO509 := z_; clear z_; have z_ := Aside0.mk (Kd.S_below HO513.out hs_); clear HO513; have HO513 := z_; clear z_; have z_ := Aside0.mk (blk_below BK454.out hs_); clear BK454; have BK454 := z_; clear z_; have z_ := Aside0.mk (blk_below BK455.out hs_); clear BK455; have BK455 := z_; clear z_; have z_ := Aside0.mk (blk_below BK473.out hs_); clear BK473; have BK473 := z_; clear z_; have z_ := Aside0.mk (blk_below BK479.out hs_); clear BK479; have BK479 := z_; clear z_; (try clear hcz454_0); (try clear hcz455_0); (try clear hcz455_1); (try clear hcz455_2); (try clear hcz473_0); (try clear hcz479_0); (try clear hcz479_1); (try clear hcz479_2); have z_ := Aside0.mk (advB HB.out hs_); clear HB; have HB := z_; clear z_; have HZ152 := Aside0.mk (below_size hs_); clear hs_ hb) | ((with_reducible refine gc_ 64 ?_); refine goesL_ (some 113) rfl rfl Try.func64 (by kernel_rfl) rfl #[.slice Ao101 t501.length co102, .int .i64 1] rfl (by (try simp only [List.map_toArray, List.map_cons, List.map_nil]); first | done | rfl) ?_; (with_reducible refine (laws_heldRowS.calls k _ _ t501 1 t516 _ ?side1 ?side2 E49.out).mono ?_); (case side1 => repeat (first | exact (Kd.S_reads' HO482.out).2.2 | (with_reducible refine Kd.C_alloc ?_ _) | (with_reducible refine Kd.C_drewN ?_ _) | (with_reducible refine Kd.C_drew ?_))); (case side2 => exact (Kd.S_reads' HO482.out).2.1); rintro e w' ⟨rfl, ⟨nd, rfl⟩⟩; refine ⟨_, rfl, ?_⟩))
               go_ret
               exact ⟨rs_, advB HB.out (tow_)⟩
              ·rw [if_neg c51] at H
               exact absurd (Option.some.inj H) (by rw [hr_]; decide)
           ·replace c47 := Bool.eq_false_iff.mpr c47
            subst c47
            replace H : (some false) = some r := by rw [if_neg (show ¬ (false = true) by decide)] at H; exact H
            exact absurd (Option.some.inj H) (by rw [hr_]; decide)
          ·rw [if_neg c42] at H
           exact absurd (Option.some.inj H) (by rw [hr_]; decide)
        ·replace c38 := Bool.eq_false_iff.mpr c38
         subst c38
         replace H : (some false) = some r := by rw [if_neg (show ¬ (false = true) by decide)] at H; exact H
         exact absurd (Option.some.inj H) (by rw [hr_]; decide)
      ·replace c33 := Bool.eq_false_iff.mpr c33
       subst c33
       replace H : (some false) = some r := by rw [if_neg (show ¬ (false = true) by decide)] at H; exact H
       exact absurd (Option.some.inj H) (by rw [hr_]; decide)
     ·replace c30 := Bool.eq_false_iff.mpr c30
      subst c30
      replace H : (some false) = some r := by rw [if_neg (show ¬ (false = true) by decide)] at H; exact H
      exact absurd (Option.some.inj H) (by rw [hr_]; decide)
   ·replace c26 := Bool.eq_false_iff.mpr c26
    subst c26
    replace H : (some false) = some r := by rw [if_neg (show ¬ (false = true) by decide)] at H; exact H
    exact absurd (Option.some.inj H) (by rw [hr_]; decide)

end Go.Proofs.Ytkddpilambnicaa.PFnExactFootRows
