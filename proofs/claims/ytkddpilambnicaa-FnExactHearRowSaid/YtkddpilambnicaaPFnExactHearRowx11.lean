/- Walks of Go functions that the law FnExactHearRow uses: written by this session's program out of the kit's printer; each shows that a call comes to the answers of the Lean function beside it. Conditions: each contract's own. -/
import Derived.Test.YtkddpilambnicaaPFnExactHearRowx0
import Derived.Test.YtkddpilambnicaaPFnExactHearRowx1
import Derived.Test.YtkddpilambnicaaPFnExactHearRowx4
import Derived.Test.YtkddpilambnicaaPFnExactHearRowx5
import Derived.Test.YtkddpilambnicaaPFnExactHearRowx8
import Derived.Test.YtkddpilambnicaaPFnExactHearRowx9
import Derived.Test.YtkddpilambnicaaPFnExactHearRowx10
namespace Go.Proofs.Ytkddpilambnicaa.PFnExactHearRow
open Go.RowKit Go.Proofs.YtkddpilambnicaaW.PrintWords Go.Proofs.YtkddpilambnicaaW.PrintLast Go.Proofs.YtkddpilambnicaaW.PrintMore Go.Proofs.Ytkddpilambnicaa.Mac Go.Proofs.Ytkddpilambnicaa.Law
attribute [local go_sem] max2_int min2_int max_two min_two max_three min_three max_four min_four   -- for this text's walks alone
set_option linter.unusedVariables false
set_option linter.unusedSimpArgs false

/-! ### laws_FnExactHearRow: function 3 -/
def laws_FnExactHearRow.f (k : Nat) (a0_0 : Int) (l0_1 : List (List Int)) (a0_2 : Int) (l1_0 : List Int) : Option (Bool) := (laws_szLearner.f k a0_0 l0_1 a0_2 1048576).bind fun t386 => (if t386 < 0 then (some true) else ((laws_szRow.f l1_0 t386).bind fun t387 => (if t387 < 0 then (some true) else ((laws_toLearner.f k a0_0 l0_1 a0_2).bind fun bt388 => ((laws_toRow.f k l1_0).bind fun t393 => ((spec_HearRow.f k bt388.1 bt388.2.1 bt388.2.2 t393).bind fun bt396 => ((laws_toLearner.f k a0_0 l0_1 a0_2).bind fun bt403 => ((laws_toRow.f k l1_0).bind fun t409 => ((impl_HearRow.f k bt403.1 bt403.2.1 bt403.2.2 t409).bind fun bt413 => ((laws_eqLearner.f k bt413.1 bt413.2.1 bt413.2.2.1 bt396.1 bt396.2.1 bt396.2.2.1).bind fun t420 => (if t420 = true then (if (bt413.2.2.2 != bt396.2.2.2) = true then (some false) else ((laws_toLearner.f k a0_0 l0_1 a0_2).bind fun bt421 => ((laws_eqLearner.f k bt403.1 bt403.2.1 bt403.2.2 bt421.1 bt421.2.1 bt421.2.2).bind fun t426 => (if t426 = true then ((laws_toRow.f k l1_0).bind fun t427 => ((laws_eqRow.f k t409 t427).bind fun t430 => (if t430 = true then ((laws_markLearner.f k bt403.1 bt403.2.1 bt403.2.2 1).bind fun bt431 => ((laws_markRow.f k t409 bt431.1).bind fun bt433 => (if bt433.1 < 0 then (some false) else ((laws_eqLearner.f k bt413.1 bt413.2.1 bt413.2.2.1 bt396.1 bt396.2.1 bt396.2.2.1).bind fun t435 => (if t435 = true then ((laws_markLearner.f k bt413.1 bt413.2.1 bt413.2.2.1 1).bind fun bt436 => ((laws_heldLearner.f k bt413.1 bt436.2 bt413.2.2.1 1).bind fun t438 => (if t438 < 0 then (some false) else (if t438 = bt436.1 then ((laws_toLearner.f k a0_0 l0_1 a0_2).bind fun bt439 => ((laws_toRow.f k l1_0).bind fun t444 => ((impl_HearRow.f k bt439.1 bt439.2.1 bt439.2.2 t444).bind fun bt447 => ((laws_eqLearner.f k bt447.1 bt447.2.1 bt447.2.2.1 bt396.1 bt396.2.1 bt396.2.2.1).bind fun t454 => (if t454 = true then (if (bt447.2.2.2 != bt396.2.2.2) = true then (some false) else ((laws_heldLearner.f k bt413.1 bt436.2 bt413.2.2.1 1).bind fun t455 => (if t455 < 0 then (some false) else (if t455 = bt436.1 then (some true) else (some false))))) else (some false)))))) else (some false))))) else (some false)))))) else (some false)))) else (some false))))) else (some false))))))))))))
set_option maxHeartbeats 16000000 in
set_option maxRecDepth 100000 in
theorem laws_FnExactHearRow.calls (k : Nat) (a0_0 : Int) (A0_1 : Option Addr) (c0_1 : Nat) (l0_1 : List (List Int)) (a0_2 : Int) (A1_0 : Option Addr) (c1_0 : Nat) (l1_0 : List Int) (r : Bool) (w : World) (hr0_1 : Kd.C (Kd.slice 3 (Kd.int .i64)) w A0_1 l0_1.length l0_1) (hc0_1 : l0_1.length ≤ c0_1) (hr1_0 : Kd.C (Kd.int .i64) w A1_0 l1_0.length l1_0) (hc1_0 : l1_0.length ≤ c1_0) (hr_ : r = true) (h : laws_FnExactHearRow.f k a0_0 l0_1 a0_2 l1_0 = some r) :
  Calls Try.prog 3 #[.agg #[.int .i64 a0_0, .slice A0_1 l0_1.length c0_1, .int .i64 a0_2], .agg #[.slice A1_0 l1_0.length c1_0]] w fun e w' => e = .returned (.bool r) ∧ Below w.heap.size w w' := by
 have HR0_1 := Aside0.mk hr0_1
 have HC0_1 := Aside0.mk hc0_1
 clear hr0_1 hc0_1
 have HR1_0 := Aside0.mk hr1_0
 have HC1_0 := Aside0.mk hc1_0
 clear hr1_0 hc1_0
 have HB := Aside0.mk (Below.refl w.heap.size w)
 have H : ((laws_szLearner.f k a0_0 l0_1 a0_2 1048576).bind fun t386 => (if t386 < 0 then (some true) else ((laws_szRow.f l1_0 t386).bind fun t387 => (if t387 < 0 then (some true) else ((laws_toLearner.f k a0_0 l0_1 a0_2).bind fun bt388 => ((laws_toRow.f k l1_0).bind fun t393 => ((spec_HearRow.f k bt388.1 bt388.2.1 bt388.2.2 t393).bind fun bt396 => ((laws_toLearner.f k a0_0 l0_1 a0_2).bind fun bt403 => ((laws_toRow.f k l1_0).bind fun t409 => ((impl_HearRow.f k bt403.1 bt403.2.1 bt403.2.2 t409).bind fun bt413 => ((laws_eqLearner.f k bt413.1 bt413.2.1 bt413.2.2.1 bt396.1 bt396.2.1 bt396.2.2.1).bind fun t420 => (if t420 = true then (if (bt413.2.2.2 != bt396.2.2.2) = true then (some false) else ((laws_toLearner.f k a0_0 l0_1 a0_2).bind fun bt421 => ((laws_eqLearner.f k bt403.1 bt403.2.1 bt403.2.2 bt421.1 bt421.2.1 bt421.2.2).bind fun t426 => (if t426 = true then ((laws_toRow.f k l1_0).bind fun t427 => ((laws_eqRow.f k t409 t427).bind fun t430 => (if t430 = true then ((laws_markLearner.f k bt403.1 bt403.2.1 bt403.2.2 1).bind fun bt431 => ((laws_markRow.f k t409 bt431.1).bind fun bt433 => (if bt433.1 < 0 then (some false) else ((laws_eqLearner.f k bt413.1 bt413.2.1 bt413.2.2.1 bt396.1 bt396.2.1 bt396.2.2.1).bind fun t435 => (if t435 = true then ((laws_markLearner.f k bt413.1 bt413.2.1 bt413.2.2.1 1).bind fun bt436 => ((laws_heldLearner.f k bt413.1 bt436.2 bt413.2.2.1 1).bind fun t438 => (if t438 < 0 then (some false) else (if t438 = bt436.1 then ((laws_toLearner.f k a0_0 l0_1 a0_2).bind fun bt439 => ((laws_toRow.f k l1_0).bind fun t444 => ((impl_HearRow.f k bt439.1 bt439.2.1 bt439.2.2 t444).bind fun bt447 => ((laws_eqLearner.f k bt447.1 bt447.2.1 bt447.2.2.1 bt396.1 bt396.2.1 bt396.2.2.1).bind fun t454 => (if t454 = true then (if (bt447.2.2.2 != bt396.2.2.2) = true then (some false) else ((laws_heldLearner.f k bt413.1 bt436.2 bt413.2.2.1 1).bind fun t455 => (if t455 < 0 then (some false) else (if t455 = bt436.1 then (some true) else (some false))))) else (some false)))))) else (some false))))) else (some false)))))) else (some false)))) else (some false))))) else (some false))))))))))))) = some r := h
 clear h
 replace H := bnd_ H; obtain ⟨t386, E1, H⟩ := H
 replace H := its_ H; rcases H with ⟨c2b0, H⟩ | ⟨c2b0, H⟩
 ·obtain rfl := Option.some.inj H
  go_enter Try.func3, Try.ntmps3
  go_wp2_with (first | ((refine gd_ 2 ?_); refine bx_ 2 #[.int .i64 a0_0, .slice A0_1 l0_1.length c0_1, .int .i64 a0_2] 24 ?_; intro gb384 hg_ w3 hbox_ hb; have hs_ := adv (wl := w) (tow_) hb; have BK384 := Aside0.mk hbox_; have HPB384 := Aside0.mk (boxIn (wl := w) (tow_) hg_ hbox_); have z_ := Aside0.mk (advB HB.out hs_); clear HB; have HB := z_; clear z_; have HZ4 := Aside0.mk (below_size hs_); clear hs_ hb hg_ hbox_) | ((refine gd_ 3 ?_); refine bx_ 3 #[.slice A1_0 l1_0.length c1_0] 27 ?_; intro gb385 hg_ w5 hbox_ hb; have hs_ := adv (wl := w3) (tow_) hb; have BK385 := Aside0.mk hbox_; have HPB385 := Aside0.mk (boxIn (wl := w3) (tow_) hg_ hbox_); (try clear hcz384_0); (try clear hcz384_1); (try clear hcz384_2); have z_ := Aside0.mk (blk_below BK384.out hs_); clear BK384; have BK384 := z_; clear z_; have z_ := Aside0.mk (advB HB.out hs_); clear HB; have HB := z_; clear z_; have HZ6 := Aside0.mk (below_size hs_); clear hs_ hb hg_ hbox_; obtain ⟨hcz384_0, hcz384_1, hcz384_2⟩ := c3_ BK384) | ((refine gc_ 12 ?_); refine goesL_ (some 19) rfl rfl Try.func12 (by kernel_rfl) rfl #[.agg #[.int .i64 a0_0, .slice A0_1 l0_1.length c0_1, .int .i64 a0_2], .int .i64 1048576] rfl (by (try simp only [List.map_toArray, List.map_cons, List.map_nil]); first | done | rfl) ?_; (with_reducible refine (laws_szLearner.calls k a0_0 _ _ l0_1 a0_2 1048576 t386 _ (Kd.C_below HR0_1.out (up_ HB.out)) HC0_1.out E1.out).mono ?_); rintro e w7 ⟨rfl, hb⟩; refine ⟨_, rfl, ?_⟩; have hs_ := adv (wl := w5) (tow_) hb; have z_ := Aside0.mk (blk_below BK384.out hs_); clear BK384; have BK384 := z_; clear z_; have z_ := Aside0.mk (blk_below BK385.out hs_); clear BK385; have BK385 := z_; clear z_; (try clear hcz384_0); (try clear hcz384_1); (try clear hcz384_2); (try clear hcz385_0); have z_ := Aside0.mk (advB HB.out hs_); clear HB; have HB := z_; clear z_; have HZ8 := Aside0.mk (below_size hs_); clear hs_ hb))
  go_ret
  exact ⟨rs_, advB HB.out (tow_)⟩
 ·replace H := bnd_ H; obtain ⟨t387, E9, H⟩ := H
  replace H := its_ H; rcases H with ⟨c10b0, H⟩ | ⟨c10b0, H⟩
  ·obtain rfl := Option.some.inj H
   go_enter Try.func3, Try.ntmps3
   go_wp2_with (first | ((refine gd_ 2 ?_); refine bx_ 2 #[.int .i64 a0_0, .slice A0_1 l0_1.length c0_1, .int .i64 a0_2] 24 ?_; intro gb384 hg_ w11 hbox_ hb; have hs_ := adv (wl := w) (tow_) hb; have BK384 := Aside0.mk hbox_; have HPB384 := Aside0.mk (boxIn (wl := w) (tow_) hg_ hbox_); have z_ := Aside0.mk (advB HB.out hs_); clear HB; have HB := z_; clear z_; have HZ12 := Aside0.mk (below_size hs_); clear hs_ hb hg_ hbox_) | ((refine gd_ 3 ?_); refine bx_ 3 #[.slice A1_0 l1_0.length c1_0] 27 ?_; intro gb385 hg_ w13 hbox_ hb; have hs_ := adv (wl := w11) (tow_) hb; have BK385 := Aside0.mk hbox_; have HPB385 := Aside0.mk (boxIn (wl := w11) (tow_) hg_ hbox_); (try clear hcz384_0); (try clear hcz384_1); (try clear hcz384_2); have z_ := Aside0.mk (blk_below BK384.out hs_); clear BK384; have BK384 := z_; clear z_; have z_ := Aside0.mk (advB HB.out hs_); clear HB; have HB := z_; clear z_; have HZ14 := Aside0.mk (below_size hs_); clear hs_ hb hg_ hbox_; obtain ⟨hcz384_0, hcz384_1, hcz384_2⟩ := c3_ BK384) | ((refine gc_ 12 ?_); refine goesL_ (some 19) rfl rfl Try.func12 (by kernel_rfl) rfl #[.agg #[.int .i64 a0_0, .slice A0_1 l0_1.length c0_1, .int .i64 a0_2], .int .i64 1048576] rfl (by (try simp only [List.map_toArray, List.map_cons, List.map_nil]); first | done | rfl) ?_; (with_reducible refine (laws_szLearner.calls k a0_0 _ _ l0_1 a0_2 1048576 t386 _ (Kd.C_below HR0_1.out (up_ HB.out)) HC0_1.out E1.out).mono ?_); rintro e w15 ⟨rfl, hb⟩; refine ⟨_, rfl, ?_⟩; have hs_ := adv (wl := w13) (tow_) hb; have z_ := Aside0.mk (blk_below BK384.out hs_); clear BK384; have BK384 := z_; clear z_; have z_ := Aside0.mk (blk_below BK385.out hs_); clear BK385; have BK385 := z_; clear z_; (try clear hcz384_0); (try clear hcz384_1); (try clear hcz384_2); (try clear hcz385_0); have z_ := Aside0.mk (advB HB.out hs_); clear HB; have HB := z_; clear z_; have HZ16 := Aside0.mk (below_size hs_); clear hs_ hb; have hcz385_0 := c1_ BK385) | ((refine gc_ 13 ?_); refine goesL_ (some 24) rfl rfl Try.func13 (by kernel_rfl) rfl #[.agg #[.slice A1_0 l1_0.length c1_0], .int .i64 t386] rfl (by (try simp only [List.map_toArray, List.map_cons, List.map_nil]); first | done | rfl) ?_; (with_reducible refine (laws_szRow.calls _ _ l1_0 t386 t387 _ (Kd.C_below HR1_0.out (up_ HB.out)) HC1_0.out E9.out).mono ?_); rintro e w17 ⟨rfl, hb⟩; refine ⟨_, rfl, ?_⟩; have hs_ := adv (wl := w15) (tow_) hb; have z_ := Aside0.mk (blk_below BK384.out hs_); clear BK384; have BK384 := z_; clear z_; have z_ := Aside0.mk (blk_below BK385.out hs_); clear BK385; have BK385 := z_; clear z_; (try clear hcz384_0); (try clear hcz384_1); (try clear hcz384_2); (try clear hcz385_0); have z_ := Aside0.mk (advB HB.out hs_); clear HB; have HB := z_; clear z_; have HZ18 := Aside0.mk (below_size hs_); clear hs_ hb))
   go_ret
   exact ⟨rs_, advB HB.out (tow_)⟩
  ·replace H := Option.bind_eq_some_iff.mp H
   obtain ⟨⟨t388, t389, t392⟩, E190, H⟩ := H
   replace H : ((laws_toRow.f k l1_0).bind fun t393 => ((spec_HearRow.f k t388 t389 t392 t393).bind fun bt396 => ((laws_toLearner.f k a0_0 l0_1 a0_2).bind fun bt403 => ((laws_toRow.f k l1_0).bind fun t409 => ((impl_HearRow.f k bt403.1 bt403.2.1 bt403.2.2 t409).bind fun bt413 => ((laws_eqLearner.f k bt413.1 bt413.2.1 bt413.2.2.1 bt396.1 bt396.2.1 bt396.2.2.1).bind fun t420 => (if t420 = true then (if (bt413.2.2.2 != bt396.2.2.2) = true then (some false) else ((laws_toLearner.f k a0_0 l0_1 a0_2).bind fun bt421 => ((laws_eqLearner.f k bt403.1 bt403.2.1 bt403.2.2 bt421.1 bt421.2.1 bt421.2.2).bind fun t426 => (if t426 = true then ((laws_toRow.f k l1_0).bind fun t427 => ((laws_eqRow.f k t409 t427).bind fun t430 => (if t430 = true then ((laws_markLearner.f k bt403.1 bt403.2.1 bt403.2.2 1).bind fun bt431 => ((laws_markRow.f k t409 bt431.1).bind fun bt433 => (if bt433.1 < 0 then (some false) else ((laws_eqLearner.f k bt413.1 bt413.2.1 bt413.2.2.1 bt396.1 bt396.2.1 bt396.2.2.1).bind fun t435 => (if t435 = true then ((laws_markLearner.f k bt413.1 bt413.2.1 bt413.2.2.1 1).bind fun bt436 => ((laws_heldLearner.f k bt413.1 bt436.2 bt413.2.2.1 1).bind fun t438 => (if t438 < 0 then (some false) else (if t438 = bt436.1 then ((laws_toLearner.f k a0_0 l0_1 a0_2).bind fun bt439 => ((laws_toRow.f k l1_0).bind fun t444 => ((impl_HearRow.f k bt439.1 bt439.2.1 bt439.2.2 t444).bind fun bt447 => ((laws_eqLearner.f k bt447.1 bt447.2.1 bt447.2.2.1 bt396.1 bt396.2.1 bt396.2.2.1).bind fun t454 => (if t454 = true then (if (bt447.2.2.2 != bt396.2.2.2) = true then (some false) else ((laws_heldLearner.f k bt413.1 bt436.2 bt413.2.2.1 1).bind fun t455 => (if t455 < 0 then (some false) else (if t455 = bt436.1 then (some true) else (some false))))) else (some false)))))) else (some false))))) else (some false)))))) else (some false)))) else (some false))))) else (some false)))))))) = some r := H
   have E19 := Aside0.mk E190
   clear E190
   replace H := bnd_ H; obtain ⟨t393, E20, H⟩ := H
   replace H := Option.bind_eq_some_iff.mp H
   obtain ⟨⟨t396, t397, t400, t401⟩, E210, H⟩ := H
   replace H : ((laws_toLearner.f k a0_0 l0_1 a0_2).bind fun bt403 => ((laws_toRow.f k l1_0).bind fun t409 => ((impl_HearRow.f k bt403.1 bt403.2.1 bt403.2.2 t409).bind fun bt413 => ((laws_eqLearner.f k bt413.1 bt413.2.1 bt413.2.2.1 t396 t397 t400).bind fun t420 => (if t420 = true then (if (bt413.2.2.2 != t401) = true then (some false) else ((laws_toLearner.f k a0_0 l0_1 a0_2).bind fun bt421 => ((laws_eqLearner.f k bt403.1 bt403.2.1 bt403.2.2 bt421.1 bt421.2.1 bt421.2.2).bind fun t426 => (if t426 = true then ((laws_toRow.f k l1_0).bind fun t427 => ((laws_eqRow.f k t409 t427).bind fun t430 => (if t430 = true then ((laws_markLearner.f k bt403.1 bt403.2.1 bt403.2.2 1).bind fun bt431 => ((laws_markRow.f k t409 bt431.1).bind fun bt433 => (if bt433.1 < 0 then (some false) else ((laws_eqLearner.f k bt413.1 bt413.2.1 bt413.2.2.1 t396 t397 t400).bind fun t435 => (if t435 = true then ((laws_markLearner.f k bt413.1 bt413.2.1 bt413.2.2.1 1).bind fun bt436 => ((laws_heldLearner.f k bt413.1 bt436.2 bt413.2.2.1 1).bind fun t438 => (if t438 < 0 then (some false) else (if t438 = bt436.1 then ((laws_toLearner.f k a0_0 l0_1 a0_2).bind fun bt439 => ((laws_toRow.f k l1_0).bind fun t444 => ((impl_HearRow.f k bt439.1 bt439.2.1 bt439.2.2 t444).bind fun bt447 => ((laws_eqLearner.f k bt447.1 bt447.2.1 bt447.2.2.1 t396 t397 t400).bind fun t454 => (if t454 = true then (if (bt447.2.2.2 != t401) = true then (some false) else ((laws_heldLearner.f k bt413.1 bt436.2 bt413.2.2.1 1).bind fun t455 => (if t455 < 0 then (some false) else (if t455 = bt436.1 then (some true) else (some false))))) else (some false)))))) else (some false))))) else (some false)))))) else (some false)))) else (some false))))) else (some false)))))) = some r := H
   have E21 := Aside0.mk E210
   clear E210
   replace H := Option.bind_eq_some_iff.mp H
   obtain ⟨⟨t403, t404, t407⟩, E220, H⟩ := H
   replace H : ((laws_toRow.f k l1_0).bind fun t409 => ((impl_HearRow.f k t403 t404 t407 t409).bind fun bt413 => ((laws_eqLearner.f k bt413.1 bt413.2.1 bt413.2.2.1 t396 t397 t400).bind fun t420 => (if t420 = true then (if (bt413.2.2.2 != t401) = true then (some false) else ((laws_toLearner.f k a0_0 l0_1 a0_2).bind fun bt421 => ((laws_eqLearner.f k t403 t404 t407 bt421.1 bt421.2.1 bt421.2.2).bind fun t426 => (if t426 = true then ((laws_toRow.f k l1_0).bind fun t427 => ((laws_eqRow.f k t409 t427).bind fun t430 => (if t430 = true then ((laws_markLearner.f k t403 t404 t407 1).bind fun bt431 => ((laws_markRow.f k t409 bt431.1).bind fun bt433 => (if bt433.1 < 0 then (some false) else ((laws_eqLearner.f k bt413.1 bt413.2.1 bt413.2.2.1 t396 t397 t400).bind fun t435 => (if t435 = true then ((laws_markLearner.f k bt413.1 bt413.2.1 bt413.2.2.1 1).bind fun bt436 => ((laws_heldLearner.f k bt413.1 bt436.2 bt413.2.2.1 1).bind fun t438 => (if t438 < 0 then (some false) else (if t438 = bt436.1 then ((laws_toLearner.f k a0_0 l0_1 a0_2).bind fun bt439 => ((laws_toRow.f k l1_0).bind fun t444 => ((impl_HearRow.f k bt439.1 bt439.2.1 bt439.2.2 t444).bind fun bt447 => ((laws_eqLearner.f k bt447.1 bt447.2.1 bt447.2.2.1 t396 t397 t400).bind fun t454 => (if t454 = true then (if (bt447.2.2.2 != t401) = true then (some false) else ((laws_heldLearner.f k bt413.1 bt436.2 bt413.2.2.1 1).bind fun t455 => (if t455 < 0 then (some false) else (if t455 = bt436.1 then (some true) else (some false))))) else (some false)))))) else (some false))))) else (some false)))))) else (some false)))) else (some false))))) else (some false))))) = some r := H
   have E22 := Aside0.mk E220
   clear E220
   replace H := bnd_ H; obtain ⟨t409, E23, H⟩ := H
   replace H := Option.bind_eq_some_iff.mp H
   obtain ⟨⟨t413, t414, t417, t418⟩, E240, H⟩ := H
   replace H : ((laws_eqLearner.f k t413 t414 t417 t396 t397 t400).bind fun t420 => (if t420 = true then (if (t418 != t401) = true then (some false) else ((laws_toLearner.f k a0_0 l0_1 a0_2).bind fun bt421 => ((laws_eqLearner.f k t403 t404 t407 bt421.1 bt421.2.1 bt421.2.2).bind fun t426 => (if t426 = true then ((laws_toRow.f k l1_0).bind fun t427 => ((laws_eqRow.f k t409 t427).bind fun t430 => (if t430 = true then ((laws_markLearner.f k t403 t404 t407 1).bind fun bt431 => ((laws_markRow.f k t409 bt431.1).bind fun bt433 => (if bt433.1 < 0 then (some false) else ((laws_eqLearner.f k t413 t414 t417 t396 t397 t400).bind fun t435 => (if t435 = true then ((laws_markLearner.f k t413 t414 t417 1).bind fun bt436 => ((laws_heldLearner.f k t413 bt436.2 t417 1).bind fun t438 => (if t438 < 0 then (some false) else (if t438 = bt436.1 then ((laws_toLearner.f k a0_0 l0_1 a0_2).bind fun bt439 => ((laws_toRow.f k l1_0).bind fun t444 => ((impl_HearRow.f k bt439.1 bt439.2.1 bt439.2.2 t444).bind fun bt447 => ((laws_eqLearner.f k bt447.1 bt447.2.1 bt447.2.2.1 t396 t397 t400).bind fun t454 => (if t454 = true then (if (bt447.2.2.2 != t401) = true then (some false) else ((laws_heldLearner.f k t413 bt436.2 t417 1).bind fun t455 => (if t455 < 0 then (some false) else (if t455 = bt436.1 then (some true) else (some false))))) else (some false)))))) else (some false))))) else (some false)))))) else (some false)))) else (some false))))) else (some false))) = some r := H
   have E24 := Aside0.mk E240
   clear E240
   replace H := bnd_ H; obtain ⟨t420, E25, H⟩ := H
   by_cases c26 : t420 = true
   ·subst c26
    replace H : (if (t418 != t401) = true then (some false) else ((laws_toLearner.f k a0_0 l0_1 a0_2).bind fun bt421 => ((laws_eqLearner.f k t403 t404 t407 bt421.1 bt421.2.1 bt421.2.2).bind fun t426 => (if t426 = true then ((laws_toRow.f k l1_0).bind fun t427 => ((laws_eqRow.f k t409 t427).bind fun t430 => (if t430 = true then ((laws_markLearner.f k t403 t404 t407 1).bind fun bt431 => ((laws_markRow.f k t409 bt431.1).bind fun bt433 => (if bt433.1 < 0 then (some false) else ((laws_eqLearner.f k t413 t414 t417 t396 t397 t400).bind fun t435 => (if t435 = true then ((laws_markLearner.f k t413 t414 t417 1).bind fun bt436 => ((laws_heldLearner.f k t413 bt436.2 t417 1).bind fun t438 => (if t438 < 0 then (some false) else (if t438 = bt436.1 then ((laws_toLearner.f k a0_0 l0_1 a0_2).bind fun bt439 => ((laws_toRow.f k l1_0).bind fun t444 => ((impl_HearRow.f k bt439.1 bt439.2.1 bt439.2.2 t444).bind fun bt447 => ((laws_eqLearner.f k bt447.1 bt447.2.1 bt447.2.2.1 t396 t397 t400).bind fun t454 => (if t454 = true then (if (bt447.2.2.2 != t401) = true then (some false) else ((laws_heldLearner.f k t413 bt436.2 t417 1).bind fun t455 => (if t455 < 0 then (some false) else (if t455 = bt436.1 then (some true) else (some false))))) else (some false)))))) else (some false))))) else (some false)))))) else (some false)))) else (some false))))) = some r := by rw [if_pos rfl] at H; exact H
    by_cases c27 : (t418 != t401) = true
    ·rw [if_pos c27] at H
     exact absurd (Option.some.inj H) (by rw [hr_]; decide)
    ·rw [if_neg c27] at H
     have c27b0 : (t418 != t401) = false := by simpa using c27
     (try (have c27b1 : decide (t418 = t401) = true := by simpa using c27))
     (try (have c27b2 : (t418 == t401) = true := by simpa using c27))
     clear c27
     replace H := Option.bind_eq_some_iff.mp H
     obtain ⟨⟨t421, t422, t425⟩, E280, H⟩ := H
     replace H : ((laws_eqLearner.f k t403 t404 t407 t421 t422 t425).bind fun t426 => (if t426 = true then ((laws_toRow.f k l1_0).bind fun t427 => ((laws_eqRow.f k t409 t427).bind fun t430 => (if t430 = true then ((laws_markLearner.f k t403 t404 t407 1).bind fun bt431 => ((laws_markRow.f k t409 bt431.1).bind fun bt433 => (if bt433.1 < 0 then (some false) else ((laws_eqLearner.f k t413 t414 t417 t396 t397 t400).bind fun t435 => (if t435 = true then ((laws_markLearner.f k t413 t414 t417 1).bind fun bt436 => ((laws_heldLearner.f k t413 bt436.2 t417 1).bind fun t438 => (if t438 < 0 then (some false) else (if t438 = bt436.1 then ((laws_toLearner.f k a0_0 l0_1 a0_2).bind fun bt439 => ((laws_toRow.f k l1_0).bind fun t444 => ((impl_HearRow.f k bt439.1 bt439.2.1 bt439.2.2 t444).bind fun bt447 => ((laws_eqLearner.f k bt447.1 bt447.2.1 bt447.2.2.1 t396 t397 t400).bind fun t454 => (if t454 = true then (if (bt447.2.2.2 != t401) = true then (some false) else ((laws_heldLearner.f k t413 bt436.2 t417 1).bind fun t455 => (if t455 < 0 then (some false) else (if t455 = bt436.1 then (some true) else (some false))))) else (some false)))))) else (some false))))) else (some false)))))) else (some false)))) else (some false))) = some r := H
     have E28 := Aside0.mk E280
     clear E280
     replace H := bnd_ H; obtain ⟨t426, E29, H⟩ := H
     by_cases c30 : t426 = true
     ·subst c30
      replace H : ((laws_toRow.f k l1_0).bind fun t427 => ((laws_eqRow.f k t409 t427).bind fun t430 => (if t430 = true then ((laws_markLearner.f k t403 t404 t407 1).bind fun bt431 => ((laws_markRow.f k t409 bt431.1).bind fun bt433 => (if bt433.1 < 0 then (some false) else ((laws_eqLearner.f k t413 t414 t417 t396 t397 t400).bind fun t435 => (if t435 = true then ((laws_markLearner.f k t413 t414 t417 1).bind fun bt436 => ((laws_heldLearner.f k t413 bt436.2 t417 1).bind fun t438 => (if t438 < 0 then (some false) else (if t438 = bt436.1 then ((laws_toLearner.f k a0_0 l0_1 a0_2).bind fun bt439 => ((laws_toRow.f k l1_0).bind fun t444 => ((impl_HearRow.f k bt439.1 bt439.2.1 bt439.2.2 t444).bind fun bt447 => ((laws_eqLearner.f k bt447.1 bt447.2.1 bt447.2.2.1 t396 t397 t400).bind fun t454 => (if t454 = true then (if (bt447.2.2.2 != t401) = true then (some false) else ((laws_heldLearner.f k t413 bt436.2 t417 1).bind fun t455 => (if t455 < 0 then (some false) else (if t455 = bt436.1 then (some true) else (some false))))) else (some false)))))) else (some false))))) else (some false)))))) else (some false)))) = some r := by rw [if_pos rfl] at H; exact H
      replace H := bnd_ H; obtain ⟨t427, E31, H⟩ := H
      replace H := bnd_ H; obtain ⟨t430, E32, H⟩ := H
      by_cases c33 : t430 = true
      ·subst c33
       replace H : ((laws_markLearner.f k t403 t404 t407 1).bind fun bt431 => ((laws_markRow.f k t409 bt431.1).bind fun bt433 => (if bt433.1 < 0 then (some false) else ((laws_eqLearner.f k t413 t414 t417 t396 t397 t400).bind fun t435 => (if t435 = true then ((laws_markLearner.f k t413 t414 t417 1).bind fun bt436 => ((laws_heldLearner.f k t413 bt436.2 t417 1).bind fun t438 => (if t438 < 0 then (some false) else (if t438 = bt436.1 then ((laws_toLearner.f k a0_0 l0_1 a0_2).bind fun bt439 => ((laws_toRow.f k l1_0).bind fun t444 => ((impl_HearRow.f k bt439.1 bt439.2.1 bt439.2.2 t444).bind fun bt447 => ((laws_eqLearner.f k bt447.1 bt447.2.1 bt447.2.2.1 t396 t397 t400).bind fun t454 => (if t454 = true then (if (bt447.2.2.2 != t401) = true then (some false) else ((laws_heldLearner.f k t413 bt436.2 t417 1).bind fun t455 => (if t455 < 0 then (some false) else (if t455 = bt436.1 then (some true) else (some false))))) else (some false)))))) else (some false))))) else (some false)))))) = some r := by rw [if_pos rfl] at H; exact H
       replace H := Option.bind_eq_some_iff.mp H
       obtain ⟨⟨t431, t432⟩, E340, H⟩ := H
       replace H : ((laws_markRow.f k t409 t431).bind fun bt433 => (if bt433.1 < 0 then (some false) else ((laws_eqLearner.f k t413 t414 t417 t396 t397 t400).bind fun t435 => (if t435 = true then ((laws_markLearner.f k t413 t414 t417 1).bind fun bt436 => ((laws_heldLearner.f k t413 bt436.2 t417 1).bind fun t438 => (if t438 < 0 then (some false) else (if t438 = bt436.1 then ((laws_toLearner.f k a0_0 l0_1 a0_2).bind fun bt439 => ((laws_toRow.f k l1_0).bind fun t444 => ((impl_HearRow.f k bt439.1 bt439.2.1 bt439.2.2 t444).bind fun bt447 => ((laws_eqLearner.f k bt447.1 bt447.2.1 bt447.2.2.1 t396 t397 t400).bind fun t454 => (if t454 = true then (if (bt447.2.2.2 != t401) = true then (some false) else ((laws_heldLearner.f k t413 bt436.2 t417 1).bind fun t455 => (if t455 < 0 then (some false) else (if t455 = bt436.1 then (some true) else (some false))))) else (some false)))))) else (some false))))) else (some false))))) = some r := H
       have E34 := Aside0.mk E340
       clear E340
       replace H := Option.bind_eq_some_iff.mp H
       obtain ⟨⟨t433, t434⟩, E350, H⟩ := H
       replace H : (if t433 < 0 then (some false) else ((laws_eqLearner.f k t413 t414 t417 t396 t397 t400).bind fun t435 => (if t435 = true then ((laws_markLearner.f k t413 t414 t417 1).bind fun bt436 => ((laws_heldLearner.f k t413 bt436.2 t417 1).bind fun t438 => (if t438 < 0 then (some false) else (if t438 = bt436.1 then ((laws_toLearner.f k a0_0 l0_1 a0_2).bind fun bt439 => ((laws_toRow.f k l1_0).bind fun t444 => ((impl_HearRow.f k bt439.1 bt439.2.1 bt439.2.2 t444).bind fun bt447 => ((laws_eqLearner.f k bt447.1 bt447.2.1 bt447.2.2.1 t396 t397 t400).bind fun t454 => (if t454 = true then (if (bt447.2.2.2 != t401) = true then (some false) else ((laws_heldLearner.f k t413 bt436.2 t417 1).bind fun t455 => (if t455 < 0 then (some false) else (if t455 = bt436.1 then (some true) else (some false))))) else (some false)))))) else (some false))))) else (some false)))) = some r := H
       have E35 := Aside0.mk E350
       clear E350
       by_cases c36 : t433 < 0
       ·rw [if_pos c36] at H
        exact absurd (Option.some.inj H) (by rw [hr_]; decide)
       ·rw [if_neg c36] at H
        have c36b0 : decide (t433 < 0) = false := decide_eq_false c36
        clear c36
        replace H := bnd_ H; obtain ⟨t435, E37, H⟩ := H
        by_cases c38 : t435 = true
        ·subst c38
         replace H : ((laws_markLearner.f k t413 t414 t417 1).bind fun bt436 => ((laws_heldLearner.f k t413 bt436.2 t417 1).bind fun t438 => (if t438 < 0 then (some false) else (if t438 = bt436.1 then ((laws_toLearner.f k a0_0 l0_1 a0_2).bind fun bt439 => ((laws_toRow.f k l1_0).bind fun t444 => ((impl_HearRow.f k bt439.1 bt439.2.1 bt439.2.2 t444).bind fun bt447 => ((laws_eqLearner.f k bt447.1 bt447.2.1 bt447.2.2.1 t396 t397 t400).bind fun t454 => (if t454 = true then (if (bt447.2.2.2 != t401) = true then (some false) else ((laws_heldLearner.f k t413 bt436.2 t417 1).bind fun t455 => (if t455 < 0 then (some false) else (if t455 = bt436.1 then (some true) else (some false))))) else (some false)))))) else (some false))))) = some r := by rw [if_pos rfl] at H; exact H
         replace H := Option.bind_eq_some_iff.mp H
         obtain ⟨⟨t436, t437⟩, E390, H⟩ := H
         replace H : ((laws_heldLearner.f k t413 t437 t417 1).bind fun t438 => (if t438 < 0 then (some false) else (if t438 = t436 then ((laws_toLearner.f k a0_0 l0_1 a0_2).bind fun bt439 => ((laws_toRow.f k l1_0).bind fun t444 => ((impl_HearRow.f k bt439.1 bt439.2.1 bt439.2.2 t444).bind fun bt447 => ((laws_eqLearner.f k bt447.1 bt447.2.1 bt447.2.2.1 t396 t397 t400).bind fun t454 => (if t454 = true then (if (bt447.2.2.2 != t401) = true then (some false) else ((laws_heldLearner.f k t413 t437 t417 1).bind fun t455 => (if t455 < 0 then (some false) else (if t455 = t436 then (some true) else (some false))))) else (some false)))))) else (some false)))) = some r := H
         have E39 := Aside0.mk E390
         clear E390
         replace H := bnd_ H; obtain ⟨t438, E40, H⟩ := H
         by_cases c41 : t438 < 0
         ·rw [if_pos c41] at H
          exact absurd (Option.some.inj H) (by rw [hr_]; decide)
         ·rw [if_neg c41] at H
          have c41b0 : decide (t438 < 0) = false := decide_eq_false c41
          clear c41
          by_cases c42 : t438 = t436
          ·rw [if_pos c42] at H
           have c42b0 : (t438 == t436) = true := beq_iff_eq.mpr c42
           have c42b1 : (t438 != t436) = false := bne_eq_false_iff_eq.mpr c42
           clear c42
           replace H := Option.bind_eq_some_iff.mp H
           obtain ⟨⟨t439, t440, t443⟩, E430, H⟩ := H
           replace H : ((laws_toRow.f k l1_0).bind fun t444 => ((impl_HearRow.f k t439 t440 t443 t444).bind fun bt447 => ((laws_eqLearner.f k bt447.1 bt447.2.1 bt447.2.2.1 t396 t397 t400).bind fun t454 => (if t454 = true then (if (bt447.2.2.2 != t401) = true then (some false) else ((laws_heldLearner.f k t413 t437 t417 1).bind fun t455 => (if t455 < 0 then (some false) else (if t455 = t436 then (some true) else (some false))))) else (some false))))) = some r := H
           have E43 := Aside0.mk E430
           clear E430
           replace H := bnd_ H; obtain ⟨t444, E44, H⟩ := H
           replace H := Option.bind_eq_some_iff.mp H
           obtain ⟨⟨t447, t448, t451, t452⟩, E450, H⟩ := H
           replace H : ((laws_eqLearner.f k t447 t448 t451 t396 t397 t400).bind fun t454 => (if t454 = true then (if (t452 != t401) = true then (some false) else ((laws_heldLearner.f k t413 t437 t417 1).bind fun t455 => (if t455 < 0 then (some false) else (if t455 = t436 then (some true) else (some false))))) else (some false))) = some r := H
           have E45 := Aside0.mk E450
           clear E450
           replace H := bnd_ H; obtain ⟨t454, E46, H⟩ := H
           by_cases c47 : t454 = true
           ·subst c47
            replace H : (if (t452 != t401) = true then (some false) else ((laws_heldLearner.f k t413 t437 t417 1).bind fun t455 => (if t455 < 0 then (some false) else (if t455 = t436 then (some true) else (some false))))) = some r := by rw [if_pos rfl] at H; exact H
            by_cases c48 : (t452 != t401) = true
            ·rw [if_pos c48] at H
             exact absurd (Option.some.inj H) (by rw [hr_]; decide)
            ·rw [if_neg c48] at H
             have c48b0 : (t452 != t401) = false := by simpa using c48
             (try (have c48b1 : decide (t452 = t401) = true := by simpa using c48))
             (try (have c48b2 : (t452 == t401) = true := by simpa using c48))
             clear c48
             replace H := bnd_ H; obtain ⟨t455, E49, H⟩ := H
             by_cases c50 : t455 < 0
             ·rw [if_pos c50] at H
              exact absurd (Option.some.inj H) (by rw [hr_]; decide)
             ·rw [if_neg c50] at H
              have c50b0 : decide (t455 < 0) = false := decide_eq_false c50
              clear c50
              by_cases c51 : t455 = t436
              ·rw [if_pos c51] at H
               have c51b0 : (t455 == t436) = true := beq_iff_eq.mpr c51
               have c51b1 : (t455 != t436) = false := bne_eq_false_iff_eq.mpr c51
               clear c51
               obtain rfl := Option.some.inj H
               go_enter Try.func3, Try.ntmps3
               go_wp2_with (first | ((refine gd_ 2 ?_); refine bx_ 2 #[.int .i64 a0_0, .slice A0_1 l0_1.length c0_1, .int .i64 a0_2] 24 ?_; intro gb384 hg_ w52 hbox_ hb; have hs_ := adv (wl := w) (tow_) hb; have BK384 := Aside0.mk hbox_; have HPB384 := Aside0.mk (boxIn (wl := w) (tow_) hg_ hbox_); have z_ := Aside0.mk (advB HB.out hs_); clear HB; have HB := z_; clear z_; have HZ53 := Aside0.mk (below_size hs_); clear hs_ hb hg_ hbox_) | ((refine gd_ 3 ?_); refine bx_ 3 #[.slice A1_0 l1_0.length c1_0] 27 ?_; intro gb385 hg_ w54 hbox_ hb; have hs_ := adv (wl := w52) (tow_) hb; have BK385 := Aside0.mk hbox_; have HPB385 := Aside0.mk (boxIn (wl := w52) (tow_) hg_ hbox_); (try clear hcz384_0); (try clear hcz384_1); (try clear hcz384_2); have z_ := Aside0.mk (blk_below BK384.out hs_); clear BK384; have BK384 := z_; clear z_; have z_ := Aside0.mk (advB HB.out hs_); clear HB; have HB := z_; clear z_; have HZ55 := Aside0.mk (below_size hs_); clear hs_ hb hg_ hbox_; obtain ⟨hcz384_0, hcz384_1, hcz384_2⟩ := c3_ BK384) | ((refine gc_ 12 ?_); refine goesL_ (some 19) rfl rfl Try.func12 (by kernel_rfl) rfl #[.agg #[.int .i64 a0_0, .slice A0_1 l0_1.length c0_1, .int .i64 a0_2], .int .i64 1048576] rfl (by (try simp only [List.map_toArray, List.map_cons, List.map_nil]); first | done | rfl) ?_; (with_reducible refine (laws_szLearner.calls k a0_0 _ _ l0_1 a0_2 1048576 t386 _ (Kd.C_below HR0_1.out (up_ HB.out)) HC0_1.out E1.out).mono ?_); rintro e w56 ⟨rfl, hb⟩; refine ⟨_, rfl, ?_⟩; have hs_ := adv (wl := w54) (tow_) hb; have z_ := Aside0.mk (blk_below BK384.out hs_); clear BK384; have BK384 := z_; clear z_; have z_ := Aside0.mk (blk_below BK385.out hs_); clear BK385; have BK385 := z_; clear z_; (try clear hcz384_0); (try clear hcz384_1); (try clear hcz384_2); (try clear hcz385_0); have z_ := Aside0.mk (advB HB.out hs_); clear HB; have HB := z_; clear z_; have HZ57 := Aside0.mk (below_size hs_); clear hs_ hb; have hcz385_0 := c1_ BK385) | ((refine gc_ 13 ?_); refine goesL_ (some 24) rfl rfl Try.func13 (by kernel_rfl) rfl #[.agg #[.slice A1_0 l1_0.length c1_0], .int .i64 t386] rfl (by (try simp only [List.map_toArray, List.map_cons, List.map_nil]); first | done | rfl) ?_; (with_reducible refine (laws_szRow.calls _ _ l1_0 t386 t387 _ (Kd.C_below HR1_0.out (up_ HB.out)) HC1_0.out E9.out).mono ?_); rintro e w58 ⟨rfl, hb⟩; refine ⟨_, rfl, ?_⟩; have hs_ := adv (wl := w56) (tow_) hb; have z_ := Aside0.mk (blk_below BK384.out hs_); clear BK384; have BK384 := z_; clear z_; have z_ := Aside0.mk (blk_below BK385.out hs_); clear BK385; have BK385 := z_; clear z_; (try clear hcz384_0); (try clear hcz384_1); (try clear hcz384_2); (try clear hcz385_0); have z_ := Aside0.mk (advB HB.out hs_); clear HB; have HB := z_; clear z_; have HZ59 := Aside0.mk (below_size hs_); clear hs_ hb; obtain ⟨hcz384_0, hcz384_1, hcz384_2⟩ := c3_ BK384))
               refine start_ (n := 11) (S := fun w' => w'.cell? ⟨gb384, 0, none⟩ = some (.int .i64 a0_0) ∧ w'.cell? ⟨gb384, 1, none⟩ = some (.slice A0_1 l0_1.length c0_1) ∧ w'.cell? ⟨gb384, 2, none⟩ = some (.int .i64 a0_2) ∧ w'.cell? ⟨gb385, 0, none⟩ = some (.slice A1_0 l1_0.length c1_0)) (ds := [9]) #[false, false, false, false, false, false, false, false, false, false, false] (by kernel_rfl) rfl rfl ⟨(by first | exact (blk_cell BK384.out 0).trans rfl | exact (blk_cell (up_ BK384.out) 0).trans rfl), (by first | exact (blk_cell BK384.out 1).trans rfl | exact (blk_cell (up_ BK384.out) 1).trans rfl), (by first | exact (blk_cell BK384.out 2).trans rfl | exact (blk_cell (up_ BK384.out) 2).trans rfl), (by first | exact (blk_cell BK385.out 0).trans rfl | exact (blk_cell (up_ BK385.out) 0).trans rfl)⟩ (fun hHeld => ?_)
               refine tk_ 0 (some 28) hHeld ?_
               refine tk_ 2 (some 30) hHeld ?_
               refine join_ (σ := Nat × Value × Value × Option Addr × Nat) 2 #[true, true, true, true, true, true, true, true, true, false, false] (fun s => [(29, s.2.1), (31, s.2.2.1), (32, .tuple #[.agg #[.int .i64 t396, .slice s.2.2.2.1 t397.length s.2.2.2.2, .int .i64 t400], .bool t401]), (27, .tuple #[.agg #[.int .i64 t396, .slice s.2.2.2.1 t397.length s.2.2.2.2, .int .i64 t400], .bool t401]), (33, .agg #[.int .i64 t396, .slice s.2.2.2.1 t397.length s.2.2.2.2, .int .i64 t400]), (34, .bool t401), (6, .pointer (some ⟨s.1, 0, none⟩))]) (fun s w' => (∃ P_ : Nat → Prop, (∀ k_, P_ k_ → InN w58.heap.size w'.heap.size k_ ∧ k_ ≠ s.1) ∧ Kd.S (Kd.slice 3 (Kd.int .i64)) 25 w' w.heap.size P_ (.slice s.2.2.2.1 t397.length s.2.2.2.2) t397) ∧ w'.heap[s.1]? = some (.cells #[.int .i64 0, .slice none 0 0, .int .i64 0] 30 (0, 0)) ∧ w58.heap.size ≤ s.1 ∧ w'.heap[gb384]? = some (.cells #[.int .i64 a0_0, .slice A0_1 l0_1.length c0_1, .int .i64 a0_2] 24 (0, 0)) ∧ w'.heap[gb385]? = some (.cells #[.slice A1_0 l1_0.length c1_0] 27 (0, 0)) ∧ w58.heap.size ≤ w'.heap.size ∧ Below w.heap.size w w') ?_ ?_
               rotate_left
               ·intro hJ
                refine tw_ 1 8 (some 29) (some 6) (fun K hK => ?_) (fun K hK => ?_)
                ·skip
                 refine goes_ Try.func15 (by kernel_rfl) rfl #[.agg #[.int .i64 a0_0, .slice A0_1 l0_1.length c0_1, .int .i64 a0_2]] (by rfl) rfl rfl am_ ?_
                 (with_reducible refine (laws_toLearner.calls k a0_0 _ _ l0_1 a0_2 t388 t389 t392 _ ?side1 ?side2 E19.out).mono ?_)
                 (case side1 => exact Kd.C_below HR0_1.out (up_ HB.out))
                 (case side2 => exact HC0_1.out)
                 rintro e w60 ⟨v390, rfl, ho0, hb⟩
                 refine ⟨_, rfl, ?_⟩
                 have hs_ := adv (wl := w58) (tow_) hb
                 obtain ⟨P62, hp_, hq_⟩ := made_S (wl := w58) (base := w.heap.size) (tow_) (below_size HB.out) ho0
                 have HP62 := Aside0.mk hp_
                 have zHO391 := Aside0.mk hq_
                 clear hp_ hq_ ho0
                 have z_ := Aside0.mk (blk_below BK384.out hs_)
                 clear BK384
                 have BK384 := z_
                 clear z_
                 have z_ := Aside0.mk (blk_below BK385.out hs_)
                 clear BK385
                 have BK385 := z_
                 clear z_
                 (try clear hcz384_0)
                 (try clear hcz384_1)
                 (try clear hcz384_2)
                 (try clear hcz385_0)
                 have z_ := Aside0.mk (advB HB.out hs_)
                 clear HB
                 have HB := z_
                 clear z_
                 have HZ61 := Aside0.mk (below_size hs_)
                 clear hs_ hb
                 have HO391 := zHO391
                 clear zHO391
                 obtain ⟨Ao63, co64, eo65⟩ := slice_S HO391.out
                 subst eo65
                 refine hK.out _ _ ⟨(by first | exact (blk_cell BK384.out 0).trans rfl | exact (blk_cell (up_ BK384.out) 0).trans rfl), (by first | exact (blk_cell BK384.out 1).trans rfl | exact (blk_cell (up_ BK384.out) 1).trans rfl), (by first | exact (blk_cell BK384.out 2).trans rfl | exact (blk_cell (up_ BK384.out) 2).trans rfl), (by first | exact (blk_cell BK385.out 0).trans rfl | exact (blk_cell (up_ BK385.out) 0).trans rfl)⟩ (fun hHeld => ?_)
                 clear hK K
                 refine nm_ ?_
                 refine tw_ 3 8 (some 31) (some 6) (fun K hK => ?_) (fun K hK => ?_)
                 ·skip
                  refine goes_ Try.func16 (by kernel_rfl) rfl #[.agg #[.slice A1_0 l1_0.length c1_0]] (by rfl) rfl rfl am_ ?_
                  (with_reducible refine (laws_toRow.calls k _ _ l1_0 t393 _ ?side1 ?side2 E20.out).mono ?_)
                  (case side1 => exact Kd.C_below HR1_0.out (up_ HB.out))
                  (case side2 => exact HC1_0.out)
                  rintro e w66 ⟨v394, rfl, ho0, hb⟩
                  refine ⟨_, rfl, ?_⟩
                  have hs_ := adv (wl := w60) (tow_) hb
                  obtain ⟨P68, hp_, hq_⟩ := made_R (wl := w60) (base := w.heap.size) (tow_) (below_size HB.out) ho0
                  have HP68 := Aside0.mk hp_
                  have zHO395 := Aside0.mk hq_
                  clear hp_ hq_ ho0
                  have z_ := Aside0.mk (Kd.S_below HO391.out hs_)
                  clear HO391
                  have HO391 := z_
                  clear z_
                  have z_ := Aside0.mk (blk_below BK384.out hs_)
                  clear BK384
                  have BK384 := z_
                  clear z_
                  have z_ := Aside0.mk (blk_below BK385.out hs_)
                  clear BK385
                  have BK385 := z_
                  clear z_
                  (try clear hcz384_0)
                  (try clear hcz384_1)
                  (try clear hcz384_2)
                  (try clear hcz385_0)
                  have z_ := Aside0.mk (advB HB.out hs_)
                  clear HB
                  have HB := z_
                  clear z_
                  have HZ67 := Aside0.mk (below_size hs_)
                  clear hs_ hb
                  have HO395 := zHO395
                  clear zHO395
                  obtain ⟨Ao69, co70, eo71⟩ := slice_R HO395.out
                  subst eo71
                  refine hK.out _ _ ⟨(by first | exact (blk_cell BK384.out 0).trans rfl | exact (blk_cell (up_ BK384.out) 0).trans rfl), (by first | exact (blk_cell BK384.out 1).trans rfl | exact (blk_cell (up_ BK384.out) 1).trans rfl), (by first | exact (blk_cell BK384.out 2).trans rfl | exact (blk_cell (up_ BK384.out) 2).trans rfl), (by first | exact (blk_cell BK385.out 0).trans rfl | exact (blk_cell (up_ BK385.out) 0).trans rfl)⟩ (fun hHeld => ?_)
                  clear hK K
                  refine nm_ ?_
                  refine tw_ 4 8 (some 32) (some 6) (fun K hK => ?_) (fun K hK => ?_)
                  ·skip
                   refine goes_ Try.func14 (by kernel_rfl) rfl #[.agg #[.int .i64 t388, .slice Ao63 t389.length co64, .int .i64 t392], .agg #[.slice Ao69 t393.length co70]] (by rfl) rfl rfl am_ ?_
                   (with_reducible refine (spec_HearRow.calls k t388 _ _ t389 t392 _ _ t393 t396 t397 t400 t401 _ ?side1 ?side2 ?side3 ?side4 E21.out).mono ?_)
                   (case side1 => repeat (first | exact (Kd.S_reads' HO391.out).2.2 | (with_reducible refine Kd.C_alloc ?_ _) | (with_reducible refine Kd.C_drewN ?_ _) | (with_reducible refine Kd.C_drew ?_)))
                   (case side2 => exact (Kd.S_reads' HO391.out).2.1)
                   (case side3 => repeat (first | exact (Kd.R_reads' HO395.out).2.2 | (with_reducible refine Kd.C_alloc ?_ _) | (with_reducible refine Kd.C_drewN ?_ _) | (with_reducible refine Kd.C_drew ?_)))
                   (case side4 => exact (Kd.R_reads' HO395.out).2.1)
                   rintro e w72 ⟨v398, rfl, ho0, hb⟩
                   refine ⟨_, rfl, ?_⟩
                   have hs_ := adv (wl := w66) (tow_) hb
                   obtain ⟨P74, hp_, hq_⟩ := made_S (wl := w66) (base := w.heap.size) (tow_) (below_size HB.out) ho0
                   have HP74 := Aside0.mk hp_
                   have zHO399 := Aside0.mk hq_
                   clear hp_ hq_ ho0
                   have z_ := Aside0.mk (Kd.S_below HO391.out hs_)
                   clear HO391
                   have HO391 := z_
                   clear z_
                   have z_ := Aside0.mk (Kd.R_below HO395.out hs_)
                   clear HO395
                   have HO395 := z_
                   clear z_
                   have z_ := Aside0.mk (blk_below BK384.out hs_)
                   clear BK384
                   have BK384 := z_
                   clear z_
                   have z_ := Aside0.mk (blk_below BK385.out hs_)
                   clear BK385
                   have BK385 := z_
                   clear z_
                   (try clear hcz384_0)
                   (try clear hcz384_1)
                   (try clear hcz384_2)
                   (try clear hcz385_0)
                   have z_ := Aside0.mk (advB HB.out hs_)
                   clear HB
                   have HB := z_
                   clear z_
                   have HZ73 := Aside0.mk (below_size hs_)
                   clear hs_ hb
                   have HO399 := zHO399
                   clear zHO399
                   obtain ⟨Ao75, co76, eo77⟩ := slice_S HO399.out
                   subst eo77
                   refine hK.out _ _ ⟨(by first | exact (blk_cell BK384.out 0).trans rfl | exact (blk_cell (up_ BK384.out) 0).trans rfl), (by first | exact (blk_cell BK384.out 1).trans rfl | exact (blk_cell (up_ BK384.out) 1).trans rfl), (by first | exact (blk_cell BK384.out 2).trans rfl | exact (blk_cell (up_ BK384.out) 2).trans rfl), (by first | exact (blk_cell BK385.out 0).trans rfl | exact (blk_cell (up_ BK385.out) 0).trans rfl)⟩ (fun hHeld => ?_)
                   clear hK K
                   refine nm_ ?_
                   refine pu_ 5 (some 27) ?_
                   refine pu_ 6 (some 33) ?_
                   refine pu_ 7 (some 34) ?_
                   refine on_ 8 (some 6) (fun K hK => ?_)
                   refine box_step (by rfl) (N := 6) rfl (cs := #[.int .i64 0, .slice none 0 0, .int .i64 0]) (t := 30) (by first | (go_simp; done) | (go_simp; rfl)) ?_
                   intro gb402 hg_ w78 hbox_ hb
                   have hs_ := adv (wl := w72) (tow_) hb
                   have BK402 := Aside0.mk hbox_
                   have HPB402 := Aside0.mk (boxIn (wl := w72) (tow_) hg_ hbox_)
                   (try clear hcz384_0)
                   (try clear hcz384_1)
                   (try clear hcz384_2)
                   (try clear hcz385_0)
                   have z_ := Aside0.mk (Kd.S_below HO391.out hs_)
                   clear HO391
                   have HO391 := z_
                   clear z_
                   have z_ := Aside0.mk (Kd.R_below HO395.out hs_)
                   clear HO395
                   have HO395 := z_
                   clear z_
                   have z_ := Aside0.mk (Kd.S_below HO399.out hs_)
                   clear HO399
                   have HO399 := z_
                   clear z_
                   have z_ := Aside0.mk (blk_below BK384.out hs_)
                   clear BK384
                   have BK384 := z_
                   clear z_
                   have z_ := Aside0.mk (blk_below BK385.out hs_)
                   clear BK385
                   have BK385 := z_
                   clear z_
                   have z_ := Aside0.mk (advB HB.out hs_)
                   clear HB
                   have HB := z_
                   clear z_
                   have HZ79 := Aside0.mk (below_size hs_)
                   clear hs_ hb hg_ hbox_
                   refine hK.out _ _ ⟨(by first | exact (blk_cell BK384.out 0).trans rfl | exact (blk_cell (up_ BK384.out) 0).trans rfl), (by first | exact (blk_cell BK384.out 1).trans rfl | exact (blk_cell (up_ BK384.out) 1).trans rfl), (by first | exact (blk_cell BK384.out 2).trans rfl | exact (blk_cell (up_ BK384.out) 2).trans rfl), (by first | exact (blk_cell BK385.out 0).trans rfl | exact (blk_cell (up_ BK385.out) 0).trans rfl)⟩ (fun hHeld => ?_)
                   clear hK K
                   refine nm_ ?_
                   exact norm_ (by first | (simp only [putAll, Act.put, List.setIfInBounds_toArray, List.set_cons_zero, List.set_cons_succ]; done) | (simp only [putAll, Act.put, List.setIfInBounds_toArray, List.set_cons_zero, List.set_cons_succ]; rfl)) (hJ (gb402, .agg #[.int .i64 t388, .slice Ao63 t389.length co64, .int .i64 t392], .agg #[.slice Ao69 t393.length co70], Ao75, co76) _ ⟨⟨_, fun k_ hk_ => ⟨⟨Nat.le_trans (Nat.le_trans HZ61.out <| HZ67.out) (HP74.out k_ hk_).1, Nat.lt_of_lt_of_le (HP74.out k_ hk_).2.1 (HZ79.out), trivial⟩, fun he_ => (fun k_ h1_ h2_ => apart_ (Nat.le_refl _) (HP74.out k_ h1_).2.1 (HPB402.out k_ h2_).1) k_ hk_ he_⟩, HO399.out⟩, BK402.out, (Nat.le_trans (Nat.le_trans HZ61.out <| Nat.le_trans HZ67.out <| HZ73.out) (HPB402.out _ rfl).1), BK384.out, BK385.out, (Nat.le_trans HZ61.out <| Nat.le_trans HZ67.out <| Nat.le_trans HZ73.out <| HZ79.out), HB.out⟩)
                  ·skip
                   refine box_step (by rfl) (N := 6) rfl (cs := #[.int .i64 0, .slice none 0 0, .int .i64 0]) (t := 30) (by first | (go_simp; done) | (go_simp; rfl)) ?_
                   intro gb402 hg_ w80 hbox_ hb
                   have hs_ := adv (wl := w66) (tow_) hb
                   have BK402 := Aside0.mk hbox_
                   have HPB402 := Aside0.mk (boxIn (wl := w66) (tow_) hg_ hbox_)
                   (try clear hcz384_0)
                   (try clear hcz384_1)
                   (try clear hcz384_2)
                   (try clear hcz385_0)
                   have z_ := Aside0.mk (Kd.S_below HO391.out hs_)
                   clear HO391
                   have HO391 := z_
                   clear z_
                   have z_ := Aside0.mk (Kd.R_below HO395.out hs_)
                   clear HO395
                   have HO395 := z_
                   clear z_
                   have z_ := Aside0.mk (blk_below BK384.out hs_)
                   clear BK384
                   have BK384 := z_
                   clear z_
                   have z_ := Aside0.mk (blk_below BK385.out hs_)
                   clear BK385
                   have BK385 := z_
                   clear z_
                   have z_ := Aside0.mk (advB HB.out hs_)
                   clear HB
                   have HB := z_
                   clear z_
                   have HZ81 := Aside0.mk (below_size hs_)
                   clear hs_ hb hg_ hbox_
                   refine hK.out _ _ ⟨(by first | exact (blk_cell BK384.out 0).trans rfl | exact (blk_cell (up_ BK384.out) 0).trans rfl), (by first | exact (blk_cell BK384.out 1).trans rfl | exact (blk_cell (up_ BK384.out) 1).trans rfl), (by first | exact (blk_cell BK384.out 2).trans rfl | exact (blk_cell (up_ BK384.out) 2).trans rfl), (by first | exact (blk_cell BK385.out 0).trans rfl | exact (blk_cell (up_ BK385.out) 0).trans rfl)⟩ (fun hHeld => ?_)
                   clear hK K
                   refine nm_ ?_
                   refine on_ 4 (some 32) (fun K hK => ?_)
                   refine goes_ Try.func14 (by kernel_rfl) rfl #[.agg #[.int .i64 t388, .slice Ao63 t389.length co64, .int .i64 t392], .agg #[.slice Ao69 t393.length co70]] (by rfl) rfl rfl am_ ?_
                   (with_reducible refine (spec_HearRow.calls k t388 _ _ t389 t392 _ _ t393 t396 t397 t400 t401 _ ?side1 ?side2 ?side3 ?side4 E21.out).mono ?_)
                   (case side1 => repeat (first | exact (Kd.S_reads' HO391.out).2.2 | (with_reducible refine Kd.C_alloc ?_ _) | (with_reducible refine Kd.C_drewN ?_ _) | (with_reducible refine Kd.C_drew ?_)))
                   (case side2 => exact (Kd.S_reads' HO391.out).2.1)
                   (case side3 => repeat (first | exact (Kd.R_reads' HO395.out).2.2 | (with_reducible refine Kd.C_alloc ?_ _) | (with_reducible refine Kd.C_drewN ?_ _) | (with_reducible refine Kd.C_drew ?_)))
                   (case side4 => exact (Kd.R_reads' HO395.out).2.1)
                   rintro e w82 ⟨v398, rfl, ho0, hb⟩
                   refine ⟨_, rfl, ?_⟩
                   have hs_ := adv (wl := w80) (tow_) hb
                   obtain ⟨P84, hp_, hq_⟩ := made_S (wl := w80) (base := w.heap.size) (tow_) (below_size HB.out) ho0
                   have HP84 := Aside0.mk hp_
                   have zHO399 := Aside0.mk hq_
                   clear hp_ hq_ ho0
                   have z_ := Aside0.mk (Kd.S_below HO391.out hs_)
                   clear HO391
                   have HO391 := z_
                   clear z_
                   have z_ := Aside0.mk (Kd.R_below HO395.out hs_)
                   clear HO395
                   have HO395 := z_
                   clear z_
                   have z_ := Aside0.mk (blk_below BK384.out hs_)
                   clear BK384
                   have BK384 := z_
                   clear z_
                   have z_ := Aside0.mk (blk_below BK385.out hs_)
                   clear BK385
                   have BK385 := z_
                   clear z_
                   have z_ := Aside0.mk (blk_below BK402.out hs_)
                   clear BK402
                   have BK402 := z_
                   clear z_
                   (try clear hcz384_0)
                   (try clear hcz384_1)
                   (try clear hcz384_2)
                   (try clear hcz385_0)
                   (try clear hcz402_0)
                   (try clear hcz402_1)
                   (try clear hcz402_2)
                   have z_ := Aside0.mk (advB HB.out hs_)
                   clear HB
                   have HB := z_
                   clear z_
                   have HZ83 := Aside0.mk (below_size hs_)
                   clear hs_ hb
                   have HO399 := zHO399
                   clear zHO399
                   obtain ⟨Ao85, co86, eo87⟩ := slice_S HO399.out
                   subst eo87
                   refine hK.out _ _ ⟨(by first | exact (blk_cell BK384.out 0).trans rfl | exact (blk_cell (up_ BK384.out) 0).trans rfl), (by first | exact (blk_cell BK384.out 1).trans rfl | exact (blk_cell (up_ BK384.out) 1).trans rfl), (by first | exact (blk_cell BK384.out 2).trans rfl | exact (blk_cell (up_ BK384.out) 2).trans rfl), (by first | exact (blk_cell BK385.out 0).trans rfl | exact (blk_cell (up_ BK385.out) 0).trans rfl)⟩ (fun hHeld => ?_)
                   clear hK K
                   refine nm_ ?_
                   refine pu_ 5 (some 27) ?_
                   refine pu_ 6 (some 33) ?_
                   refine pu_ 7 (some 34) ?_
                   exact norm_ (by first | (simp only [putAll, Act.put, List.setIfInBounds_toArray, List.set_cons_zero, List.set_cons_succ]; done) | (simp only [putAll, Act.put, List.setIfInBounds_toArray, List.set_cons_zero, List.set_cons_succ]; rfl)) (hJ (gb402, .agg #[.int .i64 t388, .slice Ao63 t389.length co64, .int .i64 t392], .agg #[.slice Ao69 t393.length co70], Ao85, co86) _ ⟨⟨_, fun k_ hk_ => ⟨⟨Nat.le_trans (Nat.le_trans HZ61.out <| Nat.le_trans HZ67.out <| HZ81.out) (HP84.out k_ hk_).1, Nat.lt_of_lt_of_le (HP84.out k_ hk_).2.1 (Nat.le_refl _), trivial⟩, fun he_ => (fun k_ h1_ h2_ => apart_ (Nat.le_refl _) (HPB402.out k_ h2_).2.1 (HP84.out k_ h1_).1) k_ hk_ he_⟩, HO399.out⟩, BK402.out, (Nat.le_trans (Nat.le_trans HZ61.out <| HZ67.out) (HPB402.out _ rfl).1), BK384.out, BK385.out, (Nat.le_trans HZ61.out <| Nat.le_trans HZ67.out <| Nat.le_trans HZ81.out <| HZ83.out), HB.out⟩)
                 ·skip
                  refine box_step (by rfl) (N := 6) rfl (cs := #[.int .i64 0, .slice none 0 0, .int .i64 0]) (t := 30) (by first | (go_simp; done) | (go_simp; rfl)) ?_
                  intro gb402 hg_ w88 hbox_ hb
                  have hs_ := adv (wl := w60) (tow_) hb
                  have BK402 := Aside0.mk hbox_
                  have HPB402 := Aside0.mk (boxIn (wl := w60) (tow_) hg_ hbox_)
                  (try clear hcz384_0)
                  (try clear hcz384_1)
                  (try clear hcz384_2)
                  (try clear hcz385_0)
                  have z_ := Aside0.mk (Kd.S_below HO391.out hs_)
                  clear HO391
                  have HO391 := z_
                  clear z_
                  have z_ := Aside0.mk (blk_below BK384.out hs_)
                  clear BK384
                  have BK384 := z_
                  clear z_
                  have z_ := Aside0.mk (blk_below BK385.out hs_)
                  clear BK385
                  have BK385 := z_
                  clear z_
                  have z_ := Aside0.mk (advB HB.out hs_)
                  clear HB
                  have HB := z_
                  clear z_
                  have HZ89 := Aside0.mk (below_size hs_)
                  clear hs_ hb hg_ hbox_
                  refine hK.out _ _ ⟨(by first | exact (blk_cell BK384.out 0).trans rfl | exact (blk_cell (up_ BK384.out) 0).trans rfl), (by first | exact (blk_cell BK384.out 1).trans rfl | exact (blk_cell (up_ BK384.out) 1).trans rfl), (by first | exact (blk_cell BK384.out 2).trans rfl | exact (blk_cell (up_ BK384.out) 2).trans rfl), (by first | exact (blk_cell BK385.out 0).trans rfl | exact (blk_cell (up_ BK385.out) 0).trans rfl)⟩ (fun hHeld => ?_)
                  clear hK K
                  refine nm_ ?_
                  refine on_ 3 (some 31) (fun K hK => ?_)
                  refine goes_ Try.func16 (by kernel_rfl) rfl #[.agg #[.slice A1_0 l1_0.length c1_0]] (by rfl) rfl rfl am_ ?_
                  (with_reducible refine (laws_toRow.calls k _ _ l1_0 t393 _ ?side1 ?side2 E20.out).mono ?_)
                  (case side1 => exact Kd.C_below HR1_0.out (up_ HB.out))
                  (case side2 => exact HC1_0.out)
                  rintro e w90 ⟨v394, rfl, ho0, hb⟩
                  refine ⟨_, rfl, ?_⟩
                  have hs_ := adv (wl := w88) (tow_) hb
                  obtain ⟨P92, hp_, hq_⟩ := made_R (wl := w88) (base := w.heap.size) (tow_) (below_size HB.out) ho0
                  have HP92 := Aside0.mk hp_
                  have zHO395 := Aside0.mk hq_
                  clear hp_ hq_ ho0
                  have z_ := Aside0.mk (Kd.S_below HO391.out hs_)
                  clear HO391
                  have HO391 := z_
                  clear z_
                  have z_ := Aside0.mk (blk_below BK384.out hs_)
                  clear BK384
                  have BK384 := z_
                  clear z_
                  have z_ := Aside0.mk (blk_below BK385.out hs_)
                  clear BK385
                  have BK385 := z_
                  clear z_
                  have z_ := Aside0.mk (blk_below BK402.out hs_)
                  clear BK402
                  have BK402 := z_
                  clear z_
                  (try clear hcz384_0)
                  (try clear hcz384_1)
                  (try clear hcz384_2)
                  (try clear hcz385_0)
                  (try clear hcz402_0)
                  (try clear hcz402_1)
                  (try clear hcz402_2)
                  have z_ := Aside0.mk (advB HB.out hs_)
                  clear HB
                  have HB := z_
                  clear z_
                  have HZ91 := Aside0.mk (below_size hs_)
                  clear hs_ hb
                  have HO395 := zHO395
                  clear zHO395
                  obtain ⟨Ao93, co94, eo95⟩ := slice_R HO395.out
                  subst eo95
                  refine hK.out _ _ ⟨(by first | exact (blk_cell BK384.out 0).trans rfl | exact (blk_cell (up_ BK384.out) 0).trans rfl), (by first | exact (blk_cell BK384.out 1).trans rfl | exact (blk_cell (up_ BK384.out) 1).trans rfl), (by first | exact (blk_cell BK384.out 2).trans rfl | exact (blk_cell (up_ BK384.out) 2).trans rfl), (by first | exact (blk_cell BK385.out 0).trans rfl | exact (blk_cell (up_ BK385.out) 0).trans rfl)⟩ (fun hHeld => ?_)
                  clear hK K
                  refine nm_ ?_
                  refine on_ 4 (some 32) (fun K hK => ?_)
                  refine goes_ Try.func14 (by kernel_rfl) rfl #[.agg #[.int .i64 t388, .slice Ao63 t389.length co64, .int .i64 t392], .agg #[.slice Ao93 t393.length co94]] (by rfl) rfl rfl am_ ?_
                  (with_reducible refine (spec_HearRow.calls k t388 _ _ t389 t392 _ _ t393 t396 t397 t400 t401 _ ?side1 ?side2 ?side3 ?side4 E21.out).mono ?_)
                  (case side1 => repeat (first | exact (Kd.S_reads' HO391.out).2.2 | (with_reducible refine Kd.C_alloc ?_ _) | (with_reducible refine Kd.C_drewN ?_ _) | (with_reducible refine Kd.C_drew ?_)))
                  (case side2 => exact (Kd.S_reads' HO391.out).2.1)
                  (case side3 => repeat (first | exact (Kd.R_reads' HO395.out).2.2 | (with_reducible refine Kd.C_alloc ?_ _) | (with_reducible refine Kd.C_drewN ?_ _) | (with_reducible refine Kd.C_drew ?_)))
                  (case side4 => exact (Kd.R_reads' HO395.out).2.1)
                  rintro e w96 ⟨v398, rfl, ho0, hb⟩
                  refine ⟨_, rfl, ?_⟩
                  have hs_ := adv (wl := w90) (tow_) hb
                  obtain ⟨P98, hp_, hq_⟩ := made_S (wl := w90) (base := w.heap.size) (tow_) (below_size HB.out) ho0
                  have HP98 := Aside0.mk hp_
                  have zHO399 := Aside0.mk hq_
                  clear hp_ hq_ ho0
                  have z_ := Aside0.mk (Kd.S_below HO391.out hs_)
                  clear HO391
                  have HO391 := z_
                  clear z_
                  have z_ := Aside0.mk (Kd.R_below HO395.out hs_)
                  clear HO395
                  have HO395 := z_
                  clear z_
                  have z_ := Aside0.mk (blk_below BK384.out hs_)
                  clear BK384
                  have BK384 := z_
                  clear z_
                  have z_ := Aside0.mk (blk_below BK385.out hs_)
                  clear BK385
                  have BK385 := z_
                  clear z_
                  have z_ := Aside0.mk (blk_below BK402.out hs_)
                  clear BK402
                  have BK402 := z_
                  clear z_
                  (try clear hcz384_0)
                  (try clear hcz384_1)
                  (try clear hcz384_2)
                  (try clear hcz385_0)
                  (try clear hcz402_0)
                  (try clear hcz402_1)
                  (try clear hcz402_2)
                  have z_ := Aside0.mk (advB HB.out hs_)
                  clear HB
                  have HB := z_
                  clear z_
                  have HZ97 := Aside0.mk (below_size hs_)
                  clear hs_ hb
                  have HO399 := zHO399
                  clear zHO399
                  obtain ⟨Ao99, co100, eo101⟩ := slice_S HO399.out
                  subst eo101
                  refine hK.out _ _ ⟨(by first | exact (blk_cell BK384.out 0).trans rfl | exact (blk_cell (up_ BK384.out) 0).trans rfl), (by first | exact (blk_cell BK384.out 1).trans rfl | exact (blk_cell (up_ BK384.out) 1).trans rfl), (by first | exact (blk_cell BK384.out 2).trans rfl | exact (blk_cell (up_ BK384.out) 2).trans rfl), (by first | exact (blk_cell BK385.out 0).trans rfl | exact (blk_cell (up_ BK385.out) 0).trans rfl)⟩ (fun hHeld => ?_)
                  clear hK K
                  refine nm_ ?_
                  refine pu_ 5 (some 27) ?_
                  refine pu_ 6 (some 33) ?_
                  refine pu_ 7 (some 34) ?_
                  exact norm_ (by first | (simp only [putAll, Act.put, List.setIfInBounds_toArray, List.set_cons_zero, List.set_cons_succ]; done) | (simp only [putAll, Act.put, List.setIfInBounds_toArray, List.set_cons_zero, List.set_cons_succ]; rfl)) (hJ (gb402, .agg #[.int .i64 t388, .slice Ao63 t389.length co64, .int .i64 t392], .agg #[.slice Ao93 t393.length co94], Ao99, co100) _ ⟨⟨_, fun k_ hk_ => ⟨⟨Nat.le_trans (Nat.le_trans HZ61.out <| Nat.le_trans HZ89.out <| HZ91.out) (HP98.out k_ hk_).1, Nat.lt_of_lt_of_le (HP98.out k_ hk_).2.1 (Nat.le_refl _), trivial⟩, fun he_ => (fun k_ h1_ h2_ => apart_ (HZ91.out) (HPB402.out k_ h2_).2.1 (HP98.out k_ h1_).1) k_ hk_ he_⟩, HO399.out⟩, BK402.out, (Nat.le_trans (HZ61.out) (HPB402.out _ rfl).1), BK384.out, BK385.out, (Nat.le_trans HZ61.out <| Nat.le_trans HZ89.out <| Nat.le_trans HZ91.out <| HZ97.out), HB.out⟩)
                ·skip
                 refine box_step (by rfl) (N := 6) rfl (cs := #[.int .i64 0, .slice none 0 0, .int .i64 0]) (t := 30) (by first | (go_simp; done) | (go_simp; rfl)) ?_
                 intro gb402 hg_ w102 hbox_ hb
                 have hs_ := adv (wl := w58) (tow_) hb
                 have BK402 := Aside0.mk hbox_
                 have HPB402 := Aside0.mk (boxIn (wl := w58) (tow_) hg_ hbox_)
                 (try clear hcz384_0)
                 (try clear hcz384_1)
                 (try clear hcz384_2)
                 (try clear hcz385_0)
                 have z_ := Aside0.mk (blk_below BK384.out hs_)
                 clear BK384
                 have BK384 := z_
                 clear z_
                 have z_ := Aside0.mk (blk_below BK385.out hs_)
                 clear BK385
                 have BK385 := z_
                 clear z_
                 have z_ := Aside0.mk (advB HB.out hs_)
                 clear HB
                 have HB := z_
                 clear z_
                 have HZ103 := Aside0.mk (below_size hs_)
                 clear hs_ hb hg_ hbox_
                 refine hK.out _ _ ⟨(by first | exact (blk_cell BK384.out 0).trans rfl | exact (blk_cell (up_ BK384.out) 0).trans rfl), (by first | exact (blk_cell BK384.out 1).trans rfl | exact (blk_cell (up_ BK384.out) 1).trans rfl), (by first | exact (blk_cell BK384.out 2).trans rfl | exact (blk_cell (up_ BK384.out) 2).trans rfl), (by first | exact (blk_cell BK385.out 0).trans rfl | exact (blk_cell (up_ BK385.out) 0).trans rfl)⟩ (fun hHeld => ?_)
                 clear hK K
                 refine nm_ ?_
                 refine on_ 1 (some 29) (fun K hK => ?_)
                 refine goes_ Try.func15 (by kernel_rfl) rfl #[.agg #[.int .i64 a0_0, .slice A0_1 l0_1.length c0_1, .int .i64 a0_2]] (by rfl) rfl rfl am_ ?_
                 (with_reducible refine (laws_toLearner.calls k a0_0 _ _ l0_1 a0_2 t388 t389 t392 _ ?side1 ?side2 E19.out).mono ?_)
                 (case side1 => exact Kd.C_below HR0_1.out (up_ HB.out))
                 (case side2 => exact HC0_1.out)
                 rintro e w104 ⟨v390, rfl, ho0, hb⟩
                 refine ⟨_, rfl, ?_⟩
                 have hs_ := adv (wl := w102) (tow_) hb
                 obtain ⟨P106, hp_, hq_⟩ := made_S (wl := w102) (base := w.heap.size) (tow_) (below_size HB.out) ho0
                 have HP106 := Aside0.mk hp_
                 have zHO391 := Aside0.mk hq_
                 clear hp_ hq_ ho0
                 have z_ := Aside0.mk (blk_below BK384.out hs_)
                 clear BK384
                 have BK384 := z_
                 clear z_
                 have z_ := Aside0.mk (blk_below BK385.out hs_)
                 clear BK385
                 have BK385 := z_
                 clear z_
                 have z_ := Aside0.mk (blk_below BK402.out hs_)
                 clear BK402
                 have BK402 := z_
                 clear z_
                 (try clear hcz384_0)
                 (try clear hcz384_1)
                 (try clear hcz384_2)
                 (try clear hcz385_0)
                 (try clear hcz402_0)
                 (try clear hcz402_1)
                 (try clear hcz402_2)
                 have z_ := Aside0.mk (advB HB.out hs_)
                 clear HB
                 have HB := z_
                 clear z_
                 have HZ105 := Aside0.mk (below_size hs_)
                 clear hs_ hb
                 have HO391 := zHO391
                 clear zHO391
                 obtain ⟨Ao107, co108, eo109⟩ := slice_S HO391.out
                 subst eo109
                 refine hK.out _ _ ⟨(by first | exact (blk_cell BK384.out 0).trans rfl | exact (blk_cell (up_ BK384.out) 0).trans rfl), (by first | exact (blk_cell BK384.out 1).trans rfl | exact (blk_cell (up_ BK384.out) 1).trans rfl), (by first | exact (blk_cell BK384.out 2).trans rfl | exact (blk_cell (up_ BK384.out) 2).trans rfl), (by first | exact (blk_cell BK385.out 0).trans rfl | exact (blk_cell (up_ BK385.out) 0).trans rfl)⟩ (fun hHeld => ?_)
                 clear hK K
                 refine nm_ ?_
                 refine on_ 3 (some 31) (fun K hK => ?_)
                 refine goes_ Try.func16 (by kernel_rfl) rfl #[.agg #[.slice A1_0 l1_0.length c1_0]] (by rfl) rfl rfl am_ ?_
                 (with_reducible refine (laws_toRow.calls k _ _ l1_0 t393 _ ?side1 ?side2 E20.out).mono ?_)
                 (case side1 => exact Kd.C_below HR1_0.out (up_ HB.out))
                 (case side2 => exact HC1_0.out)
                 rintro e w110 ⟨v394, rfl, ho0, hb⟩
                 refine ⟨_, rfl, ?_⟩
                 have hs_ := adv (wl := w104) (tow_) hb
                 obtain ⟨P112, hp_, hq_⟩ := made_R (wl := w104) (base := w.heap.size) (tow_) (below_size HB.out) ho0
                 have HP112 := Aside0.mk hp_
                 have zHO395 := Aside0.mk hq_
                 clear hp_ hq_ ho0
                 have z_ := Aside0.mk (Kd.S_below HO391.out hs_)
                 clear HO391
                 have HO391 := z_
                 clear z_
                 have z_ := Aside0.mk (blk_below BK384.out hs_)
                 clear BK384
                 have BK384 := z_
                 clear z_
                 have z_ := Aside0.mk (blk_below BK385.out hs_)
                 clear BK385
                 have BK385 := z_
                 clear z_
                 have z_ := Aside0.mk (blk_below BK402.out hs_)
                 clear BK402
                 have BK402 := z_
                 clear z_
                 (try clear hcz384_0)
                 (try clear hcz384_1)
                 (try clear hcz384_2)
                 (try clear hcz385_0)
                 (try clear hcz402_0)
                 (try clear hcz402_1)
                 (try clear hcz402_2)
                 have z_ := Aside0.mk (advB HB.out hs_)
                 clear HB
                 have HB := z_
                 clear z_
                 have HZ111 := Aside0.mk (below_size hs_)
                 clear hs_ hb
                 have HO395 := zHO395
                 clear zHO395
                 obtain ⟨Ao113, co114, eo115⟩ := slice_R HO395.out
                 subst eo115
                 refine hK.out _ _ ⟨(by first | exact (blk_cell BK384.out 0).trans rfl | exact (blk_cell (up_ BK384.out) 0).trans rfl), (by first | exact (blk_cell BK384.out 1).trans rfl | exact (blk_cell (up_ BK384.out) 1).trans rfl), (by first | exact (blk_cell BK384.out 2).trans rfl | exact (blk_cell (up_ BK384.out) 2).trans rfl), (by first | exact (blk_cell BK385.out 0).trans rfl | exact (blk_cell (up_ BK385.out) 0).trans rfl)⟩ (fun hHeld => ?_)
                 clear hK K
                 refine nm_ ?_
                 refine on_ 4 (some 32) (fun K hK => ?_)
                 refine goes_ Try.func14 (by kernel_rfl) rfl #[.agg #[.int .i64 t388, .slice Ao107 t389.length co108, .int .i64 t392], .agg #[.slice Ao113 t393.length co114]] (by rfl) rfl rfl am_ ?_
                 (with_reducible refine (spec_HearRow.calls k t388 _ _ t389 t392 _ _ t393 t396 t397 t400 t401 _ ?side1 ?side2 ?side3 ?side4 E21.out).mono ?_)
                 (case side1 => repeat (first | exact (Kd.S_reads' HO391.out).2.2 | (with_reducible refine Kd.C_alloc ?_ _) | (with_reducible refine Kd.C_drewN ?_ _) | (with_reducible refine Kd.C_drew ?_)))
                 (case side2 => exact (Kd.S_reads' HO391.out).2.1)
                 (case side3 => repeat (first | exact (Kd.R_reads' HO395.out).2.2 | (with_reducible refine Kd.C_alloc ?_ _) | (with_reducible refine Kd.C_drewN ?_ _) | (with_reducible refine Kd.C_drew ?_)))
                 (case side4 => exact (Kd.R_reads' HO395.out).2.1)
                 rintro e w116 ⟨v398, rfl, ho0, hb⟩
                 refine ⟨_, rfl, ?_⟩
                 have hs_ := adv (wl := w110) (tow_) hb
                 obtain ⟨P118, hp_, hq_⟩ := made_S (wl := w110) (base := w.heap.size) (tow_) (below_size HB.out) ho0
                 have HP118 := Aside0.mk hp_
                 have zHO399 := Aside0.mk hq_
                 clear hp_ hq_ ho0
                 have z_ := Aside0.mk (Kd.S_below HO391.out hs_)
                 clear HO391
                 have HO391 := z_
                 clear z_
                 have z_ := Aside0.mk (Kd.R_below HO395.out hs_)
                 clear HO395
                 have HO395 := z_
                 clear z_
                 have z_ := Aside0.mk (blk_below BK384.out hs_)
                 clear BK384
                 have BK384 := z_
                 clear z_
                 have z_ := Aside0.mk (blk_below BK385.out hs_)
                 clear BK385
                 have BK385 := z_
                 clear z_
                 have z_ := Aside0.mk (blk_below BK402.out hs_)
                 clear BK402
                 have BK402 := z_
                 clear z_
                 (try clear hcz384_0)
                 (try clear hcz384_1)
                 (try clear hcz384_2)
                 (try clear hcz385_0)
                 (try clear hcz402_0)
                 (try clear hcz402_1)
                 (try clear hcz402_2)
                 have z_ := Aside0.mk (advB HB.out hs_)
                 clear HB
                 have HB := z_
                 clear z_
                 have HZ117 := Aside0.mk (below_size hs_)
                 clear hs_ hb
                 have HO399 := zHO399
                 clear zHO399
                 obtain ⟨Ao119, co120, eo121⟩ := slice_S HO399.out
                 subst eo121
                 refine hK.out _ _ ⟨(by first | exact (blk_cell BK384.out 0).trans rfl | exact (blk_cell (up_ BK384.out) 0).trans rfl), (by first | exact (blk_cell BK384.out 1).trans rfl | exact (blk_cell (up_ BK384.out) 1).trans rfl), (by first | exact (blk_cell BK384.out 2).trans rfl | exact (blk_cell (up_ BK384.out) 2).trans rfl), (by first | exact (blk_cell BK385.out 0).trans rfl | exact (blk_cell (up_ BK385.out) 0).trans rfl)⟩ (fun hHeld => ?_)
                 clear hK K
                 refine nm_ ?_
                 refine pu_ 5 (some 27) ?_
                 refine pu_ 6 (some 33) ?_
                 refine pu_ 7 (some 34) ?_
                 exact norm_ (by first | (simp only [putAll, Act.put, List.setIfInBounds_toArray, List.set_cons_zero, List.set_cons_succ]; done) | (simp only [putAll, Act.put, List.setIfInBounds_toArray, List.set_cons_zero, List.set_cons_succ]; rfl)) (hJ (gb402, .agg #[.int .i64 t388, .slice Ao107 t389.length co108, .int .i64 t392], .agg #[.slice Ao113 t393.length co114], Ao119, co120) _ ⟨⟨_, fun k_ hk_ => ⟨⟨Nat.le_trans (Nat.le_trans HZ103.out <| Nat.le_trans HZ105.out <| HZ111.out) (HP118.out k_ hk_).1, Nat.lt_of_lt_of_le (HP118.out k_ hk_).2.1 (Nat.le_refl _), trivial⟩, fun he_ => (fun k_ h1_ h2_ => apart_ (Nat.le_trans HZ105.out <| HZ111.out) (HPB402.out k_ h2_).2.1 (HP118.out k_ h1_).1) k_ hk_ he_⟩, HO399.out⟩, BK402.out, (Nat.le_trans (Nat.le_refl _) (HPB402.out _ rfl).1), BK384.out, BK385.out, (Nat.le_trans HZ103.out <| Nat.le_trans HZ105.out <| Nat.le_trans HZ111.out <| HZ117.out), HB.out⟩)
               rintro ⟨gb402, jx124, jx125, jA126, jc127⟩ w122 ⟨⟨P128, hp0_, ho0_⟩, hbk_, hge_, hb0_, hb1_, hz_, hB_⟩
               refine norm_ (a' := ?_) ?_ ?_
               rotate_left
               ·simp only [putAll, Act.put, List.setIfInBounds_toArray, List.set_cons_zero, List.set_cons_succ]
                rfl
               clear BK384
               have BK384 := Aside0.mk hb0_
               clear hb0_
               clear BK385
               have BK385 := Aside0.mk hb1_
               clear hb1_
               have HP128 := Aside0.mk (fun k_ hk_ => (hp0_ k_ hk_).1)
               have HN128 := Aside0.mk (fun k_ hk_ => (hp0_ k_ hk_).2)
               have HO399 := Aside0.mk ho0_
               clear hp0_ ho0_
               have BK402 := Aside0.mk hbk_
               have HPB402 := Aside0.mk (show ∀ k_, k_ = gb402 → InN w58.heap.size w122.heap.size k_ from fun k_ hk_ => by subst hk_; exact ⟨hge_, blk_lt hbk_, trivial⟩)
               have HZ123 := Aside0.mk hz_
               clear HB
               have HB := Aside0.mk hB_
               clear hbk_ hge_ hz_ hB_
               refine la_ 9 none (fun K hK => ?_)
               obtain ⟨hcz402_0, hcz402_1, hcz402_2⟩ := c3_ BK402
               have hfz402_0 := blk_frozen BK402.out 0
               have hfz402_1 := blk_frozen BK402.out 1
               have hfz402_2 := blk_frozen BK402.out 2
               refine skip_ (w1 := (((w122.setCell ⟨gb402, 0, none⟩ (.int .i64 t396)).setCell ⟨gb402, 1, none⟩ (.slice jA126 t397.length jc127)).setCell ⟨gb402, 2, none⟩ (.int .i64 t400))) (by rfl) rfl ?_ ?_
               ·first | (go_simp; done) | (go_simp; rfl)
               refine hK.out _ _ ?_
               clear hK K
               obtain ⟨w129, hw_⟩ : ∃ x_ : World, x_ = (((w122.setCell ⟨gb402, 0, none⟩ (.int .i64 t396)).setCell ⟨gb402, 1, none⟩ (.slice jA126 t397.length jc127)).setCell ⟨gb402, 2, none⟩ (.int .i64 t400)) := ⟨_, rfl⟩
               rw [← hw_]
               have hk_ : Kept w122 w129 (fun k => k = gb402) := keq (kset (kset (kset (Kept.refl w122 (fun k => k = gb402)) gb402 0 (.int .i64 t396) rfl) gb402 1 (.slice jA126 t397.length jc127) rfl) gb402 2 (.int .i64 t400) rfl) hw_
               (try clear hcz384_0)
               (try clear hcz384_1)
               (try clear hcz384_2)
               (try clear hcz385_0)
               (try clear hcz402_0)
               (try clear hcz402_1)
               (try clear hcz402_2)
               (try clear hfz402_0)
               (try clear hfz402_1)
               (try clear hfz402_2)
               have z_ := Aside0.mk (Kd.S_kept HO399.out hk_ (fun k_ h1_ h2_ => HN128.out k_ h1_ h2_))
               clear HO399
               have HO399 := z_
               clear z_
               have z_ := Aside0.mk (blk_kept BK384.out hk_ (fun he_ => (fun k_ h1_ h2_ => apart_ (Nat.le_trans HZ55.out <| Nat.le_trans HZ57.out <| HZ59.out) (HPB384.out k_ h1_).2.1 (HPB402.out k_ h2_).1) gb384 rfl he_))
               clear BK384
               have BK384 := z_
               clear z_
               have z_ := Aside0.mk (blk_kept BK385.out hk_ (fun he_ => (fun k_ h1_ h2_ => apart_ (Nat.le_trans HZ57.out <| HZ59.out) (HPB385.out k_ h1_).2.1 (HPB402.out k_ h2_).1) gb385 rfl he_))
               clear BK385
               have BK385 := z_
               clear z_
               have z_ := Aside0.mk (show w129.heap[gb402]? = some (.cells #[.int .i64 t396, .slice jA126 t397.length jc127, .int .i64 t400] 30 (0, 0)) from (by rw [hw_]; exact (blk_put (cs' := #[.int .i64 t396, .slice jA126 t397.length jc127, .int .i64 t400]) ((blk_put (cs' := #[.int .i64 t396, .slice jA126 t397.length jc127, .int .i64 0]) ((blk_put (cs' := #[.int .i64 t396, .slice none 0 0, .int .i64 0]) (BK402.out) 0 (.int .i64 t396) rfl)) 1 (.slice jA126 t397.length jc127) rfl)) 2 (.int .i64 t400) rfl)))
               clear BK402
               have BK402 := z_
               clear z_
               have z_ := Aside0.mk (show Below w.heap.size w w129 from (by rw [hw_]; exact bset (bset (bset (HB.out) gb402 0 (.int .i64 t396) (Nat.le_trans (Nat.le_trans HZ53.out <| Nat.le_trans HZ55.out <| Nat.le_trans HZ57.out <| HZ59.out) (HPB402.out gb402 rfl).1)) gb402 1 (.slice jA126 t397.length jc127) (Nat.le_trans (Nat.le_trans HZ53.out <| Nat.le_trans HZ55.out <| Nat.le_trans HZ57.out <| HZ59.out) (HPB402.out gb402 rfl).1)) gb402 2 (.int .i64 t400) (Nat.le_trans (Nat.le_trans HZ53.out <| Nat.le_trans HZ55.out <| Nat.le_trans HZ57.out <| HZ59.out) (HPB402.out gb402 rfl).1)))
               clear HB
               have HB := z_
               clear z_
               have HZ130 := Aside0.mk hk_.1
               clear hk_ hw_
               refine pu_ 10 (some 7) ?_
               refine done_ (by kernel_rfl) ?_
               obtain ⟨hcz384_0, hcz384_1, hcz384_2⟩ := c3_ BK384
               go_wp2_with (first | ((refine gc_ 15 ?_); refine goesL_ (some 36) rfl rfl Try.func15 (by kernel_rfl) rfl #[.agg #[.int .i64 a0_0, .slice A0_1 l0_1.length c0_1, .int .i64 a0_2]] rfl (by (try simp only [List.map_toArray, List.map_cons, List.map_nil]); first | done | rfl) ?_; (with_reducible refine (laws_toLearner.calls k a0_0 _ _ l0_1 a0_2 t403 t404 t407 _ (Kd.C_below HR0_1.out (up_ HB.out)) HC0_1.out E22.out).mono ?_); rintro e w131 ⟨v405, rfl, ho0, hb⟩; refine ⟨_, rfl, ?_⟩; have hs_ := adv (wl := w129) (tow_) hb; obtain ⟨P133, hp_, hq_⟩ := made_S (wl := w129) (base := w.heap.size) (tow_) (below_size HB.out) ho0; have HP133 := Aside0.mk hp_; have zHO406 := Aside0.mk hq_; clear hp_ hq_ ho0; have z_ := Aside0.mk (Kd.S_below HO399.out hs_); clear HO399; have HO399 := z_; clear z_; have z_ := Aside0.mk (blk_below BK384.out hs_); clear BK384; have BK384 := z_; clear z_; have z_ := Aside0.mk (blk_below BK385.out hs_); clear BK385; have BK385 := z_; clear z_; have z_ := Aside0.mk (blk_below BK402.out hs_); clear BK402; have BK402 := z_; clear z_; (try clear hcz384_0); (try clear hcz384_1); (try clear hcz384_2); (try clear hcz385_0); (try clear hcz402_0); (try clear hcz402_1); (try clear hcz402_2); have z_ := Aside0.mk (advB HB.out hs_); clear HB; have HB := z_; clear z_; have HZ132 := Aside0.mk (below_size hs_); clear hs_ hb; have HO406 := zHO406; clear zHO406; obtain ⟨Ao134, co135, eo136⟩ := slice_S HO406.out; subst eo136) | ((refine gd_ 8 ?_); refine bx_ 8 #[.int .i64 0, .slice none 0 0, .int .i64 0] 30 ?_; intro gb408 hg_ w137 hbox_ hb; have hs_ := adv (wl := w131) (tow_) hb; have BK408 := Aside0.mk hbox_; have HPB408 := Aside0.mk (boxIn (wl := w131) (tow_) hg_ hbox_); (try clear hcz384_0); (try clear hcz384_1); (try clear hcz384_2); (try clear hcz385_0); (try clear hcz402_0); (try clear hcz402_1); (try clear hcz402_2); have z_ := Aside0.mk (Kd.S_below HO399.out hs_); clear HO399; have HO399 := z_; clear z_; have z_ := Aside0.mk (Kd.S_below HO406.out hs_); clear HO406; have HO406 := z_; clear z_; have z_ := Aside0.mk (blk_below BK384.out hs_); clear BK384; have BK384 := z_; clear z_; have z_ := Aside0.mk (blk_below BK385.out hs_); clear BK385; have BK385 := z_; clear z_; have z_ := Aside0.mk (blk_below BK402.out hs_); clear BK402; have BK402 := z_; clear z_; have z_ := Aside0.mk (advB HB.out hs_); clear HB; have HB := z_; clear z_; have HZ138 := Aside0.mk (below_size hs_); clear hs_ hb hg_ hbox_; obtain ⟨hcz408_0, hcz408_1, hcz408_2⟩ := c3_ BK408; have hfz408_0 := blk_frozen BK408.out 0; have hfz408_1 := blk_frozen BK408.out 1; have hfz408_2 := blk_frozen BK408.out 2) | ((with_reducible refine gate_store (t := 30) (p := 8) rfl ?_); refine store_event (t := 30) (p := 8) (v := ?vo_w139) (w1 := (((w137.setCell ⟨gb408, 0, none⟩ (.int .i64 t403)).setCell ⟨gb408, 1, none⟩ (.slice Ao134 t404.length co135)).setCell ⟨gb408, 2, none⟩ (.int .i64 t407))) ?hg ?ho ?hn ?hr ?_; (case ho => rfl); (case hg => rfl); (case hn => rfl); (case hr => first | (go_simp; done) | (go_simp; rfl)); intro w139 hw_; have hk_ : Kept w137 w139 (fun k => k = gb408) := keq (kset (kset (kset (Kept.refl w137 (fun k => k = gb408)) gb408 0 (.int .i64 t403) rfl) gb408 1 (.slice Ao134 t404.length co135) rfl) gb408 2 (.int .i64 t407) rfl) hw_; (try clear hcz384_0); (try clear hcz384_1); (try clear hcz384_2); (try clear hcz385_0); (try clear hcz402_0); (try clear hcz402_1); (try clear hcz402_2); (try clear hcz408_0); (try clear hcz408_1); (try clear hcz408_2); (try clear hfz408_0); (try clear hfz408_1); (try clear hfz408_2); have z_ := Aside0.mk (Kd.S_kept HO399.out hk_ (fun k_ h1_ h2_ => apart_ (Nat.le_trans HZ130.out <| HZ132.out) (HP128.out k_ h1_).2.1 (HPB408.out k_ h2_).1)); clear HO399; have HO399 := z_; clear z_; have z_ := Aside0.mk (Kd.S_kept HO406.out hk_ (fun k_ h1_ h2_ => apart_ (Nat.le_refl _) (HP133.out k_ h1_).2.1 (HPB408.out k_ h2_).1)); clear HO406; have HO406 := z_; clear z_; have z_ := Aside0.mk (blk_kept BK384.out hk_ (fun he_ => (fun k_ h1_ h2_ => apart_ (Nat.le_trans HZ55.out <| Nat.le_trans HZ57.out <| Nat.le_trans HZ59.out <| Nat.le_trans HZ123.out <| Nat.le_trans HZ130.out <| HZ132.out) (HPB384.out k_ h1_).2.1 (HPB408.out k_ h2_).1) gb384 rfl he_)); clear BK384; have BK384 := z_; clear z_; have z_ := Aside0.mk (blk_kept BK385.out hk_ (fun he_ => (fun k_ h1_ h2_ => apart_ (Nat.le_trans HZ57.out <| Nat.le_trans HZ59.out <| Nat.le_trans HZ123.out <| Nat.le_trans HZ130.out <| HZ132.out) (HPB385.out k_ h1_).2.1 (HPB408.out k_ h2_).1) gb385 rfl he_)); clear BK385; have BK385 := z_; clear z_; have z_ := Aside0.mk (blk_kept BK402.out hk_ (fun he_ => (fun k_ h1_ h2_ => apart_ (Nat.le_trans HZ130.out <| HZ132.out) (HPB402.out k_ h1_).2.1 (HPB408.out k_ h2_).1) gb402 rfl he_)); clear BK402; have BK402 := z_; clear z_; have z_ := Aside0.mk (show w139.heap[gb408]? = some (.cells #[.int .i64 t403, .slice Ao134 t404.length co135, .int .i64 t407] 30 (0, 0)) from (by rw [hw_]; exact (blk_put (cs' := #[.int .i64 t403, .slice Ao134 t404.length co135, .int .i64 t407]) ((blk_put (cs' := #[.int .i64 t403, .slice Ao134 t404.length co135, .int .i64 0]) ((blk_put (cs' := #[.int .i64 t403, .slice none 0 0, .int .i64 0]) (BK408.out) 0 (.int .i64 t403) rfl)) 1 (.slice Ao134 t404.length co135) rfl)) 2 (.int .i64 t407) rfl))); clear BK408; have BK408 := z_; clear z_; have z_ := Aside0.mk (show Below w.heap.size w w139 from (by rw [hw_]; exact bset (bset (bset (HB.out) gb408 0 (.int .i64 t403) (Nat.le_trans (Nat.le_trans HZ53.out <| Nat.le_trans HZ55.out <| Nat.le_trans HZ57.out <| Nat.le_trans HZ59.out <| Nat.le_trans HZ123.out <| Nat.le_trans HZ130.out <| HZ132.out) (HPB408.out gb408 rfl).1)) gb408 1 (.slice Ao134 t404.length co135) (Nat.le_trans (Nat.le_trans HZ53.out <| Nat.le_trans HZ55.out <| Nat.le_trans HZ57.out <| Nat.le_trans HZ59.out <| Nat.le_trans HZ123.out <| Nat.le_trans HZ130.out <| HZ132.out) (HPB408.out gb408 rfl).1)) gb408 2 (.int .i64 t407) (Nat.le_trans (Nat.le_trans HZ53.out <| Nat.le_trans HZ55.out <| Nat.le_trans HZ57.out <| Nat.le_trans HZ59.out <| Nat.le_trans HZ123.out <| Nat.le_trans HZ130.out <| HZ132.out) (HPB408.out gb408 rfl).1))); clear HB; have HB := z_; clear z_; have HZ140 := Aside0.mk hk_.1; clear hk_ hw_; have hcz385_0 := c1_ BK385) | ((refine gc_ 16 ?_); refine goesL_ (some 38) rfl rfl Try.func16 (by kernel_rfl) rfl #[.agg #[.slice A1_0 l1_0.length c1_0]] rfl (by (try simp only [List.map_toArray, List.map_cons, List.map_nil]); first | done | rfl) ?_; (with_reducible refine (laws_toRow.calls k _ _ l1_0 t409 _ (Kd.C_below HR1_0.out (up_ HB.out)) HC1_0.out E23.out).mono ?_); rintro e w141 ⟨v410, rfl, ho0, hb⟩; refine ⟨_, rfl, ?_⟩; have hs_ := adv (wl := w139) (tow_) hb; obtain ⟨P143, hp_, hq_⟩ := made_R (wl := w139) (base := w.heap.size) (tow_) (below_size HB.out) ho0; have HP143 := Aside0.mk hp_; have zHO411 := Aside0.mk hq_; clear hp_ hq_ ho0; have z_ := Aside0.mk (Kd.S_below HO399.out hs_); clear HO399; have HO399 := z_; clear z_; have z_ := Aside0.mk (Kd.S_below HO406.out hs_); clear HO406; have HO406 := z_; clear z_; have z_ := Aside0.mk (blk_below BK384.out hs_); clear BK384; have BK384 := z_; clear z_; have z_ := Aside0.mk (blk_below BK385.out hs_); clear BK385; have BK385 := z_; clear z_; have z_ := Aside0.mk (blk_below BK402.out hs_); clear BK402; have BK402 := z_; clear z_; have z_ := Aside0.mk (blk_below BK408.out hs_); clear BK408; have BK408 := z_; clear z_; (try clear hcz384_0); (try clear hcz384_1); (try clear hcz384_2); (try clear hcz385_0); (try clear hcz402_0); (try clear hcz402_1); (try clear hcz402_2); (try clear hcz408_0); (try clear hcz408_1); (try clear hcz408_2); have z_ := Aside0.mk (advB HB.out hs_); clear HB; have HB := z_; clear z_; have HZ142 := Aside0.mk (below_size hs_); clear hs_ hb; have HO411 := zHO411; clear zHO411; obtain ⟨Ao144, co145, eo146⟩ := slice_R HO411.out; subst eo146) | ((refine gd_ 9 ?_); refine bx_ 9 #[.slice none 0 0] 34 ?_; intro gb412 hg_ w147 hbox_ hb; have hs_ := adv (wl := w141) (tow_) hb; have BK412 := Aside0.mk hbox_; have HPB412 := Aside0.mk (boxIn (wl := w141) (tow_) hg_ hbox_); (try clear hcz384_0); (try clear hcz384_1); (try clear hcz384_2); (try clear hcz385_0); (try clear hcz402_0); (try clear hcz402_1); (try clear hcz402_2); (try clear hcz408_0); (try clear hcz408_1); (try clear hcz408_2); have z_ := Aside0.mk (Kd.S_below HO399.out hs_); clear HO399; have HO399 := z_; clear z_; have z_ := Aside0.mk (Kd.S_below HO406.out hs_); clear HO406; have HO406 := z_; clear z_; have z_ := Aside0.mk (Kd.R_below HO411.out hs_); clear HO411; have HO411 := z_; clear z_; have z_ := Aside0.mk (blk_below BK384.out hs_); clear BK384; have BK384 := z_; clear z_; have z_ := Aside0.mk (blk_below BK385.out hs_); clear BK385; have BK385 := z_; clear z_; have z_ := Aside0.mk (blk_below BK402.out hs_); clear BK402; have BK402 := z_; clear z_; have z_ := Aside0.mk (blk_below BK408.out hs_); clear BK408; have BK408 := z_; clear z_; have z_ := Aside0.mk (advB HB.out hs_); clear HB; have HB := z_; clear z_; have HZ148 := Aside0.mk (below_size hs_); clear hs_ hb hg_ hbox_; have hcz412_0 := c1_ BK412; have hfz412_0 := blk_frozen BK412.out 0) | ((with_reducible refine gate_store (t := 34) (p := 9) rfl ?_); refine store_event (t := 34) (p := 9) (v := ?vo_w149) (w1 := (w147.setCell ⟨gb412, 0, none⟩ (.slice Ao144 t409.length co145))) ?hg ?ho ?hn ?hr ?_; (case ho => rfl); (case hg => rfl); (case hn => rfl); (case hr => first | (go_simp; done) | (go_simp; rfl)); intro w149 hw_; have hk_ : Kept w147 w149 (fun k => k = gb412) := keq (kset (Kept.refl w147 (fun k => k = gb412)) gb412 0 (.slice Ao144 t409.length co145) rfl) hw_; (try clear hcz384_0); (try clear hcz384_1); (try clear hcz384_2); (try clear hcz385_0); (try clear hcz402_0); (try clear hcz402_1); (try clear hcz402_2); (try clear hcz408_0); (try clear hcz408_1); (try clear hcz408_2); (try clear hcz412_0); (try clear hfz412_0); have z_ := Aside0.mk (Kd.S_kept HO399.out hk_ (fun k_ h1_ h2_ => apart_ (Nat.le_trans HZ130.out <| Nat.le_trans HZ132.out <| Nat.le_trans HZ138.out <| Nat.le_trans HZ140.out <| HZ142.out) (HP128.out k_ h1_).2.1 (HPB412.out k_ h2_).1)); clear HO399; have HO399 := z_; clear z_; have z_ := Aside0.mk (Kd.S_kept HO406.out hk_ (fun k_ h1_ h2_ => apart_ (Nat.le_trans HZ138.out <| Nat.le_trans HZ140.out <| HZ142.out) (HP133.out k_ h1_).2.1 (HPB412.out k_ h2_).1)); clear HO406; have HO406 := z_; clear z_; have z_ := Aside0.mk (Kd.R_kept HO411.out hk_ (fun k_ h1_ h2_ => apart_ (Nat.le_refl _) (HP143.out k_ h1_).2.1 (HPB412.out k_ h2_).1)); clear HO411; have HO411 := z_; clear z_; have z_ := Aside0.mk (blk_kept BK384.out hk_ (fun he_ => (fun k_ h1_ h2_ => apart_ (Nat.le_trans HZ55.out <| Nat.le_trans HZ57.out <| Nat.le_trans HZ59.out <| Nat.le_trans HZ123.out <| Nat.le_trans HZ130.out <| Nat.le_trans HZ132.out <| Nat.le_trans HZ138.out <| Nat.le_trans HZ140.out <| HZ142.out) (HPB384.out k_ h1_).2.1 (HPB412.out k_ h2_).1) gb384 rfl he_)); clear BK384; have BK384 := z_; clear z_; have z_ := Aside0.mk (blk_kept BK385.out hk_ (fun he_ => (fun k_ h1_ h2_ => apart_ (Nat.le_trans HZ57.out <| Nat.le_trans HZ59.out <| Nat.le_trans HZ123.out <| Nat.le_trans HZ130.out <| Nat.le_trans HZ132.out <| Nat.le_trans HZ138.out <| Nat.le_trans HZ140.out <| HZ142.out) (HPB385.out k_ h1_).2.1 (HPB412.out k_ h2_).1) gb385 rfl he_)); clear BK385; have BK385 := z_; clear z_; have z_ := Aside0.mk (blk_kept BK402.out hk_ (fun he_ => (fun k_ h1_ h2_ => apart_ (Nat.le_trans HZ130.out <| Nat.le_trans HZ132.out <| Nat.le_trans HZ138.out <| Nat.le_trans HZ140.out <| HZ142.out) (HPB402.out k_ h1_).2.1 (HPB412.out k_ h2_).1) gb402 rfl he_)); clear BK402; have BK402 := z_; clear z_; have z_ := Aside0.mk (blk_kept BK408.out hk_ (fun he_ => (fun k_ h1_ h2_ => apart_ (Nat.le_trans HZ140.out <| HZ142.out) (HPB408.out k_ h1_).2.1 (HPB412.out k_ h2_).1) gb408 rfl he_)); clear BK408; have BK408 := z_; clear z_; have z_ := Aside0.mk (show w149.heap[gb412]? = some (.cells #[.slice Ao144 t409.length co145] 34 (0, 0)) from (by rw [hw_]; exact (blk_put (cs' := #[.slice Ao144 t409.length co145]) (BK412.out) 0 (.slice Ao144 t409.length co145) rfl))); clear BK412; have BK412 := z_; clear z_; have z_ := Aside0.mk (show Below w.heap.size w w149 from (by rw [hw_]; exact bset (HB.out) gb412 0 (.slice Ao144 t409.length co145) (Nat.le_trans (Nat.le_trans HZ53.out <| Nat.le_trans HZ55.out <| Nat.le_trans HZ57.out <| Nat.le_trans HZ59.out <| Nat.le_trans HZ123.out <| Nat.le_trans HZ130.out <| Nat.le_trans HZ132.out <| Nat.le_trans HZ138.out <| Nat.le_trans HZ140.out <| HZ142.out) (HPB412.out gb412 rfl).1))); clear HB; have HB := z_; clear z_; have HZ150 := Aside0.mk hk_.1; clear hk_ hw_; obtain ⟨hcz408_0, hcz408_1, hcz408_2⟩ := c3_ BK408; have hcz412_0 := c1_ BK412) | ((refine gc_ 17 ?_); refine goesL_ (some 42) rfl rfl Try.func17 (by kernel_rfl) rfl #[.agg #[.int .i64 t403, .slice Ao134 t404.length co135, .int .i64 t407], .agg #[.slice Ao144 t409.length co145]] rfl (by (try simp only [List.map_toArray, List.map_cons, List.map_nil]); first | done | rfl) ?_; (with_reducible refine (impl_HearRow.calls k t403 _ _ t404 t407 _ _ t409 t413 t414 t417 t418 _ ?side1 ?side2 ?side3 ?side4 E24.out).mono ?_); (case side1 => repeat (first | exact (Kd.S_reads' HO406.out).2.2 | (with_reducible refine Kd.C_alloc ?_ _) | (with_reducible refine Kd.C_drewN ?_ _) | (with_reducible refine Kd.C_drew ?_))); (case side2 => exact (Kd.S_reads' HO406.out).2.1); (case side3 => repeat (first | exact (Kd.R_reads' HO411.out).2.2 | (with_reducible refine Kd.C_alloc ?_ _) | (with_reducible refine Kd.C_drewN ?_ _) | (with_reducible refine Kd.C_drew ?_))); (case side4 => exact (Kd.R_reads' HO411.out).2.1); rintro e w151 ⟨v415, rfl, ho0, hb⟩; refine ⟨_, rfl, ?_⟩; have hs_ := adv (wl := w149) (tow_) hb; obtain ⟨P153, hp_, hq_⟩ := made_S (wl := w149) (base := w.heap.size) (tow_) (below_size HB.out) ho0; have HP153 := Aside0.mk hp_; have zHO416 := Aside0.mk hq_; clear hp_ hq_ ho0; have z_ := Aside0.mk (Kd.S_below HO399.out hs_); clear HO399; have HO399 := z_; clear z_; have z_ := Aside0.mk (Kd.S_below HO406.out hs_); clear HO406; have HO406 := z_; clear z_; have z_ := Aside0.mk (Kd.R_below HO411.out hs_); clear HO411; have HO411 := z_; clear z_; have z_ := Aside0.mk (blk_below BK384.out hs_); clear BK384; have BK384 := z_; clear z_; have z_ := Aside0.mk (blk_below BK385.out hs_); clear BK385; have BK385 := z_; clear z_; have z_ := Aside0.mk (blk_below BK402.out hs_); clear BK402; have BK402 := z_; clear z_; have z_ := Aside0.mk (blk_below BK408.out hs_); clear BK408; have BK408 := z_; clear z_; have z_ := Aside0.mk (blk_below BK412.out hs_); clear BK412; have BK412 := z_; clear z_; (try clear hcz384_0); (try clear hcz384_1); (try clear hcz384_2); (try clear hcz385_0); (try clear hcz402_0); (try clear hcz402_1); (try clear hcz402_2); (try clear hcz408_0); (try clear hcz408_1); (try clear hcz408_2); (try clear hcz412_0); have z_ := Aside0.mk (advB HB.out hs_); clear HB; have HB := z_; clear z_; have HZ152 := Aside0.mk (below_size hs_); clear hs_ hb; have HO416 := zHO416; clear zHO416; obtain ⟨Ao154, co155, eo156⟩ := slice_S HO416.out; subst eo156) | ((refine gd_ 10 ?_); refine bx_ 10 #[.int .i64 0, .slice none 0 0, .int .i64 0] 30 ?_; intro gb419 hg_ w157 hbox_ hb; have hs_ := adv (wl := w151) (tow_) hb; have BK419 := Aside0.mk hbox_; have HPB419 := Aside0.mk (boxIn (wl := w151) (tow_) hg_ hbox_); (try clear hcz384_0); (try clear hcz384_1); (try clear hcz384_2); (try clear hcz385_0); (try clear hcz402_0); (try clear hcz402_1); (try clear hcz402_2); (try clear hcz408_0); (try clear hcz408_1); (try clear hcz408_2); (try clear hcz412_0); have z_ := Aside0.mk (Kd.S_below HO399.out hs_); clear HO399; have HO399 := z_; clear z_; have z_ := Aside0.mk (Kd.S_below HO406.out hs_); clear HO406; have HO406 := z_; clear z_; have z_ := Aside0.mk (Kd.R_below HO411.out hs_); clear HO411; have HO411 := z_; clear z_; have z_ := Aside0.mk (Kd.S_below HO416.out hs_); clear HO416; have HO416 := z_; clear z_; have z_ := Aside0.mk (blk_below BK384.out hs_); clear BK384; have BK384 := z_; clear z_; have z_ := Aside0.mk (blk_below BK385.out hs_); clear BK385; have BK385 := z_; clear z_; have z_ := Aside0.mk (blk_below BK402.out hs_); clear BK402; have BK402 := z_; clear z_; have z_ := Aside0.mk (blk_below BK408.out hs_); clear BK408; have BK408 := z_; clear z_; have z_ := Aside0.mk (blk_below BK412.out hs_); clear BK412; have BK412 := z_; clear z_; have z_ := Aside0.mk (advB HB.out hs_); clear HB; have HB := z_; clear z_; have HZ158 := Aside0.mk (below_size hs_); clear hs_ hb hg_ hbox_; obtain ⟨hcz419_0, hcz419_1, hcz419_2⟩ := c3_ BK419; have hfz419_0 := blk_frozen BK419.out 0; have hfz419_1 := blk_frozen BK419.out 1; have hfz419_2 := blk_frozen BK419.out 2) | ((with_reducible refine gate_store (t := 30) (p := 10) rfl ?_); refine store_event (t := 30) (p := 10) (v := ?vo_w159) (w1 := (((w157.setCell ⟨gb419, 0, none⟩ (.int .i64 t413)).setCell ⟨gb419, 1, none⟩ (.slice Ao154 t414.length co155)).setCell ⟨gb419, 2, none⟩ (.int .i64 t417))) ?hg ?ho ?hn ?hr ?_; (case ho => rfl); (case hg => rfl); (case hn => rfl); (case hr => first | (go_simp; done) | (go_simp; rfl)); intro w159 hw_; have hk_ : Kept w157 w159 (fun k => k = gb419) := keq (kset (kset (kset (Kept.refl w157 (fun k => k = gb419)) gb419 0 (.int .i64 t413) rfl) gb419 1 (.slice Ao154 t414.length co155) rfl) gb419 2 (.int .i64 t417) rfl) hw_; (try clear hcz384_0); (try clear hcz384_1); (try clear hcz384_2); (try clear hcz385_0); (try clear hcz402_0); (try clear hcz402_1); (try clear hcz402_2); (try clear hcz408_0); (try clear hcz408_1); (try clear hcz408_2); (try clear hcz412_0); (try clear hcz419_0); (try clear hcz419_1); (try clear hcz419_2); (try clear hfz419_0); (try clear hfz419_1); (try clear hfz419_2); have z_ := Aside0.mk (Kd.S_kept HO399.out hk_ (fun k_ h1_ h2_ => apart_ (Nat.le_trans HZ130.out <| Nat.le_trans HZ132.out <| Nat.le_trans HZ138.out <| Nat.le_trans HZ140.out <| Nat.le_trans HZ142.out <| Nat.le_trans HZ148.out <| Nat.le_trans HZ150.out <| HZ152.out) (HP128.out k_ h1_).2.1 (HPB419.out k_ h2_).1)); clear HO399; have HO399 := z_; clear z_; have z_ := Aside0.mk (Kd.S_kept HO406.out hk_ (fun k_ h1_ h2_ => apart_ (Nat.le_trans HZ138.out <| Nat.le_trans HZ140.out <| Nat.le_trans HZ142.out <| Nat.le_trans HZ148.out <| Nat.le_trans HZ150.out <| HZ152.out) (HP133.out k_ h1_).2.1 (HPB419.out k_ h2_).1)); clear HO406; have HO406 := z_; clear z_; have z_ := Aside0.mk (Kd.R_kept HO411.out hk_ (fun k_ h1_ h2_ => apart_ (Nat.le_trans HZ148.out <| Nat.le_trans HZ150.out <| HZ152.out) (HP143.out k_ h1_).2.1 (HPB419.out k_ h2_).1)); clear HO411; have HO411 := z_; clear z_; have z_ := Aside0.mk (Kd.S_kept HO416.out hk_ (fun k_ h1_ h2_ => apart_ (Nat.le_refl _) (HP153.out k_ h1_).2.1 (HPB419.out k_ h2_).1)); clear HO416; have HO416 := z_; clear z_; have z_ := Aside0.mk (blk_kept BK384.out hk_ (fun he_ => (fun k_ h1_ h2_ => apart_ (Nat.le_trans HZ55.out <| Nat.le_trans HZ57.out <| Nat.le_trans HZ59.out <| Nat.le_trans HZ123.out <| Nat.le_trans HZ130.out <| Nat.le_trans HZ132.out <| Nat.le_trans HZ138.out <| Nat.le_trans HZ140.out <| Nat.le_trans HZ142.out <| Nat.le_trans HZ148.out <| Nat.le_trans HZ150.out <| HZ152.out) (HPB384.out k_ h1_).2.1 (HPB419.out k_ h2_).1) gb384 rfl he_)); clear BK384; have BK384 := z_; clear z_; have z_ := Aside0.mk (blk_kept BK385.out hk_ (fun he_ => (fun k_ h1_ h2_ => apart_ (Nat.le_trans HZ57.out <| Nat.le_trans HZ59.out <| Nat.le_trans HZ123.out <| Nat.le_trans HZ130.out <| Nat.le_trans HZ132.out <| Nat.le_trans HZ138.out <| Nat.le_trans HZ140.out <| Nat.le_trans HZ142.out <| Nat.le_trans HZ148.out <| Nat.le_trans HZ150.out <| HZ152.out) (HPB385.out k_ h1_).2.1 (HPB419.out k_ h2_).1) gb385 rfl he_)); clear BK385; have BK385 := z_; clear z_; have z_ := Aside0.mk (blk_kept BK402.out hk_ (fun he_ => (fun k_ h1_ h2_ => apart_ (Nat.le_trans HZ130.out <| Nat.le_trans HZ132.out <| Nat.le_trans HZ138.out <| Nat.le_trans HZ140.out <| Nat.le_trans HZ142.out <| Nat.le_trans HZ148.out <| Nat.le_trans HZ150.out <| HZ152.out) (HPB402.out k_ h1_).2.1 (HPB419.out k_ h2_).1) gb402 rfl he_)); clear BK402; have BK402 := z_; clear z_; have z_ := Aside0.mk (blk_kept BK408.out hk_ (fun he_ => (fun k_ h1_ h2_ => apart_ (Nat.le_trans HZ140.out <| Nat.le_trans HZ142.out <| Nat.le_trans HZ148.out <| Nat.le_trans HZ150.out <| HZ152.out) (HPB408.out k_ h1_).2.1 (HPB419.out k_ h2_).1) gb408 rfl he_)); clear BK408; have BK408 := z_; clear z_; have z_ := Aside0.mk (blk_kept BK412.out hk_ (fun he_ => (fun k_ h1_ h2_ => apart_ (Nat.le_trans HZ150.out <| HZ152.out) (HPB412.out k_ h1_).2.1 (HPB419.out k_ h2_).1) gb412 rfl he_)); clear BK412; have BK412 := z_; clear z_; have z_ := Aside0.mk (show w159.heap[gb419]? = some (.cells #[.int .i64 t413, .slice Ao154 t414.length co155, .int .i64 t417] 30 (0, 0)) from (by rw [hw_]; exact (blk_put (cs' := #[.int .i64 t413, .slice Ao154 t414.length co155, .int .i64 t417]) ((blk_put (cs' := #[.int .i64 t413, .slice Ao154 t414.length co155, .int .i64 0]) ((blk_put (cs' := #[.int .i64 t413, .slice none 0 0, .int .i64 0]) (BK419.out) 0 (.int .i64 t413) rfl)) 1 (.slice Ao154 t414.length co155) rfl)) 2 (.int .i64 t417) rfl))); clear BK419; have BK419 := z_; clear z_; have z_ := Aside0.mk (show Below w.heap.size w w159 from (by rw [hw_]; exact bset (bset (bset (HB.out) gb419 0 (.int .i64 t413) (Nat.le_trans (Nat.le_trans HZ53.out <| Nat.le_trans HZ55.out <| Nat.le_trans HZ57.out <| Nat.le_trans HZ59.out <| Nat.le_trans HZ123.out <| Nat.le_trans HZ130.out <| Nat.le_trans HZ132.out <| Nat.le_trans HZ138.out <| Nat.le_trans HZ140.out <| Nat.le_trans HZ142.out <| Nat.le_trans HZ148.out <| Nat.le_trans HZ150.out <| HZ152.out) (HPB419.out gb419 rfl).1)) gb419 1 (.slice Ao154 t414.length co155) (Nat.le_trans (Nat.le_trans HZ53.out <| Nat.le_trans HZ55.out <| Nat.le_trans HZ57.out <| Nat.le_trans HZ59.out <| Nat.le_trans HZ123.out <| Nat.le_trans HZ130.out <| Nat.le_trans HZ132.out <| Nat.le_trans HZ138.out <| Nat.le_trans HZ140.out <| Nat.le_trans HZ142.out <| Nat.le_trans HZ148.out <| Nat.le_trans HZ150.out <| HZ152.out) (HPB419.out gb419 rfl).1)) gb419 2 (.int .i64 t417) (Nat.le_trans (Nat.le_trans HZ53.out <| Nat.le_trans HZ55.out <| Nat.le_trans HZ57.out <| Nat.le_trans HZ59.out <| Nat.le_trans HZ123.out <| Nat.le_trans HZ130.out <| Nat.le_trans HZ132.out <| Nat.le_trans HZ138.out <| Nat.le_trans HZ140.out <| Nat.le_trans HZ142.out <| Nat.le_trans HZ148.out <| Nat.le_trans HZ150.out <| HZ152.out) (HPB419.out gb419 rfl).1))); clear HB; have HB := z_; clear z_; have HZ160 := Aside0.mk hk_.1; clear hk_ hw_; obtain ⟨hcz419_0, hcz419_1, hcz419_2⟩ := c3_ BK419; obtain ⟨hcz402_0, hcz402_1, hcz402_2⟩ := c3_ BK402) | ((refine gc_ 18 ?_); refine goesL_ (some 47) rfl rfl Try.func18 (by kernel_rfl) rfl #[.agg #[.int .i64 t413, .slice Ao154 t414.length co155, .int .i64 t417], .agg #[.int .i64 t396, .slice jA126 t397.length jc127, .int .i64 t400]] rfl (by (try simp only [List.map_toArray, List.map_cons, List.map_nil]); first | done | rfl) ?_; (with_reducible refine (laws_eqLearner.calls k t413 _ _ t414 t417 t396 _ _ t397 t400 true _ ?side1 ?side2 ?side3 ?side4 E25.out).mono ?_); (case side1 => repeat (first | exact (Kd.S_reads' HO416.out).2.2 | (with_reducible refine Kd.C_alloc ?_ _) | (with_reducible refine Kd.C_drewN ?_ _) | (with_reducible refine Kd.C_drew ?_))); (case side2 => exact (Kd.S_reads' HO416.out).2.1); (case side3 => repeat (first | exact (Kd.S_reads' HO399.out).2.2 | (with_reducible refine Kd.C_alloc ?_ _) | (with_reducible refine Kd.C_drewN ?_ _) | (with_reducible refine Kd.C_drew ?_))); (case side4 => exact (Kd.S_reads' HO399.out).2.1); rintro e w161 ⟨rfl, hb⟩; refine ⟨_, rfl, ?_⟩; have hs_ := adv (wl := w159) (tow_) hb; have z_ := Aside0.mk (Kd.S_below HO399.out hs_); clear HO399; have HO399 := z_; clear z_; have z_ := Aside0.mk (Kd.S_below HO406.out hs_); clear HO406; have HO406 := z_; clear z_; have z_ := Aside0.mk (Kd.R_below HO411.out hs_); clear HO411; have HO411 := z_; clear z_; have z_ := Aside0.mk (Kd.S_below HO416.out hs_); clear HO416; have HO416 := z_; clear z_; have z_ := Aside0.mk (blk_below BK384.out hs_); clear BK384; have BK384 := z_; clear z_; have z_ := Aside0.mk (blk_below BK385.out hs_); clear BK385; have BK385 := z_; clear z_; have z_ := Aside0.mk (blk_below BK402.out hs_); clear BK402; have BK402 := z_; clear z_; have z_ := Aside0.mk (blk_below BK408.out hs_); clear BK408; have BK408 := z_; clear z_; have z_ := Aside0.mk (blk_below BK412.out hs_); clear BK412; have BK412 := z_; clear z_; have z_ := Aside0.mk (blk_below BK419.out hs_); clear BK419; have BK419 := z_; clear z_; (try clear hcz384_0); (try clear hcz384_1); (try clear hcz384_2); (try clear hcz385_0); (try clear hcz402_0); (try clear hcz402_1); (try clear hcz402_2); (try clear hcz408_0); (try clear hcz408_1); (try clear hcz408_2); (try clear hcz412_0); (try clear hcz419_0); (try clear hcz419_1); (try clear hcz419_2); have z_ := Aside0.mk (advB HB.out hs_); clear HB; have HB := z_; clear z_; have HZ162 := Aside0.mk (below_size hs_); clear hs_ hb; obtain ⟨hcz408_0, hcz408_1, hcz408_2⟩ := c3_ BK408; obtain ⟨hcz384_0, hcz384_1, hcz384_2⟩ := c3_ BK384))
               refine start_ (n := 5) (S := fun w' => w'.cell? ⟨gb408, 0, none⟩ = some (.int .i64 t403) ∧ w'.cell? ⟨gb408, 1, none⟩ = some (.slice Ao134 t404.length co135) ∧ w'.cell? ⟨gb408, 2, none⟩ = some (.int .i64 t407) ∧ w'.cell? ⟨gb384, 0, none⟩ = some (.int .i64 a0_0) ∧ w'.cell? ⟨gb384, 1, none⟩ = some (.slice A0_1 l0_1.length c0_1) ∧ w'.cell? ⟨gb384, 2, none⟩ = some (.int .i64 a0_2)) (ds := []) #[false, false, false, false, false] (by kernel_rfl) rfl rfl ⟨(by first | exact (blk_cell BK408.out 0).trans rfl | exact (blk_cell (up_ BK408.out) 0).trans rfl), (by first | exact (blk_cell BK408.out 1).trans rfl | exact (blk_cell (up_ BK408.out) 1).trans rfl), (by first | exact (blk_cell BK408.out 2).trans rfl | exact (blk_cell (up_ BK408.out) 2).trans rfl), (by first | exact (blk_cell BK384.out 0).trans rfl | exact (blk_cell (up_ BK384.out) 0).trans rfl), (by first | exact (blk_cell BK384.out 1).trans rfl | exact (blk_cell (up_ BK384.out) 1).trans rfl), (by first | exact (blk_cell BK384.out 2).trans rfl | exact (blk_cell (up_ BK384.out) 2).trans rfl)⟩ (fun hHeld => ?_)
               refine tk_ 0 (some 54) hHeld ?_
               refine tk_ 1 (some 55) hHeld ?_
               refine on_ 2 (some 56) (fun K hK => ?_)
               refine goes_ Try.func15 (by kernel_rfl) rfl #[.agg #[.int .i64 a0_0, .slice A0_1 l0_1.length c0_1, .int .i64 a0_2]] (by rfl) rfl rfl am_ ?_
               (with_reducible refine (laws_toLearner.calls k a0_0 _ _ l0_1 a0_2 t421 t422 t425 _ ?side1 ?side2 E28.out).mono ?_)
               (case side1 => exact Kd.C_below HR0_1.out (up_ HB.out))
               (case side2 => exact HC0_1.out)
               rintro e w163 ⟨v423, rfl, ho0, hb⟩
               refine ⟨_, rfl, ?_⟩
               have hs_ := adv (wl := w161) (tow_) hb
               obtain ⟨P165, hp_, hq_⟩ := made_S (wl := w161) (base := w.heap.size) (tow_) (below_size HB.out) ho0
               have HP165 := Aside0.mk hp_
               have zHO424 := Aside0.mk hq_
               clear hp_ hq_ ho0
               have z_ := Aside0.mk (Kd.S_below HO399.out hs_)
               clear HO399
               have HO399 := z_
               clear z_
               have z_ := Aside0.mk (Kd.S_below HO406.out hs_)
               clear HO406
               have HO406 := z_
               clear z_
               have z_ := Aside0.mk (Kd.R_below HO411.out hs_)
               clear HO411
               have HO411 := z_
               clear z_
               have z_ := Aside0.mk (Kd.S_below HO416.out hs_)
               clear HO416
               have HO416 := z_
               clear z_
               have z_ := Aside0.mk (blk_below BK384.out hs_)
               clear BK384
               have BK384 := z_
               clear z_
               have z_ := Aside0.mk (blk_below BK385.out hs_)
               clear BK385
               have BK385 := z_
               clear z_
               have z_ := Aside0.mk (blk_below BK402.out hs_)
               clear BK402
               have BK402 := z_
               clear z_
               have z_ := Aside0.mk (blk_below BK408.out hs_)
               clear BK408
               have BK408 := z_
               clear z_
               have z_ := Aside0.mk (blk_below BK412.out hs_)
               clear BK412
               have BK412 := z_
               clear z_
               have z_ := Aside0.mk (blk_below BK419.out hs_)
               clear BK419
               have BK419 := z_
               clear z_
               (try clear hcz384_0)
               (try clear hcz384_1)
               (try clear hcz384_2)
               (try clear hcz385_0)
               (try clear hcz402_0)
               (try clear hcz402_1)
               (try clear hcz402_2)
               (try clear hcz408_0)
               (try clear hcz408_1)
               (try clear hcz408_2)
               (try clear hcz412_0)
               (try clear hcz419_0)
               (try clear hcz419_1)
               (try clear hcz419_2)
               have z_ := Aside0.mk (advB HB.out hs_)
               clear HB
               have HB := z_
               clear z_
               have HZ164 := Aside0.mk (below_size hs_)
               clear hs_ hb
               have HO424 := zHO424
               clear zHO424
               obtain ⟨Ao166, co167, eo168⟩ := slice_S HO424.out
               subst eo168
               refine hK.out _ _ ⟨(by first | exact (blk_cell BK408.out 0).trans rfl | exact (blk_cell (up_ BK408.out) 0).trans rfl), (by first | exact (blk_cell BK408.out 1).trans rfl | exact (blk_cell (up_ BK408.out) 1).trans rfl), (by first | exact (blk_cell BK408.out 2).trans rfl | exact (blk_cell (up_ BK408.out) 2).trans rfl), (by first | exact (blk_cell BK384.out 0).trans rfl | exact (blk_cell (up_ BK384.out) 0).trans rfl), (by first | exact (blk_cell BK384.out 1).trans rfl | exact (blk_cell (up_ BK384.out) 1).trans rfl), (by first | exact (blk_cell BK384.out 2).trans rfl | exact (blk_cell (up_ BK384.out) 2).trans rfl)⟩ (fun hHeld => ?_)
               clear hK K
               refine nm_ ?_
               refine on_ 3 (some 57) (fun K hK => ?_)
               refine goes_ Try.func18 (by kernel_rfl) rfl #[.agg #[.int .i64 t403, .slice Ao134 t404.length co135, .int .i64 t407], .agg #[.int .i64 t421, .slice Ao166 t422.length co167, .int .i64 t425]] (by rfl) rfl rfl am_ ?_
               (with_reducible refine (laws_eqLearner.calls k t403 _ _ t404 t407 t421 _ _ t422 t425 true _ ?side1 ?side2 ?side3 ?side4 E29.out).mono ?_)
               (case side1 => repeat (first | exact (Kd.S_reads' HO406.out).2.2 | (with_reducible refine Kd.C_alloc ?_ _) | (with_reducible refine Kd.C_drewN ?_ _) | (with_reducible refine Kd.C_drew ?_)))
               (case side2 => exact (Kd.S_reads' HO406.out).2.1)
               (case side3 => repeat (first | exact (Kd.S_reads' HO424.out).2.2 | (with_reducible refine Kd.C_alloc ?_ _) | (with_reducible refine Kd.C_drewN ?_ _) | (with_reducible refine Kd.C_drew ?_)))
               (case side4 => exact (Kd.S_reads' HO424.out).2.1)
               rintro e w169 ⟨rfl, hb⟩
               refine ⟨_, rfl, ?_⟩
               have hs_ := adv (wl := w163) (tow_) hb
               have z_ := Aside0.mk (Kd.S_below HO399.out hs_)
               clear HO399
               have HO399 := z_
               clear z_
               have z_ := Aside0.mk (Kd.S_below HO406.out hs_)
               clear HO406
               have HO406 := z_
               clear z_
               have z_ := Aside0.mk (Kd.R_below HO411.out hs_)
               clear HO411
               have HO411 := z_
               clear z_
               have z_ := Aside0.mk (Kd.S_below HO416.out hs_)
               clear HO416
               have HO416 := z_
               clear z_
               have z_ := Aside0.mk (Kd.S_below HO424.out hs_)
               clear HO424
               have HO424 := z_
               clear z_
               have z_ := Aside0.mk (blk_below BK384.out hs_)
               clear BK384
               have BK384 := z_
               clear z_
               have z_ := Aside0.mk (blk_below BK385.out hs_)
               clear BK385
               have BK385 := z_
               clear z_
               have z_ := Aside0.mk (blk_below BK402.out hs_)
               clear BK402
               have BK402 := z_
               clear z_
               have z_ := Aside0.mk (blk_below BK408.out hs_)
               clear BK408
               have BK408 := z_
               clear z_
               have z_ := Aside0.mk (blk_below BK412.out hs_)
               clear BK412
               have BK412 := z_
               clear z_
               have z_ := Aside0.mk (blk_below BK419.out hs_)
               clear BK419
               have BK419 := z_
               clear z_
               (try clear hcz384_0)
               (try clear hcz384_1)
               (try clear hcz384_2)
               (try clear hcz385_0)
               (try clear hcz402_0)
               (try clear hcz402_1)
               (try clear hcz402_2)
               (try clear hcz408_0)
               (try clear hcz408_1)
               (try clear hcz408_2)
               (try clear hcz412_0)
               (try clear hcz419_0)
               (try clear hcz419_1)
               (try clear hcz419_2)
               have z_ := Aside0.mk (advB HB.out hs_)
               clear HB
               have HB := z_
               clear z_
               have HZ170 := Aside0.mk (below_size hs_)
               clear hs_ hb
               refine hK.out _ _ ⟨(by first | exact (blk_cell BK408.out 0).trans rfl | exact (blk_cell (up_ BK408.out) 0).trans rfl), (by first | exact (blk_cell BK408.out 1).trans rfl | exact (blk_cell (up_ BK408.out) 1).trans rfl), (by first | exact (blk_cell BK408.out 2).trans rfl | exact (blk_cell (up_ BK408.out) 2).trans rfl), (by first | exact (blk_cell BK384.out 0).trans rfl | exact (blk_cell (up_ BK384.out) 0).trans rfl), (by first | exact (blk_cell BK384.out 1).trans rfl | exact (blk_cell (up_ BK384.out) 1).trans rfl), (by first | exact (blk_cell BK384.out 2).trans rfl | exact (blk_cell (up_ BK384.out) 2).trans rfl)⟩ (fun hHeld => ?_)
               clear hK K
               refine nm_ ?_
               refine pu_ 4 (some 58) ?_
               refine done_ (by kernel_rfl) ?_
               have hcz412_0 := c1_ BK412
               have hcz385_0 := c1_ BK385
               try go_wp2
               refine start_ (n := 5) (S := fun w' => w'.cell? ⟨gb412, 0, none⟩ = some (.slice Ao144 t409.length co145) ∧ w'.cell? ⟨gb385, 0, none⟩ = some (.slice A1_0 l1_0.length c1_0)) (ds := []) #[false, false, false, false, false] (by kernel_rfl) rfl rfl ⟨(by first | exact (blk_cell BK412.out 0).trans rfl | exact (blk_cell (up_ BK412.out) 0).trans rfl), (by first | exact (blk_cell BK385.out 0).trans rfl | exact (blk_cell (up_ BK385.out) 0).trans rfl)⟩ (fun hHeld => ?_)
               refine tk_ 0 (some 59) hHeld ?_
               refine tk_ 1 (some 60) hHeld ?_
               refine on_ 2 (some 61) (fun K hK => ?_)
               refine goes_ Try.func16 (by kernel_rfl) rfl #[.agg #[.slice A1_0 l1_0.length c1_0]] (by rfl) rfl rfl am_ ?_
               (with_reducible refine (laws_toRow.calls k _ _ l1_0 t427 _ ?side1 ?side2 E31.out).mono ?_)
               (case side1 => exact Kd.C_below HR1_0.out (up_ HB.out))
               (case side2 => exact HC1_0.out)
               rintro e w171 ⟨v428, rfl, ho0, hb⟩
               refine ⟨_, rfl, ?_⟩
               have hs_ := adv (wl := w169) (tow_) hb
               obtain ⟨P173, hp_, hq_⟩ := made_R (wl := w169) (base := w.heap.size) (tow_) (below_size HB.out) ho0
               have HP173 := Aside0.mk hp_
               have zHO429 := Aside0.mk hq_
               clear hp_ hq_ ho0
               have z_ := Aside0.mk (Kd.S_below HO399.out hs_)
               clear HO399
               have HO399 := z_
               clear z_
               have z_ := Aside0.mk (Kd.S_below HO406.out hs_)
               clear HO406
               have HO406 := z_
               clear z_
               have z_ := Aside0.mk (Kd.R_below HO411.out hs_)
               clear HO411
               have HO411 := z_
               clear z_
               have z_ := Aside0.mk (Kd.S_below HO416.out hs_)
               clear HO416
               have HO416 := z_
               clear z_
               have z_ := Aside0.mk (Kd.S_below HO424.out hs_)
               clear HO424
               have HO424 := z_
               clear z_
               have z_ := Aside0.mk (blk_below BK384.out hs_)
               clear BK384
               have BK384 := z_
               clear z_
               have z_ := Aside0.mk (blk_below BK385.out hs_)
               clear BK385
               have BK385 := z_
               clear z_
               have z_ := Aside0.mk (blk_below BK402.out hs_)
               clear BK402
               have BK402 := z_
               clear z_
               have z_ := Aside0.mk (blk_below BK408.out hs_)
               clear BK408
               have BK408 := z_
               clear z_
               have z_ := Aside0.mk (blk_below BK412.out hs_)
               clear BK412
               have BK412 := z_
               clear z_
               have z_ := Aside0.mk (blk_below BK419.out hs_)
               clear BK419
               have BK419 := z_
               clear z_
               (try clear hcz384_0)
               (try clear hcz384_1)
               (try clear hcz384_2)
               (try clear hcz385_0)
               (try clear hcz402_0)
               (try clear hcz402_1)
               (try clear hcz402_2)
               (try clear hcz408_0)
               (try clear hcz408_1)
               (try clear hcz408_2)
               (try clear hcz412_0)
               (try clear hcz419_0)
               (try clear hcz419_1)
               (try clear hcz419_2)
               have z_ := Aside0.mk (advB HB.out hs_)
               clear HB
               have HB := z_
               clear z_
               have HZ172 := Aside0.mk (below_size hs_)
               clear hs_ hb
               have HO429 := zHO429
               clear zHO429
               obtain ⟨Ao174, co175, eo176⟩ := slice_R HO429.out
               subst eo176
               refine hK.out _ _ ⟨(by first | exact (blk_cell BK412.out 0).trans rfl | exact (blk_cell (up_ BK412.out) 0).trans rfl), (by first | exact (blk_cell BK385.out 0).trans rfl | exact (blk_cell (up_ BK385.out) 0).trans rfl)⟩ (fun hHeld => ?_)
               clear hK K
               refine nm_ ?_
               refine on_ 3 (some 62) (fun K hK => ?_)
               refine goes_ Try.func19 (by kernel_rfl) rfl #[.agg #[.slice Ao144 t409.length co145], .agg #[.slice Ao174 t427.length co175]] (by rfl) rfl rfl am_ ?_
               (with_reducible refine (laws_eqRow.calls k _ _ t409 _ _ t427 true _ ?side1 ?side2 ?side3 ?side4 E32.out).mono ?_)
               (case side1 => repeat (first | exact (Kd.R_reads' HO411.out).2.2 | (with_reducible refine Kd.C_alloc ?_ _) | (with_reducible refine Kd.C_drewN ?_ _) | (with_reducible refine Kd.C_drew ?_)))
               (case side2 => exact (Kd.R_reads' HO411.out).2.1)
               (case side3 => repeat (first | exact (Kd.R_reads' HO429.out).2.2 | (with_reducible refine Kd.C_alloc ?_ _) | (with_reducible refine Kd.C_drewN ?_ _) | (with_reducible refine Kd.C_drew ?_)))
               (case side4 => exact (Kd.R_reads' HO429.out).2.1)
               rintro e w177 ⟨rfl, hb⟩
               refine ⟨_, rfl, ?_⟩
               have hs_ := adv (wl := w171) (tow_) hb
               have z_ := Aside0.mk (Kd.S_below HO399.out hs_)
               clear HO399
               have HO399 := z_
               clear z_
               have z_ := Aside0.mk (Kd.S_below HO406.out hs_)
               clear HO406
               have HO406 := z_
               clear z_
               have z_ := Aside0.mk (Kd.R_below HO411.out hs_)
               clear HO411
               have HO411 := z_
               clear z_
               have z_ := Aside0.mk (Kd.S_below HO416.out hs_)
               clear HO416
               have HO416 := z_
               clear z_
               have z_ := Aside0.mk (Kd.S_below HO424.out hs_)
               clear HO424
               have HO424 := z_
               clear z_
               have z_ := Aside0.mk (Kd.R_below HO429.out hs_)
               clear HO429
               have HO429 := z_
               clear z_
               have z_ := Aside0.mk (blk_below BK384.out hs_)
               clear BK384
               have BK384 := z_
               clear z_
               have z_ := Aside0.mk (blk_below BK385.out hs_)
               clear BK385
               have BK385 := z_
               clear z_
               have z_ := Aside0.mk (blk_below BK402.out hs_)
               clear BK402
               have BK402 := z_
               clear z_
               have z_ := Aside0.mk (blk_below BK408.out hs_)
               clear BK408
               have BK408 := z_
               clear z_
               have z_ := Aside0.mk (blk_below BK412.out hs_)
               clear BK412
               have BK412 := z_
               clear z_
               have z_ := Aside0.mk (blk_below BK419.out hs_)
               clear BK419
               have BK419 := z_
               clear z_
               (try clear hcz384_0)
               (try clear hcz384_1)
               (try clear hcz384_2)
               (try clear hcz385_0)
               (try clear hcz402_0)
               (try clear hcz402_1)
               (try clear hcz402_2)
               (try clear hcz408_0)
               (try clear hcz408_1)
               (try clear hcz408_2)
               (try clear hcz412_0)
               (try clear hcz419_0)
               (try clear hcz419_1)
               (try clear hcz419_2)
               have z_ := Aside0.mk (advB HB.out hs_)
               clear HB
               have HB := z_
               clear z_
               have HZ178 := Aside0.mk (below_size hs_)
               clear hs_ hb
               refine hK.out _ _ ⟨(by first | exact (blk_cell BK412.out 0).trans rfl | exact (blk_cell (up_ BK412.out) 0).trans rfl), (by first | exact (blk_cell BK385.out 0).trans rfl | exact (blk_cell (up_ BK385.out) 0).trans rfl)⟩ (fun hHeld => ?_)
               clear hK K
               refine nm_ ?_
               refine pu_ 4 (some 63) ?_
               refine done_ (by kernel_rfl) ?_
               obtain ⟨hcz408_0, hcz408_1, hcz408_2⟩ := c3_ BK408
               go_wp2_with (first | ((refine gc_ 20 ?_); refine goesL_ (some 66) rfl rfl Try.func20 (by kernel_rfl) rfl #[.agg #[.int .i64 t403, .slice Ao134 t404.length co135, .int .i64 t407], .int .i64 1] rfl (by (try simp only [List.map_toArray, List.map_cons, List.map_nil]); first | done | rfl) ?_; (with_reducible refine (laws_markLearner.calls k t403 P133 _ t404 t407 1 t431 t432 w _ ?side1 ?side2 E34.out).mono ?_); (case side1 => exact advB HB.out (tow_)); (case side2 => exact Kd.S_below HO406.out (tow_)); rintro e w179 ⟨rfl, hm_, hb2, hk⟩; refine ⟨_, rfl, ?_⟩; have hz_ := Aside0.mk (kept_le (wl := w177) (tow_) hk); have z_ := Aside0.mk (Kd.S_kept (Kd.S_below HO399.out (tow_)) hk (fun k_ h1_ h2_ => apart_ (HZ130.out) (HP128.out k_ h1_).2.1 (HP133.out k_ h2_).1)); clear HO399; have HO399 := z_; clear z_; have z_ := Aside0.mk (Kd.R_kept (Kd.R_below HO411.out (tow_)) hk (fun k_ h1_ h2_ => apart_ (Nat.le_trans HZ138.out <| HZ140.out) (HP133.out k_ h2_).2.1 (HP143.out k_ h1_).1)); clear HO411; have HO411 := z_; clear z_; have z_ := Aside0.mk (Kd.S_kept (Kd.S_below HO416.out (tow_)) hk (fun k_ h1_ h2_ => apart_ (Nat.le_trans HZ138.out <| Nat.le_trans HZ140.out <| Nat.le_trans HZ142.out <| Nat.le_trans HZ148.out <| HZ150.out) (HP133.out k_ h2_).2.1 (HP153.out k_ h1_).1)); clear HO416; have HO416 := z_; clear z_; have z_ := Aside0.mk (Kd.S_kept (Kd.S_below HO424.out (tow_)) hk (fun k_ h1_ h2_ => apart_ (Nat.le_trans HZ138.out <| Nat.le_trans HZ140.out <| Nat.le_trans HZ142.out <| Nat.le_trans HZ148.out <| Nat.le_trans HZ150.out <| Nat.le_trans HZ152.out <| Nat.le_trans HZ158.out <| Nat.le_trans HZ160.out <| HZ162.out) (HP133.out k_ h2_).2.1 (HP165.out k_ h1_).1)); clear HO424; have HO424 := z_; clear z_; have z_ := Aside0.mk (Kd.R_kept (Kd.R_below HO429.out (tow_)) hk (fun k_ h1_ h2_ => apart_ (Nat.le_trans HZ138.out <| Nat.le_trans HZ140.out <| Nat.le_trans HZ142.out <| Nat.le_trans HZ148.out <| Nat.le_trans HZ150.out <| Nat.le_trans HZ152.out <| Nat.le_trans HZ158.out <| Nat.le_trans HZ160.out <| Nat.le_trans HZ162.out <| Nat.le_trans HZ164.out <| HZ170.out) (HP133.out k_ h2_).2.1 (HP173.out k_ h1_).1)); clear HO429; have HO429 := z_; clear z_; have z_ := Aside0.mk (blk_kept (blk_below BK384.out (tow_)) hk (fun hP_ => (fun k_ h1_ h2_ => apart_ (Nat.le_trans HZ55.out <| Nat.le_trans HZ57.out <| Nat.le_trans HZ59.out <| Nat.le_trans HZ123.out <| HZ130.out) (HPB384.out k_ h1_).2.1 (HP133.out k_ h2_).1) gb384 rfl hP_)); clear BK384; have BK384 := z_; clear z_; have z_ := Aside0.mk (blk_kept (blk_below BK385.out (tow_)) hk (fun hP_ => (fun k_ h1_ h2_ => apart_ (Nat.le_trans HZ57.out <| Nat.le_trans HZ59.out <| Nat.le_trans HZ123.out <| HZ130.out) (HPB385.out k_ h1_).2.1 (HP133.out k_ h2_).1) gb385 rfl hP_)); clear BK385; have BK385 := z_; clear z_; have z_ := Aside0.mk (blk_kept (blk_below BK402.out (tow_)) hk (fun hP_ => (fun k_ h1_ h2_ => apart_ (HZ130.out) (HPB402.out k_ h1_).2.1 (HP133.out k_ h2_).1) gb402 rfl hP_)); clear BK402; have BK402 := z_; clear z_; have z_ := Aside0.mk (blk_kept (blk_below BK408.out (tow_)) hk (fun hP_ => (fun k_ h1_ h2_ => apart_ (Nat.le_refl _) (HP133.out k_ h2_).2.1 (HPB408.out k_ h1_).1) gb408 rfl hP_)); clear BK408; have BK408 := z_; clear z_; have z_ := Aside0.mk (blk_kept (blk_below BK412.out (tow_)) hk (fun hP_ => (fun k_ h1_ h2_ => apart_ (Nat.le_trans HZ138.out <| Nat.le_trans HZ140.out <| HZ142.out) (HP133.out k_ h2_).2.1 (HPB412.out k_ h1_).1) gb412 rfl hP_)); clear BK412; have BK412 := z_; clear z_; have z_ := Aside0.mk (blk_kept (blk_below BK419.out (tow_)) hk (fun hP_ => (fun k_ h1_ h2_ => apart_ (Nat.le_trans HZ138.out <| Nat.le_trans HZ140.out <| Nat.le_trans HZ142.out <| Nat.le_trans HZ148.out <| Nat.le_trans HZ150.out <| HZ152.out) (HP133.out k_ h2_).2.1 (HPB419.out k_ h1_).1) gb419 rfl hP_)); clear BK419; have BK419 := z_; clear z_; (try clear hcz384_0); (try clear hcz384_1); (try clear hcz384_2); (try clear hcz385_0); (try clear hcz402_0); (try clear hcz402_1); (try clear hcz402_2); (try clear hcz408_0); (try clear hcz408_1); (try clear hcz408_2); (try clear hcz412_0); (try clear hcz419_0); (try clear hcz419_1); (try clear hcz419_2); have HZ180 := hz_; clear hz_; obtain ⟨P181, hp_, hq_⟩ := marked_S (lo := w129) (wl := w177) (tow_) (fun k_ hk_ => (HP133.out k_ hk_).1) (Nat.le_trans HZ132.out <| Nat.le_trans HZ138.out <| Nat.le_trans HZ140.out <| Nat.le_trans HZ142.out <| Nat.le_trans HZ148.out <| Nat.le_trans HZ150.out <| Nat.le_trans HZ152.out <| Nat.le_trans HZ158.out <| Nat.le_trans HZ160.out <| Nat.le_trans HZ162.out <| Nat.le_trans HZ164.out <| Nat.le_trans HZ170.out <| Nat.le_trans HZ172.out <| HZ178.out) hm_; have HP181 := Aside0.mk hp_; clear HO406; have HO406 := Aside0.mk hq_; clear hm_ hp_ hq_; have hl_ := (Kd.S_reads' HO406.out).1; rw [hl_] at HO406; (try rw [hl_]); (try rw [hl_] at BK408); clear hl_; clear hk; clear HB; have HB := Aside0.mk hb2; clear hb2; have hcz412_0 := c1_ BK412) | ((refine gc_ 21 ?_); refine goesL_ (some 69) rfl rfl Try.func21 (by kernel_rfl) rfl #[.agg #[.slice Ao144 t409.length co145], .int .i64 t431] rfl (by (try simp only [List.map_toArray, List.map_cons, List.map_nil]); first | done | rfl) ?_; (with_reducible refine (laws_markRow.calls k P143 _ t409 t431 t433 t434 w _ ?side1 ?side2 E35.out).mono ?_); (case side1 => exact advB HB.out (tow_)); (case side2 => exact Kd.R_below HO411.out (tow_)); rintro e w182 ⟨rfl, hm_, hb2, hk⟩; refine ⟨_, rfl, ?_⟩; have hz_ := Aside0.mk (kept_le (wl := w179) (tow_) hk); have z_ := Aside0.mk (Kd.S_kept (Kd.S_below HO399.out (tow_)) hk (fun k_ h1_ h2_ => apart_ (Nat.le_trans HZ130.out <| Nat.le_trans HZ132.out <| Nat.le_trans HZ138.out <| HZ140.out) (HP128.out k_ h1_).2.1 (HP143.out k_ h2_).1)); clear HO399; have HO399 := z_; clear z_; clear HO406; have z_ := Aside0.mk (Kd.S_kept (Kd.S_below HO416.out (tow_)) hk (fun k_ h1_ h2_ => apart_ (Nat.le_trans HZ148.out <| HZ150.out) (HP143.out k_ h2_).2.1 (HP153.out k_ h1_).1)); clear HO416; have HO416 := z_; clear z_; have z_ := Aside0.mk (Kd.S_kept (Kd.S_below HO424.out (tow_)) hk (fun k_ h1_ h2_ => apart_ (Nat.le_trans HZ148.out <| Nat.le_trans HZ150.out <| Nat.le_trans HZ152.out <| Nat.le_trans HZ158.out <| Nat.le_trans HZ160.out <| HZ162.out) (HP143.out k_ h2_).2.1 (HP165.out k_ h1_).1)); clear HO424; have HO424 := z_; clear z_; have z_ := Aside0.mk (Kd.R_kept (Kd.R_below HO429.out (tow_)) hk (fun k_ h1_ h2_ => apart_ (Nat.le_trans HZ148.out <| Nat.le_trans HZ150.out <| Nat.le_trans HZ152.out <| Nat.le_trans HZ158.out <| Nat.le_trans HZ160.out <| Nat.le_trans HZ162.out <| Nat.le_trans HZ164.out <| HZ170.out) (HP143.out k_ h2_).2.1 (HP173.out k_ h1_).1)); clear HO429; have HO429 := z_; clear z_; have z_ := Aside0.mk (blk_kept (blk_below BK384.out (tow_)) hk (fun hP_ => (fun k_ h1_ h2_ => apart_ (Nat.le_trans HZ55.out <| Nat.le_trans HZ57.out <| Nat.le_trans HZ59.out <| Nat.le_trans HZ123.out <| Nat.le_trans HZ130.out <| Nat.le_trans HZ132.out <| Nat.le_trans HZ138.out <| HZ140.out) (HPB384.out k_ h1_).2.1 (HP143.out k_ h2_).1) gb384 rfl hP_)); clear BK384; have BK384 := z_; clear z_; have z_ := Aside0.mk (blk_kept (blk_below BK385.out (tow_)) hk (fun hP_ => (fun k_ h1_ h2_ => apart_ (Nat.le_trans HZ57.out <| Nat.le_trans HZ59.out <| Nat.le_trans HZ123.out <| Nat.le_trans HZ130.out <| Nat.le_trans HZ132.out <| Nat.le_trans HZ138.out <| HZ140.out) (HPB385.out k_ h1_).2.1 (HP143.out k_ h2_).1) gb385 rfl hP_)); clear BK385; have BK385 := z_; clear z_; have z_ := Aside0.mk (blk_kept (blk_below BK402.out (tow_)) hk (fun hP_ => (fun k_ h1_ h2_ => apart_ (Nat.le_trans HZ130.out <| Nat.le_trans HZ132.out <| Nat.le_trans HZ138.out <| HZ140.out) (HPB402.out k_ h1_).2.1 (HP143.out k_ h2_).1) gb402 rfl hP_)); clear BK402; have BK402 := z_; clear z_; have z_ := Aside0.mk (blk_kept (blk_below BK408.out (tow_)) hk (fun hP_ => (fun k_ h1_ h2_ => apart_ (HZ140.out) (HPB408.out k_ h1_).2.1 (HP143.out k_ h2_).1) gb408 rfl hP_)); clear BK408; have BK408 := z_; clear z_; have z_ := Aside0.mk (blk_kept (blk_below BK412.out (tow_)) hk (fun hP_ => (fun k_ h1_ h2_ => apart_ (Nat.le_refl _) (HP143.out k_ h2_).2.1 (HPB412.out k_ h1_).1) gb412 rfl hP_)); clear BK412; have BK412 := z_; clear z_; have z_ := Aside0.mk (blk_kept (blk_below BK419.out (tow_)) hk (fun hP_ => (fun k_ h1_ h2_ => apart_ (Nat.le_trans HZ148.out <| Nat.le_trans HZ150.out <| HZ152.out) (HP143.out k_ h2_).2.1 (HPB419.out k_ h1_).1) gb419 rfl hP_)); clear BK419; have BK419 := z_; clear z_; (try clear hcz384_0); (try clear hcz384_1); (try clear hcz384_2); (try clear hcz385_0); (try clear hcz402_0); (try clear hcz402_1); (try clear hcz402_2); (try clear hcz408_0); (try clear hcz408_1); (try clear hcz408_2); (try clear hcz412_0); (try clear hcz419_0); (try clear hcz419_1); (try clear hcz419_2); have HZ183 := hz_; clear hz_; obtain ⟨P184, hp_, hq_⟩ := marked_R (lo := w139) (wl := w179) (tow_) (fun k_ hk_ => (HP143.out k_ hk_).1) (Nat.le_trans HZ142.out <| Nat.le_trans HZ148.out <| Nat.le_trans HZ150.out <| Nat.le_trans HZ152.out <| Nat.le_trans HZ158.out <| Nat.le_trans HZ160.out <| Nat.le_trans HZ162.out <| Nat.le_trans HZ164.out <| Nat.le_trans HZ170.out <| Nat.le_trans HZ172.out <| Nat.le_trans HZ178.out <| HZ180.out) hm_; have HP184 := Aside0.mk hp_; clear HO411; have HO411 := Aside0.mk hq_; clear hm_ hp_ hq_; have hl_ := (Kd.R_reads' HO411.out).1; rw [hl_] at HO411; (try rw [hl_]); (try rw [hl_] at BK412); clear hl_; clear hk; clear HB; have HB := Aside0.mk hb2; clear hb2; obtain ⟨hcz419_0, hcz419_1, hcz419_2⟩ := c3_ BK419; obtain ⟨hcz402_0, hcz402_1, hcz402_2⟩ := c3_ BK402) | (go_at_call 18; (with_reducible refine (laws_eqLearner.calls k t413 _ _ t414 t417 t396 _ _ t397 t400 true _ ?side1 ?side2 ?side3 ?side4 E37.out).mono ?_); (case side1 => repeat (first | exact (Kd.S_reads' HO416.out).2.2 | (with_reducible refine Kd.C_alloc ?_ _) | (with_reducible refine Kd.C_drewN ?_ _) | (with_reducible refine Kd.C_drew ?_))); (case side2 => exact (Kd.S_reads' HO416.out).2.1); (case side3 => repeat (first | exact (Kd.S_reads' HO399.out).2.2 | (with_reducible refine Kd.C_alloc ?_ _) | (with_reducible refine Kd.C_drewN ?_ _) | (with_reducible refine Kd.C_drew ?_))); (case side4 => exact (Kd.S_reads' HO399.out).2.1); rintro e w185 ⟨rfl, hb⟩; have hs_ := adv (wl := w182) (tow_) hb; have z_ := Aside0.mk (Kd.S_below HO399.out hs_); clear HO399; have HO399 := z_; clear z_; have z_ := Aside0.mk (Kd.R_below HO411.out hs_); clear HO411; have HO411 := z_; clear z_; have z_ := Aside0.mk (Kd.S_below HO416.out hs_); clear HO416; have HO416 := z_; clear z_; have z_ := Aside0.mk (Kd.S_below HO424.out hs_); clear HO424; have HO424 := z_; clear z_; have z_ := Aside0.mk (Kd.R_below HO429.out hs_); clear HO429; have HO429 := z_; clear z_; have z_ := Aside0.mk (blk_below BK384.out hs_); clear BK384; have BK384 := z_; clear z_; have z_ := Aside0.mk (blk_below BK385.out hs_); clear BK385; have BK385 := z_; clear z_; have z_ := Aside0.mk (blk_below BK402.out hs_); clear BK402; have BK402 := z_; clear z_; have z_ := Aside0.mk (blk_below BK408.out hs_); clear BK408; have BK408 := z_; clear z_; have z_ := Aside0.mk (blk_below BK412.out hs_); clear BK412; have BK412 := z_; clear z_; have z_ := Aside0.mk (blk_below BK419.out hs_); clear BK419; have BK419 := z_; clear z_; (try clear hcz384_0); (try clear hcz384_1); (try clear hcz384_2); (try clear hcz385_0); (try clear hcz402_0); (try clear hcz402_1); (try clear hcz402_2); (try clear hcz408_0); (try clear hcz408_1); (try clear hcz408_2); (try clear hcz412_0); (try clear hcz419_0); (try clear hcz419_1); (try clear hcz419_2); have z_ := Aside0.mk (advB HB.out hs_); clear HB; have HB := z_; clear z_; have HZ186 := Aside0.mk (below_size hs_); clear hs_ hb; obtain ⟨hcz419_0, hcz419_1, hcz419_2⟩ := c3_ BK419) | ((refine gc_ 20 ?_); refine goesL_ (some 85) rfl rfl Try.func20 (by kernel_rfl) rfl #[.agg #[.int .i64 t413, .slice Ao154 t414.length co155, .int .i64 t417], .int .i64 1] rfl (by (try simp only [List.map_toArray, List.map_cons, List.map_nil]); first | done | rfl) ?_; (with_reducible refine (laws_markLearner.calls k t413 P153 _ t414 t417 1 t436 t437 w _ ?side1 ?side2 E39.out).mono ?_); (case side1 => exact advB HB.out (tow_)); (case side2 => exact Kd.S_below HO416.out (tow_)); rintro e w187 ⟨rfl, hm_, hb2, hk⟩; refine ⟨_, rfl, ?_⟩; have hz_ := Aside0.mk (kept_le (wl := w185) (tow_) hk); have z_ := Aside0.mk (Kd.S_kept (Kd.S_below HO399.out (tow_)) hk (fun k_ h1_ h2_ => apart_ (Nat.le_trans HZ130.out <| Nat.le_trans HZ132.out <| Nat.le_trans HZ138.out <| Nat.le_trans HZ140.out <| Nat.le_trans HZ142.out <| Nat.le_trans HZ148.out <| HZ150.out) (HP128.out k_ h1_).2.1 (HP153.out k_ h2_).1)); clear HO399; have HO399 := z_; clear z_; clear HO411; have z_ := Aside0.mk (Kd.S_kept (Kd.S_below HO424.out (tow_)) hk (fun k_ h1_ h2_ => apart_ (Nat.le_trans HZ158.out <| Nat.le_trans HZ160.out <| HZ162.out) (HP153.out k_ h2_).2.1 (HP165.out k_ h1_).1)); clear HO424; have HO424 := z_; clear z_; have z_ := Aside0.mk (Kd.R_kept (Kd.R_below HO429.out (tow_)) hk (fun k_ h1_ h2_ => apart_ (Nat.le_trans HZ158.out <| Nat.le_trans HZ160.out <| Nat.le_trans HZ162.out <| Nat.le_trans HZ164.out <| HZ170.out) (HP153.out k_ h2_).2.1 (HP173.out k_ h1_).1)); clear HO429; have HO429 := z_; clear z_; have z_ := Aside0.mk (blk_kept (blk_below BK384.out (tow_)) hk (fun hP_ => (fun k_ h1_ h2_ => apart_ (Nat.le_trans HZ55.out <| Nat.le_trans HZ57.out <| Nat.le_trans HZ59.out <| Nat.le_trans HZ123.out <| Nat.le_trans HZ130.out <| Nat.le_trans HZ132.out <| Nat.le_trans HZ138.out <| Nat.le_trans HZ140.out <| Nat.le_trans HZ142.out <| Nat.le_trans HZ148.out <| HZ150.out) (HPB384.out k_ h1_).2.1 (HP153.out k_ h2_).1) gb384 rfl hP_)); clear BK384; have BK384 := z_; clear z_; have z_ := Aside0.mk (blk_kept (blk_below BK385.out (tow_)) hk (fun hP_ => (fun k_ h1_ h2_ => apart_ (Nat.le_trans HZ57.out <| Nat.le_trans HZ59.out <| Nat.le_trans HZ123.out <| Nat.le_trans HZ130.out <| Nat.le_trans HZ132.out <| Nat.le_trans HZ138.out <| Nat.le_trans HZ140.out <| Nat.le_trans HZ142.out <| Nat.le_trans HZ148.out <| HZ150.out) (HPB385.out k_ h1_).2.1 (HP153.out k_ h2_).1) gb385 rfl hP_)); clear BK385; have BK385 := z_; clear z_; have z_ := Aside0.mk (blk_kept (blk_below BK402.out (tow_)) hk (fun hP_ => (fun k_ h1_ h2_ => apart_ (Nat.le_trans HZ130.out <| Nat.le_trans HZ132.out <| Nat.le_trans HZ138.out <| Nat.le_trans HZ140.out <| Nat.le_trans HZ142.out <| Nat.le_trans HZ148.out <| HZ150.out) (HPB402.out k_ h1_).2.1 (HP153.out k_ h2_).1) gb402 rfl hP_)); clear BK402; have BK402 := z_; clear z_; have z_ := Aside0.mk (blk_kept (blk_below BK408.out (tow_)) hk (fun hP_ => (fun k_ h1_ h2_ => apart_ (Nat.le_trans HZ140.out <| Nat.le_trans HZ142.out <| Nat.le_trans HZ148.out <| HZ150.out) (HPB408.out k_ h1_).2.1 (HP153.out k_ h2_).1) gb408 rfl hP_)); clear BK408; have BK408 := z_; clear z_; have z_ := Aside0.mk (blk_kept (blk_below BK412.out (tow_)) hk (fun hP_ => (fun k_ h1_ h2_ => apart_ (HZ150.out) (HPB412.out k_ h1_).2.1 (HP153.out k_ h2_).1) gb412 rfl hP_)); clear BK412; have BK412 := z_; clear z_; have z_ := Aside0.mk (blk_kept (blk_below BK419.out (tow_)) hk (fun hP_ => (fun k_ h1_ h2_ => apart_ (Nat.le_refl _) (HP153.out k_ h2_).2.1 (HPB419.out k_ h1_).1) gb419 rfl hP_)); clear BK419; have BK419 := z_; clear z_; (try clear hcz384_0); (try clear hcz384_1); (try clear hcz384_2); (try clear hcz385_0); (try clear hcz402_0); (try clear hcz402_1); (try clear hcz402_2); (try clear hcz408_0); (try clear hcz408_1); (try clear hcz408_2); (try clear hcz412_0); (try clear hcz419_0); (try clear hcz419_1); (try clear hcz419_2); have HZ188 := hz_; clear hz_; obtain ⟨P189, hp_, hq_⟩ := marked_S (lo := w149) (wl := w185) (tow_) (fun k_ hk_ => (HP153.out k_ hk_).1) (Nat.le_trans HZ152.out <| Nat.le_trans HZ158.out <| Nat.le_trans HZ160.out <| Nat.le_trans HZ162.out <| Nat.le_trans HZ164.out <| Nat.le_trans HZ170.out <| Nat.le_trans HZ172.out <| Nat.le_trans HZ178.out <| Nat.le_trans HZ180.out <| Nat.le_trans HZ183.out <| HZ186.out) hm_; have HP189 := Aside0.mk hp_; clear HO416; have HO416 := Aside0.mk hq_; clear hm_ hp_ hq_; have hl_ := (Kd.S_reads' HO416.out).1; rw [hl_] at HO416; (try rw [hl_]); (try rw [hl_] at BK419); clear hl_; clear hk; clear HB; have HB := Aside0.mk hb2; clear hb2; obtain ⟨hcz419_0, hcz419_1, hcz419_2⟩ := c3_ BK419) | ((refine gc_ 22 ?_); refine goesL_ (some 88) rfl rfl Try.func22 (by kernel_rfl) rfl #[.agg #[.int .i64 t413, .slice Ao154 t437.length co155, .int .i64 t417], .int .i64 1] rfl (by (try simp only [List.map_toArray, List.map_cons, List.map_nil]); first | done | rfl) ?_; (with_reducible refine (laws_heldLearner.calls k t413 _ _ t437 t417 1 t438 _ ?side1 ?side2 E40.out).mono ?_); (case side1 => repeat (first | exact (Kd.S_reads' HO416.out).2.2 | (with_reducible refine Kd.C_alloc ?_ _) | (with_reducible refine Kd.C_drewN ?_ _) | (with_reducible refine Kd.C_drew ?_))); (case side2 => exact (Kd.S_reads' HO416.out).2.1); rintro e w190 ⟨rfl, hb⟩; refine ⟨_, rfl, ?_⟩; have hs_ := adv (wl := w187) (tow_) hb; have z_ := Aside0.mk (Kd.S_below HO399.out hs_); clear HO399; have HO399 := z_; clear z_; have z_ := Aside0.mk (Kd.S_below HO416.out hs_); clear HO416; have HO416 := z_; clear z_; have z_ := Aside0.mk (Kd.S_below HO424.out hs_); clear HO424; have HO424 := z_; clear z_; have z_ := Aside0.mk (Kd.R_below HO429.out hs_); clear HO429; have HO429 := z_; clear z_; have z_ := Aside0.mk (blk_below BK384.out hs_); clear BK384; have BK384 := z_; clear z_; have z_ := Aside0.mk (blk_below BK385.out hs_); clear BK385; have BK385 := z_; clear z_; have z_ := Aside0.mk (blk_below BK402.out hs_); clear BK402; have BK402 := z_; clear z_; have z_ := Aside0.mk (blk_below BK408.out hs_); clear BK408; have BK408 := z_; clear z_; have z_ := Aside0.mk (blk_below BK412.out hs_); clear BK412; have BK412 := z_; clear z_; have z_ := Aside0.mk (blk_below BK419.out hs_); clear BK419; have BK419 := z_; clear z_; (try clear hcz384_0); (try clear hcz384_1); (try clear hcz384_2); (try clear hcz385_0); (try clear hcz402_0); (try clear hcz402_1); (try clear hcz402_2); (try clear hcz408_0); (try clear hcz408_1); (try clear hcz408_2); (try clear hcz412_0); (try clear hcz419_0); (try clear hcz419_1); (try clear hcz419_2); have z_ := Aside0.mk (advB HB.out hs_); clear HB; have HB := z_; clear z_; have HZ191 := Aside0.mk (below_size hs_); clear hs_ hb; obtain ⟨hcz384_0, hcz384_1, hcz384_2⟩ := c3_ BK384))
               refine start_ (n := 11) (S := fun w' => w'.cell? ⟨gb384, 0, none⟩ = some (.int .i64 a0_0) ∧ w'.cell? ⟨gb384, 1, none⟩ = some (.slice A0_1 l0_1.length c0_1) ∧ w'.cell? ⟨gb384, 2, none⟩ = some (.int .i64 a0_2) ∧ w'.cell? ⟨gb385, 0, none⟩ = some (.slice A1_0 l1_0.length c1_0)) (ds := [9]) #[false, false, false, false, false, false, false, false, false, false, false] (by kernel_rfl) rfl rfl ⟨(by first | exact (blk_cell BK384.out 0).trans rfl | exact (blk_cell (up_ BK384.out) 0).trans rfl), (by first | exact (blk_cell BK384.out 1).trans rfl | exact (blk_cell (up_ BK384.out) 1).trans rfl), (by first | exact (blk_cell BK384.out 2).trans rfl | exact (blk_cell (up_ BK384.out) 2).trans rfl), (by first | exact (blk_cell BK385.out 0).trans rfl | exact (blk_cell (up_ BK385.out) 0).trans rfl)⟩ (fun hHeld => ?_)
               refine tk_ 0 (some 95) hHeld ?_
               refine tk_ 2 (some 97) hHeld ?_
               refine join_ (σ := Nat × Value × Value × Option Addr × Nat) 2 #[true, true, true, true, true, true, true, true, true, false, false] (fun s => [(96, s.2.1), (98, s.2.2.1), (99, .tuple #[.agg #[.int .i64 t447, .slice s.2.2.2.1 t448.length s.2.2.2.2, .int .i64 t451], .bool t452]), (94, .tuple #[.agg #[.int .i64 t447, .slice s.2.2.2.1 t448.length s.2.2.2.2, .int .i64 t451], .bool t452]), (100, .agg #[.int .i64 t447, .slice s.2.2.2.1 t448.length s.2.2.2.2, .int .i64 t451]), (101, .bool t452), (15, .pointer (some ⟨s.1, 0, none⟩))]) (fun s w' => (∃ P_ : Nat → Prop, (∀ k_, P_ k_ → InN w190.heap.size w'.heap.size k_ ∧ k_ ≠ s.1) ∧ Kd.S (Kd.slice 3 (Kd.int .i64)) 25 w' w.heap.size P_ (.slice s.2.2.2.1 t448.length s.2.2.2.2) t448) ∧ w'.heap[s.1]? = some (.cells #[.int .i64 0, .slice none 0 0, .int .i64 0] 30 (0, 0)) ∧ w190.heap.size ≤ s.1 ∧ Kd.S (Kd.slice 3 (Kd.int .i64)) 25 w' w.heap.size P128 (.slice jA126 t397.length jc127) t397 ∧ Kd.S (Kd.slice 3 (Kd.int .i64)) 25 w' w.heap.size P189 (.slice Ao154 t437.length co155) t437 ∧ Kd.S (Kd.slice 3 (Kd.int .i64)) 25 w' w.heap.size P165 (.slice Ao166 t422.length co167) t422 ∧ Kd.R (Kd.int .i64) 3 w' w.heap.size P173 (.slice Ao174 t427.length co175) t427 ∧ w'.heap[gb384]? = some (.cells #[.int .i64 a0_0, .slice A0_1 l0_1.length c0_1, .int .i64 a0_2] 24 (0, 0)) ∧ w'.heap[gb385]? = some (.cells #[.slice A1_0 l1_0.length c1_0] 27 (0, 0)) ∧ w'.heap[gb402]? = some (.cells #[.int .i64 t396, .slice jA126 t397.length jc127, .int .i64 t400] 30 (0, 0)) ∧ w'.heap[gb408]? = some (.cells #[.int .i64 t403, .slice Ao134 t432.length co135, .int .i64 t407] 30 (0, 0)) ∧ w'.heap[gb412]? = some (.cells #[.slice Ao144 t434.length co145] 34 (0, 0)) ∧ w'.heap[gb419]? = some (.cells #[.int .i64 t413, .slice Ao154 t437.length co155, .int .i64 t417] 30 (0, 0)) ∧ w190.heap.size ≤ w'.heap.size ∧ Below w.heap.size w w') ?_ ?_
               rotate_left
               ·intro hJ
                refine tw_ 1 8 (some 96) (some 15) (fun K hK => ?_) (fun K hK => ?_)
                ·skip
                 refine goes_ Try.func15 (by kernel_rfl) rfl #[.agg #[.int .i64 a0_0, .slice A0_1 l0_1.length c0_1, .int .i64 a0_2]] (by rfl) rfl rfl am_ ?_
                 (with_reducible refine (laws_toLearner.calls k a0_0 _ _ l0_1 a0_2 t439 t440 t443 _ ?side1 ?side2 E43.out).mono ?_)
                 (case side1 => exact Kd.C_below HR0_1.out (up_ HB.out))
                 (case side2 => exact HC0_1.out)
                 rintro e w192 ⟨v441, rfl, ho0, hb⟩
                 refine ⟨_, rfl, ?_⟩
                 have hs_ := adv (wl := w190) (tow_) hb
                 obtain ⟨P194, hp_, hq_⟩ := made_S (wl := w190) (base := w.heap.size) (tow_) (below_size HB.out) ho0
                 have HP194 := Aside0.mk hp_
                 have zHO442 := Aside0.mk hq_
                 clear hp_ hq_ ho0
                 have z_ := Aside0.mk (Kd.S_below HO399.out hs_)
                 clear HO399
                 have HO399 := z_
                 clear z_
                 have z_ := Aside0.mk (Kd.S_below HO416.out hs_)
                 clear HO416
                 have HO416 := z_
                 clear z_
                 have z_ := Aside0.mk (Kd.S_below HO424.out hs_)
                 clear HO424
                 have HO424 := z_
                 clear z_
                 have z_ := Aside0.mk (Kd.R_below HO429.out hs_)
                 clear HO429
                 have HO429 := z_
                 clear z_
                 have z_ := Aside0.mk (blk_below BK384.out hs_)
                 clear BK384
                 have BK384 := z_
                 clear z_
                 have z_ := Aside0.mk (blk_below BK385.out hs_)
                 clear BK385
                 have BK385 := z_
                 clear z_
                 have z_ := Aside0.mk (blk_below BK402.out hs_)
                 clear BK402
                 have BK402 := z_
                 clear z_
                 have z_ := Aside0.mk (blk_below BK408.out hs_)
                 clear BK408
                 have BK408 := z_
                 clear z_
                 have z_ := Aside0.mk (blk_below BK412.out hs_)
                 clear BK412
                 have BK412 := z_
                 clear z_
                 have z_ := Aside0.mk (blk_below BK419.out hs_)
                 clear BK419
                 have BK419 := z_
                 clear z_
                 (try clear hcz384_0)
                 (try clear hcz384_1)
                 (try clear hcz384_2)
                 (try clear hcz385_0)
                 (try clear hcz402_0)
                 (try clear hcz402_1)
                 (try clear hcz402_2)
                 (try clear hcz408_0)
                 (try clear hcz408_1)
                 (try clear hcz408_2)
                 (try clear hcz412_0)
                 (try clear hcz419_0)
                 (try clear hcz419_1)
                 (try clear hcz419_2)
                 have z_ := Aside0.mk (advB HB.out hs_)
                 clear HB
                 have HB := z_
                 clear z_
                 have HZ193 := Aside0.mk (below_size hs_)
                 clear hs_ hb
                 have HO442 := zHO442
                 clear zHO442
                 obtain ⟨Ao195, co196, eo197⟩ := slice_S HO442.out
                 subst eo197
                 refine hK.out _ _ ⟨(by first | exact (blk_cell BK384.out 0).trans rfl | exact (blk_cell (up_ BK384.out) 0).trans rfl), (by first | exact (blk_cell BK384.out 1).trans rfl | exact (blk_cell (up_ BK384.out) 1).trans rfl), (by first | exact (blk_cell BK384.out 2).trans rfl | exact (blk_cell (up_ BK384.out) 2).trans rfl), (by first | exact (blk_cell BK385.out 0).trans rfl | exact (blk_cell (up_ BK385.out) 0).trans rfl)⟩ (fun hHeld => ?_)
                 clear hK K
                 refine nm_ ?_
                 refine tw_ 3 8 (some 98) (some 15) (fun K hK => ?_) (fun K hK => ?_)
                 ·skip
                  refine goes_ Try.func16 (by kernel_rfl) rfl #[.agg #[.slice A1_0 l1_0.length c1_0]] (by rfl) rfl rfl am_ ?_
                  (with_reducible refine (laws_toRow.calls k _ _ l1_0 t444 _ ?side1 ?side2 E44.out).mono ?_)
                  (case side1 => exact Kd.C_below HR1_0.out (up_ HB.out))
                  (case side2 => exact HC1_0.out)
                  rintro e w198 ⟨v445, rfl, ho0, hb⟩
                  refine ⟨_, rfl, ?_⟩
                  have hs_ := adv (wl := w192) (tow_) hb
                  obtain ⟨P200, hp_, hq_⟩ := made_R (wl := w192) (base := w.heap.size) (tow_) (below_size HB.out) ho0
                  have HP200 := Aside0.mk hp_
                  have zHO446 := Aside0.mk hq_
                  clear hp_ hq_ ho0
                  have z_ := Aside0.mk (Kd.S_below HO399.out hs_)
                  clear HO399
                  have HO399 := z_
                  clear z_
                  have z_ := Aside0.mk (Kd.S_below HO416.out hs_)
                  clear HO416
                  have HO416 := z_
                  clear z_
                  have z_ := Aside0.mk (Kd.S_below HO424.out hs_)
                  clear HO424
                  have HO424 := z_
                  clear z_
                  have z_ := Aside0.mk (Kd.R_below HO429.out hs_)
                  clear HO429
                  have HO429 := z_
                  clear z_
                  have z_ := Aside0.mk (Kd.S_below HO442.out hs_)
                  clear HO442
                  have HO442 := z_
                  clear z_
                  have z_ := Aside0.mk (blk_below BK384.out hs_)
                  clear BK384
                  have BK384 := z_
                  clear z_
                  have z_ := Aside0.mk (blk_below BK385.out hs_)
                  clear BK385
                  have BK385 := z_
                  clear z_
                  have z_ := Aside0.mk (blk_below BK402.out hs_)
                  clear BK402
                  have BK402 := z_
                  clear z_
                  have z_ := Aside0.mk (blk_below BK408.out hs_)
                  clear BK408
                  have BK408 := z_
                  clear z_
                  have z_ := Aside0.mk (blk_below BK412.out hs_)
                  clear BK412
                  have BK412 := z_
                  clear z_
                  have z_ := Aside0.mk (blk_below BK419.out hs_)
                  clear BK419
                  have BK419 := z_
                  clear z_
                  (try clear hcz384_0)
                  (try clear hcz384_1)
                  (try clear hcz384_2)
                  (try clear hcz385_0)
                  (try clear hcz402_0)
                  (try clear hcz402_1)
                  (try clear hcz402_2)
                  (try clear hcz408_0)
                  (try clear hcz408_1)
                  (try clear hcz408_2)
                  (try clear hcz412_0)
                  (try clear hcz419_0)
                  (try clear hcz419_1)
                  (try clear hcz419_2)
                  have z_ := Aside0.mk (advB HB.out hs_)
                  clear HB
                  have HB := z_
                  clear z_
                  have HZ199 := Aside0.mk (below_size hs_)
                  clear hs_ hb
                  have HO446 := zHO446
                  clear zHO446
                  obtain ⟨Ao201, co202, eo203⟩ := slice_R HO446.out
                  subst eo203
                  refine hK.out _ _ ⟨(by first | exact (blk_cell BK384.out 0).trans rfl | exact (blk_cell (up_ BK384.out) 0).trans rfl), (by first | exact (blk_cell BK384.out 1).trans rfl | exact (blk_cell (up_ BK384.out) 1).trans rfl), (by first | exact (blk_cell BK384.out 2).trans rfl | exact (blk_cell (up_ BK384.out) 2).trans rfl), (by first | exact (blk_cell BK385.out 0).trans rfl | exact (blk_cell (up_ BK385.out) 0).trans rfl)⟩ (fun hHeld => ?_)
                  clear hK K
                  refine nm_ ?_
                  refine tw_ 4 8 (some 99) (some 15) (fun K hK => ?_) (fun K hK => ?_)
                  ·skip
                   refine goes_ Try.func17 (by kernel_rfl) rfl #[.agg #[.int .i64 t439, .slice Ao195 t440.length co196, .int .i64 t443], .agg #[.slice Ao201 t444.length co202]] (by rfl) rfl rfl am_ ?_
                   (with_reducible refine (impl_HearRow.calls k t439 _ _ t440 t443 _ _ t444 t447 t448 t451 t452 _ ?side1 ?side2 ?side3 ?side4 E45.out).mono ?_)
                   (case side1 => repeat (first | exact (Kd.S_reads' HO442.out).2.2 | (with_reducible refine Kd.C_alloc ?_ _) | (with_reducible refine Kd.C_drewN ?_ _) | (with_reducible refine Kd.C_drew ?_)))
                   (case side2 => exact (Kd.S_reads' HO442.out).2.1)
                   (case side3 => repeat (first | exact (Kd.R_reads' HO446.out).2.2 | (with_reducible refine Kd.C_alloc ?_ _) | (with_reducible refine Kd.C_drewN ?_ _) | (with_reducible refine Kd.C_drew ?_)))
                   (case side4 => exact (Kd.R_reads' HO446.out).2.1)
                   rintro e w204 ⟨v449, rfl, ho0, hb⟩
                   refine ⟨_, rfl, ?_⟩
                   have hs_ := adv (wl := w198) (tow_) hb
                   obtain ⟨P206, hp_, hq_⟩ := made_S (wl := w198) (base := w.heap.size) (tow_) (below_size HB.out) ho0
                   have HP206 := Aside0.mk hp_
                   have zHO450 := Aside0.mk hq_
                   clear hp_ hq_ ho0
                   have z_ := Aside0.mk (Kd.S_below HO399.out hs_)
                   clear HO399
                   have HO399 := z_
                   clear z_
                   have z_ := Aside0.mk (Kd.S_below HO416.out hs_)
                   clear HO416
                   have HO416 := z_
                   clear z_
                   have z_ := Aside0.mk (Kd.S_below HO424.out hs_)
                   clear HO424
                   have HO424 := z_
                   clear z_
                   have z_ := Aside0.mk (Kd.R_below HO429.out hs_)
                   clear HO429
                   have HO429 := z_
                   clear z_
                   have z_ := Aside0.mk (Kd.S_below HO442.out hs_)
                   clear HO442
                   have HO442 := z_
                   clear z_
                   have z_ := Aside0.mk (Kd.R_below HO446.out hs_)
                   clear HO446
                   have HO446 := z_
                   clear z_
                   have z_ := Aside0.mk (blk_below BK384.out hs_)
                   clear BK384
                   have BK384 := z_
                   clear z_
                   have z_ := Aside0.mk (blk_below BK385.out hs_)
                   clear BK385
                   have BK385 := z_
                   clear z_
                   have z_ := Aside0.mk (blk_below BK402.out hs_)
                   clear BK402
                   have BK402 := z_
                   clear z_
                   have z_ := Aside0.mk (blk_below BK408.out hs_)
                   clear BK408
                   have BK408 := z_
                   clear z_
                   have z_ := Aside0.mk (blk_below BK412.out hs_)
                   clear BK412
                   have BK412 := z_
                   clear z_
                   have z_ := Aside0.mk (blk_below BK419.out hs_)
                   clear BK419
                   have BK419 := z_
                   clear z_
                   (try clear hcz384_0)
                   (try clear hcz384_1)
                   (try clear hcz384_2)
                   (try clear hcz385_0)
                   (try clear hcz402_0)
                   (try clear hcz402_1)
                   (try clear hcz402_2)
                   (try clear hcz408_0)
                   (try clear hcz408_1)
                   (try clear hcz408_2)
                   (try clear hcz412_0)
                   (try clear hcz419_0)
                   (try clear hcz419_1)
                   (try clear hcz419_2)
                   have z_ := Aside0.mk (advB HB.out hs_)
                   clear HB
                   have HB := z_
                   clear z_
                   have HZ205 := Aside0.mk (below_size hs_)
                   clear hs_ hb
                   have HO450 := zHO450
                   clear zHO450
                   obtain ⟨Ao207, co208, eo209⟩ := slice_S HO450.out
                   subst eo209
                   refine hK.out _ _ ⟨(by first | exact (blk_cell BK384.out 0).trans rfl | exact (blk_cell (up_ BK384.out) 0).trans rfl), (by first | exact (blk_cell BK384.out 1).trans rfl | exact (blk_cell (up_ BK384.out) 1).trans rfl), (by first | exact (blk_cell BK384.out 2).trans rfl | exact (blk_cell (up_ BK384.out) 2).trans rfl), (by first | exact (blk_cell BK385.out 0).trans rfl | exact (blk_cell (up_ BK385.out) 0).trans rfl)⟩ (fun hHeld => ?_)
                   clear hK K
                   refine nm_ ?_
                   refine pu_ 5 (some 94) ?_
                   refine pu_ 6 (some 100) ?_
                   refine pu_ 7 (some 101) ?_
                   refine on_ 8 (some 15) (fun K hK => ?_)
                   refine box_step (by rfl) (N := 15) rfl (cs := #[.int .i64 0, .slice none 0 0, .int .i64 0]) (t := 30) (by first | (go_simp; done) | (go_simp; rfl)) ?_
                   intro gb453 hg_ w210 hbox_ hb
                   have hs_ := adv (wl := w204) (tow_) hb
                   have BK453 := Aside0.mk hbox_
                   have HPB453 := Aside0.mk (boxIn (wl := w204) (tow_) hg_ hbox_)
                   (try clear hcz384_0)
                   (try clear hcz384_1)
                   (try clear hcz384_2)
                   (try clear hcz385_0)
                   (try clear hcz402_0)
                   (try clear hcz402_1)
                   (try clear hcz402_2)
                   (try clear hcz408_0)
                   (try clear hcz408_1)
                   (try clear hcz408_2)
                   (try clear hcz412_0)
                   (try clear hcz419_0)
                   (try clear hcz419_1)
                   (try clear hcz419_2)
                   have z_ := Aside0.mk (Kd.S_below HO399.out hs_)
                   clear HO399
                   have HO399 := z_
                   clear z_
                   have z_ := Aside0.mk (Kd.S_below HO416.out hs_)
                   clear HO416
                   have HO416 := z_
                   clear z_
                   have z_ := Aside0.mk (Kd.S_below HO424.out hs_)
                   clear HO424
                   have HO424 := z_
                   clear z_
                   have z_ := Aside0.mk (Kd.R_below HO429.out hs_)
                   clear HO429
                   have HO429 := z_
                   clear z_
                   have z_ := Aside0.mk (Kd.S_below HO442.out hs_)
                   clear HO442
                   have HO442 := z_
                   clear z_
                   have z_ := Aside0.mk (Kd.R_below HO446.out hs_)
                   clear HO446
                   have HO446 := z_
                   clear z_
                   have z_ := Aside0.mk (Kd.S_below HO450.out hs_)
                   clear HO450
                   have HO450 := z_
                   clear z_
                   have z_ := Aside0.mk (blk_below BK384.out hs_)
                   clear BK384
                   have BK384 := z_
                   clear z_
                   have z_ := Aside0.mk (blk_below BK385.out hs_)
                   clear BK385
                   have BK385 := z_
                   clear z_
                   have z_ := Aside0.mk (blk_below BK402.out hs_)
                   clear BK402
                   have BK402 := z_
                   clear z_
                   have z_ := Aside0.mk (blk_below BK408.out hs_)
                   clear BK408
                   have BK408 := z_
                   clear z_
                   have z_ := Aside0.mk (blk_below BK412.out hs_)
                   clear BK412
                   have BK412 := z_
                   clear z_
                   have z_ := Aside0.mk (blk_below BK419.out hs_)
                   clear BK419
                   have BK419 := z_
                   clear z_
                   have z_ := Aside0.mk (advB HB.out hs_)
                   clear HB
                   have HB := z_
                   clear z_
                   have HZ211 := Aside0.mk (below_size hs_)
                   clear hs_ hb hg_ hbox_
                   refine hK.out _ _ ⟨(by first | exact (blk_cell BK384.out 0).trans rfl | exact (blk_cell (up_ BK384.out) 0).trans rfl), (by first | exact (blk_cell BK384.out 1).trans rfl | exact (blk_cell (up_ BK384.out) 1).trans rfl), (by first | exact (blk_cell BK384.out 2).trans rfl | exact (blk_cell (up_ BK384.out) 2).trans rfl), (by first | exact (blk_cell BK385.out 0).trans rfl | exact (blk_cell (up_ BK385.out) 0).trans rfl)⟩ (fun hHeld => ?_)
                   clear hK K
                   refine nm_ ?_
                   exact norm_ (by first | (simp only [putAll, Act.put, List.setIfInBounds_toArray, List.set_cons_zero, List.set_cons_succ]; done) | (simp only [putAll, Act.put, List.setIfInBounds_toArray, List.set_cons_zero, List.set_cons_succ]; rfl)) (hJ (gb453, .agg #[.int .i64 t439, .slice Ao195 t440.length co196, .int .i64 t443], .agg #[.slice Ao201 t444.length co202], Ao207, co208) _ ⟨⟨_, fun k_ hk_ => ⟨⟨Nat.le_trans (Nat.le_trans HZ193.out <| HZ199.out) (HP206.out k_ hk_).1, Nat.lt_of_lt_of_le (HP206.out k_ hk_).2.1 (HZ211.out), trivial⟩, fun he_ => (fun k_ h1_ h2_ => apart_ (Nat.le_refl _) (HP206.out k_ h1_).2.1 (HPB453.out k_ h2_).1) k_ hk_ he_⟩, HO450.out⟩, BK453.out, (Nat.le_trans (Nat.le_trans HZ193.out <| Nat.le_trans HZ199.out <| HZ205.out) (HPB453.out _ rfl).1), HO399.out, HO416.out, HO424.out, HO429.out, BK384.out, BK385.out, BK402.out, BK408.out, BK412.out, BK419.out, (Nat.le_trans HZ193.out <| Nat.le_trans HZ199.out <| Nat.le_trans HZ205.out <| HZ211.out), HB.out⟩)
                  ·skip
                   refine box_step (by rfl) (N := 15) rfl (cs := #[.int .i64 0, .slice none 0 0, .int .i64 0]) (t := 30) (by first | (go_simp; done) | (go_simp; rfl)) ?_
                   intro gb453 hg_ w212 hbox_ hb
                   have hs_ := adv (wl := w198) (tow_) hb
                   have BK453 := Aside0.mk hbox_
                   have HPB453 := Aside0.mk (boxIn (wl := w198) (tow_) hg_ hbox_)
                   (try clear hcz384_0)
                   (try clear hcz384_1)
                   (try clear hcz384_2)
                   (try clear hcz385_0)
                   (try clear hcz402_0)
                   (try clear hcz402_1)
                   (try clear hcz402_2)
                   (try clear hcz408_0)
                   (try clear hcz408_1)
                   (try clear hcz408_2)
                   (try clear hcz412_0)
                   (try clear hcz419_0)
                   (try clear hcz419_1)
                   (try clear hcz419_2)
                   have z_ := Aside0.mk (Kd.S_below HO399.out hs_)
                   clear HO399
                   have HO399 := z_
                   clear z_
                   have z_ := Aside0.mk (Kd.S_below HO416.out hs_)
                   clear HO416
                   have HO416 := z_
                   clear z_
                   have z_ := Aside0.mk (Kd.S_below HO424.out hs_)
                   clear HO424
                   have HO424 := z_
                   clear z_
                   have z_ := Aside0.mk (Kd.R_below HO429.out hs_)
                   clear HO429
                   have HO429 := z_
                   clear z_
                   have z_ := Aside0.mk (Kd.S_below HO442.out hs_)
                   clear HO442
                   have HO442 := z_
                   clear z_
                   have z_ := Aside0.mk (Kd.R_below HO446.out hs_)
                   clear HO446
                   have HO446 := z_
                   clear z_
                   have z_ := Aside0.mk (blk_below BK384.out hs_)
                   clear BK384
                   have BK384 := z_
                   clear z_
                   have z_ := Aside0.mk (blk_below BK385.out hs_)
                   clear BK385
                   have BK385 := z_
                   clear z_
                   have z_ := Aside0.mk (blk_below BK402.out hs_)
                   clear BK402
                   have BK402 := z_
                   clear z_
                   have z_ := Aside0.mk (blk_below BK408.out hs_)
                   clear BK408
                   have BK408 := z_
                   clear z_
                   have z_ := Aside0.mk (blk_below BK412.out hs_)
                   clear BK412
                   have BK412 := z_
                   clear z_
                   have z_ := Aside0.mk (blk_below BK419.out hs_)
                   clear BK419
                   have BK419 := z_
                   clear z_
                   have z_ := Aside0.mk (advB HB.out hs_)
                   clear HB
                   have HB := z_
                   clear z_
                   have HZ213 := Aside0.mk (below_size hs_)
                   clear hs_ hb hg_ hbox_
                   refine hK.out _ _ ⟨(by first | exact (blk_cell BK384.out 0).trans rfl | exact (blk_cell (up_ BK384.out) 0).trans rfl), (by first | exact (blk_cell BK384.out 1).trans rfl | exact (blk_cell (up_ BK384.out) 1).trans rfl), (by first | exact (blk_cell BK384.out 2).trans rfl | exact (blk_cell (up_ BK384.out) 2).trans rfl), (by first | exact (blk_cell BK385.out 0).trans rfl | exact (blk_cell (up_ BK385.out) 0).trans rfl)⟩ (fun hHeld => ?_)
                   clear hK K
                   refine nm_ ?_
                   refine on_ 4 (some 99) (fun K hK => ?_)
                   refine goes_ Try.func17 (by kernel_rfl) rfl #[.agg #[.int .i64 t439, .slice Ao195 t440.length co196, .int .i64 t443], .agg #[.slice Ao201 t444.length co202]] (by rfl) rfl rfl am_ ?_
                   (with_reducible refine (impl_HearRow.calls k t439 _ _ t440 t443 _ _ t444 t447 t448 t451 t452 _ ?side1 ?side2 ?side3 ?side4 E45.out).mono ?_)
                   (case side1 => repeat (first | exact (Kd.S_reads' HO442.out).2.2 | (with_reducible refine Kd.C_alloc ?_ _) | (with_reducible refine Kd.C_drewN ?_ _) | (with_reducible refine Kd.C_drew ?_)))
                   (case side2 => exact (Kd.S_reads' HO442.out).2.1)
                   (case side3 => repeat (first | exact (Kd.R_reads' HO446.out).2.2 | (with_reducible refine Kd.C_alloc ?_ _) | (with_reducible refine Kd.C_drewN ?_ _) | (with_reducible refine Kd.C_drew ?_)))
                   (case side4 => exact (Kd.R_reads' HO446.out).2.1)
                   rintro e w214 ⟨v449, rfl, ho0, hb⟩
                   refine ⟨_, rfl, ?_⟩
                   have hs_ := adv (wl := w212) (tow_) hb
                   obtain ⟨P216, hp_, hq_⟩ := made_S (wl := w212) (base := w.heap.size) (tow_) (below_size HB.out) ho0
                   have HP216 := Aside0.mk hp_
                   have zHO450 := Aside0.mk hq_
                   clear hp_ hq_ ho0
                   have z_ := Aside0.mk (Kd.S_below HO399.out hs_)
                   clear HO399
                   have HO399 := z_
                   clear z_
                   have z_ := Aside0.mk (Kd.S_below HO416.out hs_)
                   clear HO416
                   have HO416 := z_
                   clear z_
                   have z_ := Aside0.mk (Kd.S_below HO424.out hs_)
                   clear HO424
                   have HO424 := z_
                   clear z_
                   have z_ := Aside0.mk (Kd.R_below HO429.out hs_)
                   clear HO429
                   have HO429 := z_
                   clear z_
                   have z_ := Aside0.mk (Kd.S_below HO442.out hs_)
                   clear HO442
                   have HO442 := z_
                   clear z_
                   have z_ := Aside0.mk (Kd.R_below HO446.out hs_)
                   clear HO446
                   have HO446 := z_
                   clear z_
                   have z_ := Aside0.mk (blk_below BK384.out hs_)
                   clear BK384
                   have BK384 := z_
                   clear z_
                   have z_ := Aside0.mk (blk_below BK385.out hs_)
                   clear BK385
                   have BK385 := z_
                   clear z_
                   have z_ := Aside0.mk (blk_below BK402.out hs_)
                   clear BK402
                   have BK402 := z_
                   clear z_
                   have z_ := Aside0.mk (blk_below BK408.out hs_)
                   clear BK408
                   have BK408 := z_
                   clear z_
                   have z_ := Aside0.mk (blk_below BK412.out hs_)
                   clear BK412
                   have BK412 := z_
                   clear z_
                   have z_ := Aside0.mk (blk_below BK419.out hs_)
                   clear BK419
                   have BK419 := z_
                   clear z_
                   have z_ := Aside0.mk (blk_below BK453.out hs_)
                   clear BK453
                   have BK453 := z_
                   clear z_
                   (try clear hcz384_0)
                   (try clear hcz384_1)
                   (try clear hcz384_2)
                   (try clear hcz385_0)
                   (try clear hcz402_0)
                   (try clear hcz402_1)
                   (try clear hcz402_2)
                   (try clear hcz408_0)
                   (try clear hcz408_1)
                   (try clear hcz408_2)
                   (try clear hcz412_0)
                   (try clear hcz419_0)
                   (try clear hcz419_1)
                   (try clear hcz419_2)
                   (try clear hcz453_0)
                   (try clear hcz453_1)
                   (try clear hcz453_2)
                   have z_ := Aside0.mk (advB HB.out hs_)
                   clear HB
                   have HB := z_
                   clear z_
                   have HZ215 := Aside0.mk (below_size hs_)
                   clear hs_ hb
                   have HO450 := zHO450
                   clear zHO450
                   obtain ⟨Ao217, co218, eo219⟩ := slice_S HO450.out
                   subst eo219
                   refine hK.out _ _ ⟨(by first | exact (blk_cell BK384.out 0).trans rfl | exact (blk_cell (up_ BK384.out) 0).trans rfl), (by first | exact (blk_cell BK384.out 1).trans rfl | exact (blk_cell (up_ BK384.out) 1).trans rfl), (by first | exact (blk_cell BK384.out 2).trans rfl | exact (blk_cell (up_ BK384.out) 2).trans rfl), (by first | exact (blk_cell BK385.out 0).trans rfl | exact (blk_cell (up_ BK385.out) 0).trans rfl)⟩ (fun hHeld => ?_)
                   clear hK K
                   refine nm_ ?_
                   refine pu_ 5 (some 94) ?_
                   refine pu_ 6 (some 100) ?_
                   refine pu_ 7 (some 101) ?_
                   exact norm_ (by first | (simp only [putAll, Act.put, List.setIfInBounds_toArray, List.set_cons_zero, List.set_cons_succ]; done) | (simp only [putAll, Act.put, List.setIfInBounds_toArray, List.set_cons_zero, List.set_cons_succ]; rfl)) (hJ (gb453, .agg #[.int .i64 t439, .slice Ao195 t440.length co196, .int .i64 t443], .agg #[.slice Ao201 t444.length co202], Ao217, co218) _ ⟨⟨_, fun k_ hk_ => ⟨⟨Nat.le_trans (Nat.le_trans HZ193.out <| Nat.le_trans HZ199.out <| HZ213.out) (HP216.out k_ hk_).1, Nat.lt_of_lt_of_le (HP216.out k_ hk_).2.1 (Nat.le_refl _), trivial⟩, fun he_ => (fun k_ h1_ h2_ => apart_ (Nat.le_refl _) (HPB453.out k_ h2_).2.1 (HP216.out k_ h1_).1) k_ hk_ he_⟩, HO450.out⟩, BK453.out, (Nat.le_trans (Nat.le_trans HZ193.out <| HZ199.out) (HPB453.out _ rfl).1), HO399.out, HO416.out, HO424.out, HO429.out, BK384.out, BK385.out, BK402.out, BK408.out, BK412.out, BK419.out, (Nat.le_trans HZ193.out <| Nat.le_trans HZ199.out <| Nat.le_trans HZ213.out <| HZ215.out), HB.out⟩)
                 ·skip
                  refine box_step (by rfl) (N := 15) rfl (cs := #[.int .i64 0, .slice none 0 0, .int .i64 0]) (t := 30) (by first | (go_simp; done) | (go_simp; rfl)) ?_
                  intro gb453 hg_ w220 hbox_ hb
                  have hs_ := adv (wl := w192) (tow_) hb
                  have BK453 := Aside0.mk hbox_
                  have HPB453 := Aside0.mk (boxIn (wl := w192) (tow_) hg_ hbox_)
                  (try clear hcz384_0)
                  (try clear hcz384_1)
                  (try clear hcz384_2)
                  (try clear hcz385_0)
                  (try clear hcz402_0)
                  (try clear hcz402_1)
                  (try clear hcz402_2)
                  (try clear hcz408_0)
                  (try clear hcz408_1)
                  (try clear hcz408_2)
                  (try clear hcz412_0)
                  (try clear hcz419_0)
                  (try clear hcz419_1)
                  (try clear hcz419_2)
                  have z_ := Aside0.mk (Kd.S_below HO399.out hs_)
                  clear HO399
                  have HO399 := z_
                  clear z_
                  have z_ := Aside0.mk (Kd.S_below HO416.out hs_)
                  clear HO416
                  have HO416 := z_
                  clear z_
                  have z_ := Aside0.mk (Kd.S_below HO424.out hs_)
                  clear HO424
                  have HO424 := z_
                  clear z_
                  have z_ := Aside0.mk (Kd.R_below HO429.out hs_)
                  clear HO429
                  have HO429 := z_
                  clear z_
                  have z_ := Aside0.mk (Kd.S_below HO442.out hs_)
                  clear HO442
                  have HO442 := z_
                  clear z_
                  have z_ := Aside0.mk (blk_below BK384.out hs_)
                  clear BK384
                  have BK384 := z_
                  clear z_
                  have z_ := Aside0.mk (blk_below BK385.out hs_)
                  clear BK385
                  have BK385 := z_
                  clear z_
                  have z_ := Aside0.mk (blk_below BK402.out hs_)
                  clear BK402
                  have BK402 := z_
                  clear z_
                  have z_ := Aside0.mk (blk_below BK408.out hs_)
                  clear BK408
                  have BK408 := z_
                  clear z_
                  have z_ := Aside0.mk (blk_below BK412.out hs_)
                  clear BK412
                  have BK412 := z_
                  clear z_
                  have z_ := Aside0.mk (blk_below BK419.out hs_)
                  clear BK419
                  have BK419 := z_
                  clear z_
                  have z_ := Aside0.mk (advB HB.out hs_)
                  clear HB
                  have HB := z_
                  clear z_
                  have HZ221 := Aside0.mk (below_size hs_)
                  clear hs_ hb hg_ hbox_
                  refine hK.out _ _ ⟨(by first | exact (blk_cell BK384.out 0).trans rfl | exact (blk_cell (up_ BK384.out) 0).trans rfl), (by first | exact (blk_cell BK384.out 1).trans rfl | exact (blk_cell (up_ BK384.out) 1).trans rfl), (by first | exact (blk_cell BK384.out 2).trans rfl | exact (blk_cell (up_ BK384.out) 2).trans rfl), (by first | exact (blk_cell BK385.out 0).trans rfl | exact (blk_cell (up_ BK385.out) 0).trans rfl)⟩ (fun hHeld => ?_)
                  clear hK K
                  refine nm_ ?_
                  refine on_ 3 (some 98) (fun K hK => ?_)
                  refine goes_ Try.func16 (by kernel_rfl) rfl #[.agg #[.slice A1_0 l1_0.length c1_0]] (by rfl) rfl rfl am_ ?_
                  (with_reducible refine (laws_toRow.calls k _ _ l1_0 t444 _ ?side1 ?side2 E44.out).mono ?_)
                  (case side1 => exact Kd.C_below HR1_0.out (up_ HB.out))
                  (case side2 => exact HC1_0.out)
                  rintro e w222 ⟨v445, rfl, ho0, hb⟩
                  refine ⟨_, rfl, ?_⟩
                  have hs_ := adv (wl := w220) (tow_) hb
                  obtain ⟨P224, hp_, hq_⟩ := made_R (wl := w220) (base := w.heap.size) (tow_) (below_size HB.out) ho0
                  have HP224 := Aside0.mk hp_
                  have zHO446 := Aside0.mk hq_
                  clear hp_ hq_ ho0
                  have z_ := Aside0.mk (Kd.S_below HO399.out hs_)
                  clear HO399
                  have HO399 := z_
                  clear z_
                  have z_ := Aside0.mk (Kd.S_below HO416.out hs_)
                  clear HO416
                  have HO416 := z_
                  clear z_
                  have z_ := Aside0.mk (Kd.S_below HO424.out hs_)
                  clear HO424
                  have HO424 := z_
                  clear z_
                  have z_ := Aside0.mk (Kd.R_below HO429.out hs_)
                  clear HO429
                  have HO429 := z_
                  clear z_
                  have z_ := Aside0.mk (Kd.S_below HO442.out hs_)
                  clear HO442
                  have HO442 := z_
                  clear z_
                  have z_ := Aside0.mk (blk_below BK384.out hs_)
                  clear BK384
                  have BK384 := z_
                  clear z_
                  have z_ := Aside0.mk (blk_below BK385.out hs_)
                  clear BK385
                  have BK385 := z_
                  clear z_
                  have z_ := Aside0.mk (blk_below BK402.out hs_)
                  clear BK402
                  have BK402 := z_
                  clear z_
                  have z_ := Aside0.mk (blk_below BK408.out hs_)
                  clear BK408
                  have BK408 := z_
                  clear z_
                  have z_ := Aside0.mk (blk_below BK412.out hs_)
                  clear BK412
                  have BK412 := z_
                  clear z_
                  have z_ := Aside0.mk (blk_below BK419.out hs_)
                  clear BK419
                  have BK419 := z_
                  clear z_
                  have z_ := Aside0.mk (blk_below BK453.out hs_)
                  clear BK453
                  have BK453 := z_
                  clear z_
                  (try clear hcz384_0)
                  (try clear hcz384_1)
                  (try clear hcz384_2)
                  (try clear hcz385_0)
                  (try clear hcz402_0)
                  (try clear hcz402_1)
                  (try clear hcz402_2)
                  (try clear hcz408_0)
                  (try clear hcz408_1)
                  (try clear hcz408_2)
                  (try clear hcz412_0)
                  (try clear hcz419_0)
                  (try clear hcz419_1)
                  (try clear hcz419_2)
                  (try clear hcz453_0)
                  (try clear hcz453_1)
                  (try clear hcz453_2)
                  have z_ := Aside0.mk (advB HB.out hs_)
                  clear HB
                  have HB := z_
                  clear z_
                  have HZ223 := Aside0.mk (below_size hs_)
                  clear hs_ hb
                  have HO446 := zHO446
                  clear zHO446
                  obtain ⟨Ao225, co226, eo227⟩ := slice_R HO446.out
                  subst eo227
                  refine hK.out _ _ ⟨(by first | exact (blk_cell BK384.out 0).trans rfl | exact (blk_cell (up_ BK384.out) 0).trans rfl), (by first | exact (blk_cell BK384.out 1).trans rfl | exact (blk_cell (up_ BK384.out) 1).trans rfl), (by first | exact (blk_cell BK384.out 2).trans rfl | exact (blk_cell (up_ BK384.out) 2).trans rfl), (by first | exact (blk_cell BK385.out 0).trans rfl | exact (blk_cell (up_ BK385.out) 0).trans rfl)⟩ (fun hHeld => ?_)
                  clear hK K
                  refine nm_ ?_
                  refine on_ 4 (some 99) (fun K hK => ?_)
                  refine goes_ Try.func17 (by kernel_rfl) rfl #[.agg #[.int .i64 t439, .slice Ao195 t440.length co196, .int .i64 t443], .agg #[.slice Ao225 t444.length co226]] (by rfl) rfl rfl am_ ?_
                  (with_reducible refine (impl_HearRow.calls k t439 _ _ t440 t443 _ _ t444 t447 t448 t451 t452 _ ?side1 ?side2 ?side3 ?side4 E45.out).mono ?_)
                  (case side1 => repeat (first | exact (Kd.S_reads' HO442.out).2.2 | (with_reducible refine Kd.C_alloc ?_ _) | (with_reducible refine Kd.C_drewN ?_ _) | (with_reducible refine Kd.C_drew ?_)))
                  (case side2 => exact (Kd.S_reads' HO442.out).2.1)
                  (case side3 => repeat (first | exact (Kd.R_reads' HO446.out).2.2 | (with_reducible refine Kd.C_alloc ?_ _) | (with_reducible refine Kd.C_drewN ?_ _) | (with_reducible refine Kd.C_drew ?_)))
                  (case side4 => exact (Kd.R_reads' HO446.out).2.1)
                  rintro e w228 ⟨v449, rfl, ho0, hb⟩
                  refine ⟨_, rfl, ?_⟩
                  have hs_ := adv (wl := w222) (tow_) hb
                  obtain ⟨P230, hp_, hq_⟩ := made_S (wl := w222) (base := w.heap.size) (tow_) (below_size HB.out) ho0
                  have HP230 := Aside0.mk hp_
                  have zHO450 := Aside0.mk hq_
                  clear hp_ hq_ ho0
                  have z_ := Aside0.mk (Kd.S_below HO399.out hs_)
                  clear HO399
                  have HO399 := z_
                  clear z_
                  have z_ := Aside0.mk (Kd.S_below HO416.out hs_)
                  clear HO416
                  have HO416 := z_
                  clear z_
                  have z_ := Aside0.mk (Kd.S_below HO424.out hs_)
                  clear HO424
                  have HO424 := z_
                  clear z_
                  have z_ := Aside0.mk (Kd.R_below HO429.out hs_)
                  clear HO429
                  have HO429 := z_
                  clear z_
                  have z_ := Aside0.mk (Kd.S_below HO442.out hs_)
                  clear HO442
                  have HO442 := z_
                  clear z_
                  have z_ := Aside0.mk (Kd.R_below HO446.out hs_)
                  clear HO446
                  have HO446 := z_
                  clear z_
                  have z_ := Aside0.mk (blk_below BK384.out hs_)
                  clear BK384
                  have BK384 := z_
                  clear z_
                  have z_ := Aside0.mk (blk_below BK385.out hs_)
                  clear BK385
                  have BK385 := z_
                  clear z_
                  have z_ := Aside0.mk (blk_below BK402.out hs_)
                  clear BK402
                  have BK402 := z_
                  clear z_
                  have z_ := Aside0.mk (blk_below BK408.out hs_)
                  clear BK408
                  have BK408 := z_
                  clear z_
                  have z_ := Aside0.mk (blk_below BK412.out hs_)
                  clear BK412
                  have BK412 := z_
                  clear z_
                  have z_ := Aside0.mk (blk_below BK419.out hs_)
                  clear BK419
                  have BK419 := z_
                  clear z_
                  have z_ := Aside0.mk (blk_below BK453.out hs_)
                  clear BK453
                  have BK453 := z_
                  clear z_
                  (try clear hcz384_0)
                  (try clear hcz384_1)
                  (try clear hcz384_2)
                  (try clear hcz385_0)
                  (try clear hcz402_0)
                  (try clear hcz402_1)
                  (try clear hcz402_2)
                  (try clear hcz408_0)
                  (try clear hcz408_1)
                  (try clear hcz408_2)
                  (try clear hcz412_0)
                  (try clear hcz419_0)
                  (try clear hcz419_1)
                  (try clear hcz419_2)
                  (try clear hcz453_0)
                  (try clear hcz453_1)
                  (try clear hcz453_2)
                  have z_ := Aside0.mk (advB HB.out hs_)
                  clear HB
                  have HB := z_
                  clear z_
                  have HZ229 := Aside0.mk (below_size hs_)
                  clear hs_ hb
                  have HO450 := zHO450
                  clear zHO450
                  obtain ⟨Ao231, co232, eo233⟩ := slice_S HO450.out
                  subst eo233
                  refine hK.out _ _ ⟨(by first | exact (blk_cell BK384.out 0).trans rfl | exact (blk_cell (up_ BK384.out) 0).trans rfl), (by first | exact (blk_cell BK384.out 1).trans rfl | exact (blk_cell (up_ BK384.out) 1).trans rfl), (by first | exact (blk_cell BK384.out 2).trans rfl | exact (blk_cell (up_ BK384.out) 2).trans rfl), (by first | exact (blk_cell BK385.out 0).trans rfl | exact (blk_cell (up_ BK385.out) 0).trans rfl)⟩ (fun hHeld => ?_)
                  clear hK K
                  refine nm_ ?_
                  refine pu_ 5 (some 94) ?_
                  refine pu_ 6 (some 100) ?_
                  refine pu_ 7 (some 101) ?_
                  exact norm_ (by first | (simp only [putAll, Act.put, List.setIfInBounds_toArray, List.set_cons_zero, List.set_cons_succ]; done) | (simp only [putAll, Act.put, List.setIfInBounds_toArray, List.set_cons_zero, List.set_cons_succ]; rfl)) (hJ (gb453, .agg #[.int .i64 t439, .slice Ao195 t440.length co196, .int .i64 t443], .agg #[.slice Ao225 t444.length co226], Ao231, co232) _ ⟨⟨_, fun k_ hk_ => ⟨⟨Nat.le_trans (Nat.le_trans HZ193.out <| Nat.le_trans HZ221.out <| HZ223.out) (HP230.out k_ hk_).1, Nat.lt_of_lt_of_le (HP230.out k_ hk_).2.1 (Nat.le_refl _), trivial⟩, fun he_ => (fun k_ h1_ h2_ => apart_ (HZ223.out) (HPB453.out k_ h2_).2.1 (HP230.out k_ h1_).1) k_ hk_ he_⟩, HO450.out⟩, BK453.out, (Nat.le_trans (HZ193.out) (HPB453.out _ rfl).1), HO399.out, HO416.out, HO424.out, HO429.out, BK384.out, BK385.out, BK402.out, BK408.out, BK412.out, BK419.out, (Nat.le_trans HZ193.out <| Nat.le_trans HZ221.out <| Nat.le_trans HZ223.out <| HZ229.out), HB.out⟩)
                ·skip
                 refine box_step (by rfl) (N := 15) rfl (cs := #[.int .i64 0, .slice none 0 0, .int .i64 0]) (t := 30) (by first | (go_simp; done) | (go_simp; rfl)) ?_
                 intro gb453 hg_ w234 hbox_ hb
                 have hs_ := adv (wl := w190) (tow_) hb
                 have BK453 := Aside0.mk hbox_
                 have HPB453 := Aside0.mk (boxIn (wl := w190) (tow_) hg_ hbox_)
                 (try clear hcz384_0)
                 (try clear hcz384_1)
                 (try clear hcz384_2)
                 (try clear hcz385_0)
                 (try clear hcz402_0)
                 (try clear hcz402_1)
                 (try clear hcz402_2)
                 (try clear hcz408_0)
                 (try clear hcz408_1)
                 (try clear hcz408_2)
                 (try clear hcz412_0)
                 (try clear hcz419_0)
                 (try clear hcz419_1)
                 (try clear hcz419_2)
                 have z_ := Aside0.mk (Kd.S_below HO399.out hs_)
                 clear HO399
                 have HO399 := z_
                 clear z_
                 have z_ := Aside0.mk (Kd.S_below HO416.out hs_)
                 clear HO416
                 have HO416 := z_
                 clear z_
                 have z_ := Aside0.mk (Kd.S_below HO424.out hs_)
                 clear HO424
                 have HO424 := z_
                 clear z_
                 have z_ := Aside0.mk (Kd.R_below HO429.out hs_)
                 clear HO429
                 have HO429 := z_
                 clear z_
                 have z_ := Aside0.mk (blk_below BK384.out hs_)
                 clear BK384
                 have BK384 := z_
                 clear z_
                 have z_ := Aside0.mk (blk_below BK385.out hs_)
                 clear BK385
                 have BK385 := z_
                 clear z_
                 have z_ := Aside0.mk (blk_below BK402.out hs_)
                 clear BK402
                 have BK402 := z_
                 clear z_
                 have z_ := Aside0.mk (blk_below BK408.out hs_)
                 clear BK408
                 have BK408 := z_
                 clear z_
                 have z_ := Aside0.mk (blk_below BK412.out hs_)
                 clear BK412
                 have BK412 := z_
                 clear z_
                 have z_ := Aside0.mk (blk_below BK419.out hs_)
                 clear BK419
                 have BK419 := z_
                 clear z_
                 have z_ := Aside0.mk (advB HB.out hs_)
                 clear HB
                 have HB := z_
                 clear z_
                 have HZ235 := Aside0.mk (below_size hs_)
                 clear hs_ hb hg_ hbox_
                 refine hK.out _ _ ⟨(by first | exact (blk_cell BK384.out 0).trans rfl | exact (blk_cell (up_ BK384.out) 0).trans rfl), (by first | exact (blk_cell BK384.out 1).trans rfl | exact (blk_cell (up_ BK384.out) 1).trans rfl), (by first | exact (blk_cell BK384.out 2).trans rfl | exact (blk_cell (up_ BK384.out) 2).trans rfl), (by first | exact (blk_cell BK385.out 0).trans rfl | exact (blk_cell (up_ BK385.out) 0).trans rfl)⟩ (fun hHeld => ?_)
                 clear hK K
                 refine nm_ ?_
                 refine on_ 1 (some 96) (fun K hK => ?_)
                 refine goes_ Try.func15 (by kernel_rfl) rfl #[.agg #[.int .i64 a0_0, .slice A0_1 l0_1.length c0_1, .int .i64 a0_2]] (by rfl) rfl rfl am_ ?_
                 (with_reducible refine (laws_toLearner.calls k a0_0 _ _ l0_1 a0_2 t439 t440 t443 _ ?side1 ?side2 E43.out).mono ?_)
                 (case side1 => exact Kd.C_below HR0_1.out (up_ HB.out))
                 (case side2 => exact HC0_1.out)
                 rintro e w236 ⟨v441, rfl, ho0, hb⟩
                 refine ⟨_, rfl, ?_⟩
                 have hs_ := adv (wl := w234) (tow_) hb
                 obtain ⟨P238, hp_, hq_⟩ := made_S (wl := w234) (base := w.heap.size) (tow_) (below_size HB.out) ho0
                 have HP238 := Aside0.mk hp_
                 have zHO442 := Aside0.mk hq_
                 clear hp_ hq_ ho0
                 have z_ := Aside0.mk (Kd.S_below HO399.out hs_)
                 clear HO399
                 have HO399 := z_
                 clear z_
                 have z_ := Aside0.mk (Kd.S_below HO416.out hs_)
                 clear HO416
                 have HO416 := z_
                 clear z_
                 have z_ := Aside0.mk (Kd.S_below HO424.out hs_)
                 clear HO424
                 have HO424 := z_
                 clear z_
                 have z_ := Aside0.mk (Kd.R_below HO429.out hs_)
                 clear HO429
                 have HO429 := z_
                 clear z_
                 have z_ := Aside0.mk (blk_below BK384.out hs_)
                 clear BK384
                 have BK384 := z_
                 clear z_
                 have z_ := Aside0.mk (blk_below BK385.out hs_)
                 clear BK385
                 have BK385 := z_
                 clear z_
                 have z_ := Aside0.mk (blk_below BK402.out hs_)
                 clear BK402
                 have BK402 := z_
                 clear z_
                 have z_ := Aside0.mk (blk_below BK408.out hs_)
                 clear BK408
                 have BK408 := z_
                 clear z_
                 have z_ := Aside0.mk (blk_below BK412.out hs_)
                 clear BK412
                 have BK412 := z_
                 clear z_
                 have z_ := Aside0.mk (blk_below BK419.out hs_)
                 clear BK419
                 have BK419 := z_
                 clear z_
                 have z_ := Aside0.mk (blk_below BK453.out hs_)
                 clear BK453
                 have BK453 := z_
                 clear z_
                 (try clear hcz384_0)
                 (try clear hcz384_1)
                 (try clear hcz384_2)
                 (try clear hcz385_0)
                 (try clear hcz402_0)
                 (try clear hcz402_1)
                 (try clear hcz402_2)
                 (try clear hcz408_0)
                 (try clear hcz408_1)
                 (try clear hcz408_2)
                 (try clear hcz412_0)
                 (try clear hcz419_0)
                 (try clear hcz419_1)
                 (try clear hcz419_2)
                 (try clear hcz453_0)
                 (try clear hcz453_1)
                 (try clear hcz453_2)
                 have z_ := Aside0.mk (advB HB.out hs_)
                 clear HB
                 have HB := z_
                 clear z_
                 have HZ237 := Aside0.mk (below_size hs_)
                 clear hs_ hb
                 have HO442 := zHO442
                 clear zHO442
                 obtain ⟨Ao239, co240, eo241⟩ := slice_S HO442.out
                 subst eo241
                 refine hK.out _ _ ⟨(by first | exact (blk_cell BK384.out 0).trans rfl | exact (blk_cell (up_ BK384.out) 0).trans rfl), (by first | exact (blk_cell BK384.out 1).trans rfl | exact (blk_cell (up_ BK384.out) 1).trans rfl), (by first | exact (blk_cell BK384.out 2).trans rfl | exact (blk_cell (up_ BK384.out) 2).trans rfl), (by first | exact (blk_cell BK385.out 0).trans rfl | exact (blk_cell (up_ BK385.out) 0).trans rfl)⟩ (fun hHeld => ?_)
                 clear hK K
                 refine nm_ ?_
                 refine on_ 3 (some 98) (fun K hK => ?_)
                 refine goes_ Try.func16 (by kernel_rfl) rfl #[.agg #[.slice A1_0 l1_0.length c1_0]] (by rfl) rfl rfl am_ ?_
                 (with_reducible refine (laws_toRow.calls k _ _ l1_0 t444 _ ?side1 ?side2 E44.out).mono ?_)
                 (case side1 => exact Kd.C_below HR1_0.out (up_ HB.out))
                 (case side2 => exact HC1_0.out)
                 rintro e w242 ⟨v445, rfl, ho0, hb⟩
                 refine ⟨_, rfl, ?_⟩
                 have hs_ := adv (wl := w236) (tow_) hb
                 obtain ⟨P244, hp_, hq_⟩ := made_R (wl := w236) (base := w.heap.size) (tow_) (below_size HB.out) ho0
                 have HP244 := Aside0.mk hp_
                 have zHO446 := Aside0.mk hq_
                 clear hp_ hq_ ho0
                 have z_ := Aside0.mk (Kd.S_below HO399.out hs_)
                 clear HO399
                 have HO399 := z_
                 clear z_
                 have z_ := Aside0.mk (Kd.S_below HO416.out hs_)
                 clear HO416
                 have HO416 := z_
                 clear z_
                 have z_ := Aside0.mk (Kd.S_below HO424.out hs_)
                 clear HO424
                 have HO424 := z_
                 clear z_
                 have z_ := Aside0.mk (Kd.R_below HO429.out hs_)
                 clear HO429
                 have HO429 := z_
                 clear z_
                 have z_ := Aside0.mk (Kd.S_below HO442.out hs_)
                 clear HO442
                 have HO442 := z_
                 clear z_
                 have z_ := Aside0.mk (blk_below BK384.out hs_)
                 clear BK384
                 have BK384 := z_
                 clear z_
                 have z_ := Aside0.mk (blk_below BK385.out hs_)
                 clear BK385
                 have BK385 := z_
                 clear z_
                 have z_ := Aside0.mk (blk_below BK402.out hs_)
                 clear BK402
                 have BK402 := z_
                 clear z_
                 have z_ := Aside0.mk (blk_below BK408.out hs_)
                 clear BK408
                 have BK408 := z_
                 clear z_
                 have z_ := Aside0.mk (blk_below BK412.out hs_)
                 clear BK412
                 have BK412 := z_
                 clear z_
                 have z_ := Aside0.mk (blk_below BK419.out hs_)
                 clear BK419
                 have BK419 := z_
                 clear z_
                 have z_ := Aside0.mk (blk_below BK453.out hs_)
                 clear BK453
                 have BK453 := z_
                 clear z_
                 (try clear hcz384_0)
                 (try clear hcz384_1)
                 (try clear hcz384_2)
                 (try clear hcz385_0)
                 (try clear hcz402_0)
                 (try clear hcz402_1)
                 (try clear hcz402_2)
                 (try clear hcz408_0)
                 (try clear hcz408_1)
                 (try clear hcz408_2)
                 (try clear hcz412_0)
                 (try clear hcz419_0)
                 (try clear hcz419_1)
                 (try clear hcz419_2)
                 (try clear hcz453_0)
                 (try clear hcz453_1)
                 (try clear hcz453_2)
                 have z_ := Aside0.mk (advB HB.out hs_)
                 clear HB
                 have HB := z_
                 clear z_
                 have HZ243 := Aside0.mk (below_size hs_)
                 clear hs_ hb
                 have HO446 := zHO446
                 clear zHO446
                 obtain ⟨Ao245, co246, eo247⟩ := slice_R HO446.out
                 subst eo247
                 refine hK.out _ _ ⟨(by first | exact (blk_cell BK384.out 0).trans rfl | exact (blk_cell (up_ BK384.out) 0).trans rfl), (by first | exact (blk_cell BK384.out 1).trans rfl | exact (blk_cell (up_ BK384.out) 1).trans rfl), (by first | exact (blk_cell BK384.out 2).trans rfl | exact (blk_cell (up_ BK384.out) 2).trans rfl), (by first | exact (blk_cell BK385.out 0).trans rfl | exact (blk_cell (up_ BK385.out) 0).trans rfl)⟩ (fun hHeld => ?_)
                 clear hK K
                 refine nm_ ?_
                 refine on_ 4 (some 99) (fun K hK => ?_)
                 refine goes_ Try.func17 (by kernel_rfl) rfl #[.agg #[.int .i64 t439, .slice Ao239 t440.length co240, .int .i64 t443], .agg #[.slice Ao245 t444.length co246]] (by rfl) rfl rfl am_ ?_
                 (with_reducible refine (impl_HearRow.calls k t439 _ _ t440 t443 _ _ t444 t447 t448 t451 t452 _ ?side1 ?side2 ?side3 ?side4 E45.out).mono ?_)
                 (case side1 => repeat (first | exact (Kd.S_reads' HO442.out).2.2 | (with_reducible refine Kd.C_alloc ?_ _) | (with_reducible refine Kd.C_drewN ?_ _) | (with_reducible refine Kd.C_drew ?_)))
                 (case side2 => exact (Kd.S_reads' HO442.out).2.1)
                 (case side3 => repeat (first | exact (Kd.R_reads' HO446.out).2.2 | (with_reducible refine Kd.C_alloc ?_ _) | (with_reducible refine Kd.C_drewN ?_ _) | (with_reducible refine Kd.C_drew ?_)))
                 (case side4 => exact (Kd.R_reads' HO446.out).2.1)
                 rintro e w248 ⟨v449, rfl, ho0, hb⟩
                 refine ⟨_, rfl, ?_⟩
                 have hs_ := adv (wl := w242) (tow_) hb
                 obtain ⟨P250, hp_, hq_⟩ := made_S (wl := w242) (base := w.heap.size) (tow_) (below_size HB.out) ho0
                 have HP250 := Aside0.mk hp_
                 have zHO450 := Aside0.mk hq_
                 clear hp_ hq_ ho0
                 have z_ := Aside0.mk (Kd.S_below HO399.out hs_)
                 clear HO399
                 have HO399 := z_
                 clear z_
                 have z_ := Aside0.mk (Kd.S_below HO416.out hs_)
                 clear HO416
                 have HO416 := z_
                 clear z_
                 have z_ := Aside0.mk (Kd.S_below HO424.out hs_)
                 clear HO424
                 have HO424 := z_
                 clear z_
                 have z_ := Aside0.mk (Kd.R_below HO429.out hs_)
                 clear HO429
                 have HO429 := z_
                 clear z_
                 have z_ := Aside0.mk (Kd.S_below HO442.out hs_)
                 clear HO442
                 have HO442 := z_
                 clear z_
                 have z_ := Aside0.mk (Kd.R_below HO446.out hs_)
                 clear HO446
                 have HO446 := z_
                 clear z_
                 have z_ := Aside0.mk (blk_below BK384.out hs_)
                 clear BK384
                 have BK384 := z_
                 clear z_
                 have z_ := Aside0.mk (blk_below BK385.out hs_)
                 clear BK385
                 have BK385 := z_
                 clear z_
                 have z_ := Aside0.mk (blk_below BK402.out hs_)
                 clear BK402
                 have BK402 := z_
                 clear z_
                 have z_ := Aside0.mk (blk_below BK408.out hs_)
                 clear BK408
                 have BK408 := z_
                 clear z_
                 have z_ := Aside0.mk (blk_below BK412.out hs_)
                 clear BK412
                 have BK412 := z_
                 clear z_
                 have z_ := Aside0.mk (blk_below BK419.out hs_)
                 clear BK419
                 have BK419 := z_
                 clear z_
                 have z_ := Aside0.mk (blk_below BK453.out hs_)
                 clear BK453
                 have BK453 := z_
                 clear z_
                 (try clear hcz384_0)
                 (try clear hcz384_1)
                 (try clear hcz384_2)
                 (try clear hcz385_0)
                 (try clear hcz402_0)
                 (try clear hcz402_1)
                 (try clear hcz402_2)
                 (try clear hcz408_0)
                 (try clear hcz408_1)
                 (try clear hcz408_2)
                 (try clear hcz412_0)
                 (try clear hcz419_0)
                 (try clear hcz419_1)
                 (try clear hcz419_2)
                 (try clear hcz453_0)
                 (try clear hcz453_1)
                 (try clear hcz453_2)
                 have z_ := Aside0.mk (advB HB.out hs_)
                 clear HB
                 have HB := z_
                 clear z_
                 have HZ249 := Aside0.mk (below_size hs_)
                 clear hs_ hb
                 have HO450 := zHO450
                 clear zHO450
                 obtain ⟨Ao251, co252, eo253⟩ := slice_S HO450.out
                 subst eo253
                 refine hK.out _ _ ⟨(by first | exact (blk_cell BK384.out 0).trans rfl | exact (blk_cell (up_ BK384.out) 0).trans rfl), (by first | exact (blk_cell BK384.out 1).trans rfl | exact (blk_cell (up_ BK384.out) 1).trans rfl), (by first | exact (blk_cell BK384.out 2).trans rfl | exact (blk_cell (up_ BK384.out) 2).trans rfl), (by first | exact (blk_cell BK385.out 0).trans rfl | exact (blk_cell (up_ BK385.out) 0).trans rfl)⟩ (fun hHeld => ?_)
                 clear hK K
                 refine nm_ ?_
                 refine pu_ 5 (some 94) ?_
                 refine pu_ 6 (some 100) ?_
                 refine pu_ 7 (some 101) ?_
                 exact norm_ (by first | (simp only [putAll, Act.put, List.setIfInBounds_toArray, List.set_cons_zero, List.set_cons_succ]; done) | (simp only [putAll, Act.put, List.setIfInBounds_toArray, List.set_cons_zero, List.set_cons_succ]; rfl)) (hJ (gb453, .agg #[.int .i64 t439, .slice Ao239 t440.length co240, .int .i64 t443], .agg #[.slice Ao245 t444.length co246], Ao251, co252) _ ⟨⟨_, fun k_ hk_ => ⟨⟨Nat.le_trans (Nat.le_trans HZ235.out <| Nat.le_trans HZ237.out <| HZ243.out) (HP250.out k_ hk_).1, Nat.lt_of_lt_of_le (HP250.out k_ hk_).2.1 (Nat.le_refl _), trivial⟩, fun he_ => (fun k_ h1_ h2_ => apart_ (Nat.le_trans HZ237.out <| HZ243.out) (HPB453.out k_ h2_).2.1 (HP250.out k_ h1_).1) k_ hk_ he_⟩, HO450.out⟩, BK453.out, (Nat.le_trans (Nat.le_refl _) (HPB453.out _ rfl).1), HO399.out, HO416.out, HO424.out, HO429.out, BK384.out, BK385.out, BK402.out, BK408.out, BK412.out, BK419.out, (Nat.le_trans HZ235.out <| Nat.le_trans HZ237.out <| Nat.le_trans HZ243.out <| HZ249.out), HB.out⟩)
               rintro ⟨gb453, jx256, jx257, jA258, jc259⟩ w254 ⟨⟨P260, hp0_, ho0_⟩, hbk_, hge_, hl0_, hl1_, hl2_, hl3_, hb0_, hb1_, hb2_, hb3_, hb4_, hb5_, hz_, hB_⟩
               refine norm_ (a' := ?_) ?_ ?_
               rotate_left
               ·simp only [putAll, Act.put, List.setIfInBounds_toArray, List.set_cons_zero, List.set_cons_succ]
                rfl
               clear HO399
               have HO399 := Aside0.mk hl0_
               clear hl0_
               clear HO416
               have HO416 := Aside0.mk hl1_
               clear hl1_
               clear HO424
               have HO424 := Aside0.mk hl2_
               clear hl2_
               clear HO429
               have HO429 := Aside0.mk hl3_
               clear hl3_
               clear BK384
               have BK384 := Aside0.mk hb0_
               clear hb0_
               clear BK385
               have BK385 := Aside0.mk hb1_
               clear hb1_
               clear BK402
               have BK402 := Aside0.mk hb2_
               clear hb2_
               clear BK408
               have BK408 := Aside0.mk hb3_
               clear hb3_
               clear BK412
               have BK412 := Aside0.mk hb4_
               clear hb4_
               clear BK419
               have BK419 := Aside0.mk hb5_
               clear hb5_
               have HP260 := Aside0.mk (fun k_ hk_ => (hp0_ k_ hk_).1)
               have HN260 := Aside0.mk (fun k_ hk_ => (hp0_ k_ hk_).2)
               have HO450 := Aside0.mk ho0_
               clear hp0_ ho0_
               have BK453 := Aside0.mk hbk_
               have HPB453 := Aside0.mk (show ∀ k_, k_ = gb453 → InN w190.heap.size w254.heap.size k_ from fun k_ hk_ => by subst hk_; exact ⟨hge_, blk_lt hbk_, trivial⟩)
               have HZ255 := Aside0.mk hz_
               clear HB
               have HB := Aside0.mk hB_
               clear hbk_ hge_ hz_ hB_
               refine la_ 9 none (fun K hK => ?_)
               obtain ⟨hcz453_0, hcz453_1, hcz453_2⟩ := c3_ BK453
               have hfz453_0 := blk_frozen BK453.out 0
               have hfz453_1 := blk_frozen BK453.out 1
               have hfz453_2 := blk_frozen BK453.out 2
               refine skip_ (w1 := (((w254.setCell ⟨gb453, 0, none⟩ (.int .i64 t447)).setCell ⟨gb453, 1, none⟩ (.slice jA258 t448.length jc259)).setCell ⟨gb453, 2, none⟩ (.int .i64 t451))) (by rfl) rfl ?_ ?_
               ·first | (go_simp; done) | (go_simp; rfl)
               refine hK.out _ _ ?_
               clear hK K
               obtain ⟨w261, hw_⟩ : ∃ x_ : World, x_ = (((w254.setCell ⟨gb453, 0, none⟩ (.int .i64 t447)).setCell ⟨gb453, 1, none⟩ (.slice jA258 t448.length jc259)).setCell ⟨gb453, 2, none⟩ (.int .i64 t451)) := ⟨_, rfl⟩
               rw [← hw_]
               have hk_ : Kept w254 w261 (fun k => k = gb453) := keq (kset (kset (kset (Kept.refl w254 (fun k => k = gb453)) gb453 0 (.int .i64 t447) rfl) gb453 1 (.slice jA258 t448.length jc259) rfl) gb453 2 (.int .i64 t451) rfl) hw_
               (try clear hcz384_0)
               (try clear hcz384_1)
               (try clear hcz384_2)
               (try clear hcz385_0)
               (try clear hcz402_0)
               (try clear hcz402_1)
               (try clear hcz402_2)
               (try clear hcz408_0)
               (try clear hcz408_1)
               (try clear hcz408_2)
               (try clear hcz412_0)
               (try clear hcz419_0)
               (try clear hcz419_1)
               (try clear hcz419_2)
               (try clear hcz453_0)
               (try clear hcz453_1)
               (try clear hcz453_2)
               (try clear hfz453_0)
               (try clear hfz453_1)
               (try clear hfz453_2)
               have z_ := Aside0.mk (Kd.S_kept HO399.out hk_ (fun k_ h1_ h2_ => apart_ (Nat.le_trans HZ130.out <| Nat.le_trans HZ132.out <| Nat.le_trans HZ138.out <| Nat.le_trans HZ140.out <| Nat.le_trans HZ142.out <| Nat.le_trans HZ148.out <| Nat.le_trans HZ150.out <| Nat.le_trans HZ152.out <| Nat.le_trans HZ158.out <| Nat.le_trans HZ160.out <| Nat.le_trans HZ162.out <| Nat.le_trans HZ164.out <| Nat.le_trans HZ170.out <| Nat.le_trans HZ172.out <| Nat.le_trans HZ178.out <| Nat.le_trans HZ180.out <| Nat.le_trans HZ183.out <| Nat.le_trans HZ186.out <| Nat.le_trans HZ188.out <| HZ191.out) (HP128.out k_ h1_).2.1 (HPB453.out k_ h2_).1))
               clear HO399
               have HO399 := z_
               clear z_
               have z_ := Aside0.mk (Kd.S_kept HO416.out hk_ (fun k_ h1_ h2_ => apart_ (HZ191.out) (HP189.out k_ h1_).2.1 (HPB453.out k_ h2_).1))
               clear HO416
               have HO416 := z_
               clear z_
               have z_ := Aside0.mk (Kd.S_kept HO424.out hk_ (fun k_ h1_ h2_ => apart_ (Nat.le_trans HZ170.out <| Nat.le_trans HZ172.out <| Nat.le_trans HZ178.out <| Nat.le_trans HZ180.out <| Nat.le_trans HZ183.out <| Nat.le_trans HZ186.out <| Nat.le_trans HZ188.out <| HZ191.out) (HP165.out k_ h1_).2.1 (HPB453.out k_ h2_).1))
               clear HO424
               have HO424 := z_
               clear z_
               have z_ := Aside0.mk (Kd.R_kept HO429.out hk_ (fun k_ h1_ h2_ => apart_ (Nat.le_trans HZ178.out <| Nat.le_trans HZ180.out <| Nat.le_trans HZ183.out <| Nat.le_trans HZ186.out <| Nat.le_trans HZ188.out <| HZ191.out) (HP173.out k_ h1_).2.1 (HPB453.out k_ h2_).1))
               clear HO429
               have HO429 := z_
               clear z_
               have z_ := Aside0.mk (Kd.S_kept HO450.out hk_ (fun k_ h1_ h2_ => HN260.out k_ h1_ h2_))
               clear HO450
               have HO450 := z_
               clear z_
               have z_ := Aside0.mk (blk_kept BK384.out hk_ (fun he_ => (fun k_ h1_ h2_ => apart_ (Nat.le_trans HZ55.out <| Nat.le_trans HZ57.out <| Nat.le_trans HZ59.out <| Nat.le_trans HZ123.out <| Nat.le_trans HZ130.out <| Nat.le_trans HZ132.out <| Nat.le_trans HZ138.out <| Nat.le_trans HZ140.out <| Nat.le_trans HZ142.out <| Nat.le_trans HZ148.out <| Nat.le_trans HZ150.out <| Nat.le_trans HZ152.out <| Nat.le_trans HZ158.out <| Nat.le_trans HZ160.out <| Nat.le_trans HZ162.out <| Nat.le_trans HZ164.out <| Nat.le_trans HZ170.out <| Nat.le_trans HZ172.out <| Nat.le_trans HZ178.out <| Nat.le_trans HZ180.out <| Nat.le_trans HZ183.out <| Nat.le_trans HZ186.out <| Nat.le_trans HZ188.out <| HZ191.out) (HPB384.out k_ h1_).2.1 (HPB453.out k_ h2_).1) gb384 rfl he_))
               clear BK384
               have BK384 := z_
               clear z_
               have z_ := Aside0.mk (blk_kept BK385.out hk_ (fun he_ => (fun k_ h1_ h2_ => apart_ (Nat.le_trans HZ57.out <| Nat.le_trans HZ59.out <| Nat.le_trans HZ123.out <| Nat.le_trans HZ130.out <| Nat.le_trans HZ132.out <| Nat.le_trans HZ138.out <| Nat.le_trans HZ140.out <| Nat.le_trans HZ142.out <| Nat.le_trans HZ148.out <| Nat.le_trans HZ150.out <| Nat.le_trans HZ152.out <| Nat.le_trans HZ158.out <| Nat.le_trans HZ160.out <| Nat.le_trans HZ162.out <| Nat.le_trans HZ164.out <| Nat.le_trans HZ170.out <| Nat.le_trans HZ172.out <| Nat.le_trans HZ178.out <| Nat.le_trans HZ180.out <| Nat.le_trans HZ183.out <| Nat.le_trans HZ186.out <| Nat.le_trans HZ188.out <| HZ191.out) (HPB385.out k_ h1_).2.1 (HPB453.out k_ h2_).1) gb385 rfl he_))
               clear BK385
               have BK385 := z_
               clear z_
               have z_ := Aside0.mk (blk_kept BK402.out hk_ (fun he_ => (fun k_ h1_ h2_ => apart_ (Nat.le_trans HZ130.out <| Nat.le_trans HZ132.out <| Nat.le_trans HZ138.out <| Nat.le_trans HZ140.out <| Nat.le_trans HZ142.out <| Nat.le_trans HZ148.out <| Nat.le_trans HZ150.out <| Nat.le_trans HZ152.out <| Nat.le_trans HZ158.out <| Nat.le_trans HZ160.out <| Nat.le_trans HZ162.out <| Nat.le_trans HZ164.out <| Nat.le_trans HZ170.out <| Nat.le_trans HZ172.out <| Nat.le_trans HZ178.out <| Nat.le_trans HZ180.out <| Nat.le_trans HZ183.out <| Nat.le_trans HZ186.out <| Nat.le_trans HZ188.out <| HZ191.out) (HPB402.out k_ h1_).2.1 (HPB453.out k_ h2_).1) gb402 rfl he_))
               clear BK402
               have BK402 := z_
               clear z_
               have z_ := Aside0.mk (blk_kept BK408.out hk_ (fun he_ => (fun k_ h1_ h2_ => apart_ (Nat.le_trans HZ140.out <| Nat.le_trans HZ142.out <| Nat.le_trans HZ148.out <| Nat.le_trans HZ150.out <| Nat.le_trans HZ152.out <| Nat.le_trans HZ158.out <| Nat.le_trans HZ160.out <| Nat.le_trans HZ162.out <| Nat.le_trans HZ164.out <| Nat.le_trans HZ170.out <| Nat.le_trans HZ172.out <| Nat.le_trans HZ178.out <| Nat.le_trans HZ180.out <| Nat.le_trans HZ183.out <| Nat.le_trans HZ186.out <| Nat.le_trans HZ188.out <| HZ191.out) (HPB408.out k_ h1_).2.1 (HPB453.out k_ h2_).1) gb408 rfl he_))
               clear BK408
               have BK408 := z_
               clear z_
               have z_ := Aside0.mk (blk_kept BK412.out hk_ (fun he_ => (fun k_ h1_ h2_ => apart_ (Nat.le_trans HZ150.out <| Nat.le_trans HZ152.out <| Nat.le_trans HZ158.out <| Nat.le_trans HZ160.out <| Nat.le_trans HZ162.out <| Nat.le_trans HZ164.out <| Nat.le_trans HZ170.out <| Nat.le_trans HZ172.out <| Nat.le_trans HZ178.out <| Nat.le_trans HZ180.out <| Nat.le_trans HZ183.out <| Nat.le_trans HZ186.out <| Nat.le_trans HZ188.out <| HZ191.out) (HPB412.out k_ h1_).2.1 (HPB453.out k_ h2_).1) gb412 rfl he_))
               clear BK412
               have BK412 := z_
               clear z_
               have z_ := Aside0.mk (blk_kept BK419.out hk_ (fun he_ => (fun k_ h1_ h2_ => apart_ (Nat.le_trans HZ160.out <| Nat.le_trans HZ162.out <| Nat.le_trans HZ164.out <| Nat.le_trans HZ170.out <| Nat.le_trans HZ172.out <| Nat.le_trans HZ178.out <| Nat.le_trans HZ180.out <| Nat.le_trans HZ183.out <| Nat.le_trans HZ186.out <| Nat.le_trans HZ188.out <| HZ191.out) (HPB419.out k_ h1_).2.1 (HPB453.out k_ h2_).1) gb419 rfl he_))
               clear BK419
               have BK419 := z_
               clear z_
               have z_ := Aside0.mk (show w261.heap[gb453]? = some (.cells #[.int .i64 t447, .slice jA258 t448.length jc259, .int .i64 t451] 30 (0, 0)) from (by rw [hw_]; exact (blk_put (cs' := #[.int .i64 t447, .slice jA258 t448.length jc259, .int .i64 t451]) ((blk_put (cs' := #[.int .i64 t447, .slice jA258 t448.length jc259, .int .i64 0]) ((blk_put (cs' := #[.int .i64 t447, .slice none 0 0, .int .i64 0]) (BK453.out) 0 (.int .i64 t447) rfl)) 1 (.slice jA258 t448.length jc259) rfl)) 2 (.int .i64 t451) rfl)))
               clear BK453
               have BK453 := z_
               clear z_
               have z_ := Aside0.mk (show Below w.heap.size w w261 from (by rw [hw_]; exact bset (bset (bset (HB.out) gb453 0 (.int .i64 t447) (Nat.le_trans (Nat.le_trans HZ53.out <| Nat.le_trans HZ55.out <| Nat.le_trans HZ57.out <| Nat.le_trans HZ59.out <| Nat.le_trans HZ123.out <| Nat.le_trans HZ130.out <| Nat.le_trans HZ132.out <| Nat.le_trans HZ138.out <| Nat.le_trans HZ140.out <| Nat.le_trans HZ142.out <| Nat.le_trans HZ148.out <| Nat.le_trans HZ150.out <| Nat.le_trans HZ152.out <| Nat.le_trans HZ158.out <| Nat.le_trans HZ160.out <| Nat.le_trans HZ162.out <| Nat.le_trans HZ164.out <| Nat.le_trans HZ170.out <| Nat.le_trans HZ172.out <| Nat.le_trans HZ178.out <| Nat.le_trans HZ180.out <| Nat.le_trans HZ183.out <| Nat.le_trans HZ186.out <| Nat.le_trans HZ188.out <| HZ191.out) (HPB453.out gb453 rfl).1)) gb453 1 (.slice jA258 t448.length jc259) (Nat.le_trans (Nat.le_trans HZ53.out <| Nat.le_trans HZ55.out <| Nat.le_trans HZ57.out <| Nat.le_trans HZ59.out <| Nat.le_trans HZ123.out <| Nat.le_trans HZ130.out <| Nat.le_trans HZ132.out <| Nat.le_trans HZ138.out <| Nat.le_trans HZ140.out <| Nat.le_trans HZ142.out <| Nat.le_trans HZ148.out <| Nat.le_trans HZ150.out <| Nat.le_trans HZ152.out <| Nat.le_trans HZ158.out <| Nat.le_trans HZ160.out <| Nat.le_trans HZ162.out <| Nat.le_trans HZ164.out <| Nat.le_trans HZ170.out <| Nat.le_trans HZ172.out <| Nat.le_trans HZ178.out <| Nat.le_trans HZ180.out <| Nat.le_trans HZ183.out <| Nat.le_trans HZ186.out <| Nat.le_trans HZ188.out <| HZ191.out) (HPB453.out gb453 rfl).1)) gb453 2 (.int .i64 t451) (Nat.le_trans (Nat.le_trans HZ53.out <| Nat.le_trans HZ55.out <| Nat.le_trans HZ57.out <| Nat.le_trans HZ59.out <| Nat.le_trans HZ123.out <| Nat.le_trans HZ130.out <| Nat.le_trans HZ132.out <| Nat.le_trans HZ138.out <| Nat.le_trans HZ140.out <| Nat.le_trans HZ142.out <| Nat.le_trans HZ148.out <| Nat.le_trans HZ150.out <| Nat.le_trans HZ152.out <| Nat.le_trans HZ158.out <| Nat.le_trans HZ160.out <| Nat.le_trans HZ162.out <| Nat.le_trans HZ164.out <| Nat.le_trans HZ170.out <| Nat.le_trans HZ172.out <| Nat.le_trans HZ178.out <| Nat.le_trans HZ180.out <| Nat.le_trans HZ183.out <| Nat.le_trans HZ186.out <| Nat.le_trans HZ188.out <| HZ191.out) (HPB453.out gb453 rfl).1)))
               clear HB
               have HB := z_
               clear z_
               have HZ262 := Aside0.mk hk_.1
               clear hk_ hw_
               refine pu_ 10 (some 16) ?_
               refine done_ (by kernel_rfl) ?_
               obtain ⟨hcz453_0, hcz453_1, hcz453_2⟩ := c3_ BK453
               obtain ⟨hcz402_0, hcz402_1, hcz402_2⟩ := c3_ BK402
               go_wp2_with (first | ((refine gc_ 18 ?_); refine goesL_ (some 104) rfl rfl Try.func18 (by kernel_rfl) rfl #[.agg #[.int .i64 t447, .slice jA258 t448.length jc259, .int .i64 t451], .agg #[.int .i64 t396, .slice jA126 t397.length jc127, .int .i64 t400]] rfl (by (try simp only [List.map_toArray, List.map_cons, List.map_nil]); first | done | rfl) ?_; (with_reducible refine (laws_eqLearner.calls k t447 _ _ t448 t451 t396 _ _ t397 t400 true _ ?side1 ?side2 ?side3 ?side4 E46.out).mono ?_); (case side1 => repeat (first | exact (Kd.S_reads' HO450.out).2.2 | (with_reducible refine Kd.C_alloc ?_ _) | (with_reducible refine Kd.C_drewN ?_ _) | (with_reducible refine Kd.C_drew ?_))); (case side2 => exact (Kd.S_reads' HO450.out).2.1); (case side3 => repeat (first | exact (Kd.S_reads' HO399.out).2.2 | (with_reducible refine Kd.C_alloc ?_ _) | (with_reducible refine Kd.C_drewN ?_ _) | (with_reducible refine Kd.C_drew ?_))); (case side4 => exact (Kd.S_reads' HO399.out).2.1); rintro e w263 ⟨rfl, hb⟩; refine ⟨_, rfl, ?_⟩; have hs_ := adv (wl := w261) (tow_) hb; have z_ := Aside0.mk (Kd.S_below HO399.out hs_); clear HO399; have HO399 := z_; clear z_; have z_ := Aside0.mk (Kd.S_below HO416.out hs_); clear HO416; have HO416 := z_; clear z_; have z_ := Aside0.mk (Kd.S_below HO424.out hs_); clear HO424; have HO424 := z_; clear z_; have z_ := Aside0.mk (Kd.R_below HO429.out hs_); clear HO429; have HO429 := z_; clear z_; have z_ := Aside0.mk (Kd.S_below HO450.out hs_); clear HO450; have HO450 := z_; clear z_; have z_ := Aside0.mk (blk_below BK384.out hs_); clear BK384; have BK384 := z_; clear z_; have z_ := Aside0.mk (blk_below BK385.out hs_); clear BK385; have BK385 := z_; clear z_; have z_ := Aside0.mk (blk_below BK402.out hs_); clear BK402; have BK402 := z_; clear z_; have z_ := Aside0.mk (blk_below BK408.out hs_); clear BK408; have BK408 := z_; clear z_; have z_ := Aside0.mk (blk_below BK412.out hs_); clear BK412; have BK412 := z_; clear z_; have z_ := Aside0.mk (blk_below BK419.out hs_); clear BK419; have BK419 := z_; clear z_; have z_ := Aside0.mk (blk_below BK453.out hs_); clear BK453; have BK453 := z_; clear z_; (try clear hcz384_0); (try clear hcz384_1); (try clear hcz384_2); (try clear hcz385_0); (try clear hcz402_0); (try clear hcz402_1); (try clear hcz402_2); (try clear hcz408_0); (try clear hcz408_1); (try clear hcz408_2); (try clear hcz412_0); (try clear hcz419_0); (try clear hcz419_1); (try clear hcz419_2); (try clear hcz453_0); (try clear hcz453_1); (try clear hcz453_2); have z_ := Aside0.mk (advB HB.out hs_); clear HB; have HB := z_; clear z_; have HZ264 := Aside0.mk (below_size hs_); clear hs_ hb; obtain ⟨hcz419_0, hcz419_1, hcz419_2⟩ := c3_ BK419) | ((refine gc_ 22 ?_); refine goesL_ (some 113) rfl rfl Try.func22 (by kernel_rfl) rfl #[.agg #[.int .i64 t413, .slice Ao154 t437.length co155, .int .i64 t417], .int .i64 1] rfl (by (try simp only [List.map_toArray, List.map_cons, List.map_nil]); first | done | rfl) ?_; (with_reducible refine (laws_heldLearner.calls k t413 _ _ t437 t417 1 t455 _ ?side1 ?side2 E49.out).mono ?_); (case side1 => repeat (first | exact (Kd.S_reads' HO416.out).2.2 | (with_reducible refine Kd.C_alloc ?_ _) | (with_reducible refine Kd.C_drewN ?_ _) | (with_reducible refine Kd.C_drew ?_))); (case side2 => exact (Kd.S_reads' HO416.out).2.1); rintro e w265 ⟨rfl, hb⟩; refine ⟨_, rfl, ?_⟩; have hs_ := adv (wl := w263) (tow_) hb; have z_ := Aside0.mk (Kd.S_below HO399.out hs_); clear HO399; have HO399 := z_; clear z_; have z_ := Aside0.mk (Kd.S_below HO416.out hs_); clear HO416; have HO416 := z_; clear z_; have z_ := Aside0.mk (Kd.S_below HO424.out hs_); clear HO424; have HO424 := z_; clear z_; have z_ := Aside0.mk (Kd.R_below HO429.out hs_); clear HO429; have HO429 := z_; clear z_; have z_ := Aside0.mk (Kd.S_below HO450.out hs_); clear HO450; have HO450 := z_; clear z_; have z_ := Aside0.mk (blk_below BK384.out hs_); clear BK384; have BK384 := z_; clear z_; have z_ := Aside0.mk (blk_below BK385.out hs_); clear BK385; have BK385 := z_; clear z_; have z_ := Aside0.mk (blk_below BK402.out hs_); clear BK402; have BK402 := z_; clear z_; have z_ := Aside0.mk (blk_below BK408.out hs_); clear BK408; have BK408 := z_; clear z_; have z_ := Aside0.mk (blk_below BK412.out hs_); clear BK412; have BK412 := z_; clear z_; have z_ := Aside0.mk (blk_below BK419.out hs_); clear BK419; have BK419 := z_; clear z_; have z_ := Aside0.mk (blk_below BK453.out hs_); clear BK453; have BK453 := z_; clear z_; (try clear hcz384_0); (try clear hcz384_1); (try clear hcz384_2); (try clear hcz385_0); (try clear hcz402_0); (try clear hcz402_1); (try clear hcz402_2); (try clear hcz408_0); (try clear hcz408_1); (try clear hcz408_2); (try clear hcz412_0); (try clear hcz419_0); (try clear hcz419_1); (try clear hcz419_2); (try clear hcz453_0); (try clear hcz453_1); (try clear hcz453_2); have z_ := Aside0.mk (advB HB.out hs_); clear HB; have HB := z_; clear z_; have HZ266 := Aside0.mk (below_size hs_); clear hs_ hb))
               go_ret
               exact ⟨rs_, advB HB.out (tow_)⟩
              ·rw [if_neg c51] at H
               exact absurd (Option.some.inj H) (by rw [hr_]; decide)
           ·replace c47 := Bool.eq_false_iff.mpr c47
            subst c47
            replace H : (some false) = some r := by rw [if_neg (show ¬ (false = true) by decide)] at H; exact H
            exact absurd (Option.some.inj H) (by rw [hr_]; decide)
          ·rw [if_neg c42] at H
           exact absurd (Option.some.inj H) (by rw [hr_]; decide)
        ·replace c38 := Bool.eq_false_iff.mpr c38
         subst c38
         replace H : (some false) = some r := by rw [if_neg (show ¬ (false = true) by decide)] at H; exact H
         exact absurd (Option.some.inj H) (by rw [hr_]; decide)
      ·replace c33 := Bool.eq_false_iff.mpr c33
       subst c33
       replace H : (some false) = some r := by rw [if_neg (show ¬ (false = true) by decide)] at H; exact H
       exact absurd (Option.some.inj H) (by rw [hr_]; decide)
     ·replace c30 := Bool.eq_false_iff.mpr c30
      subst c30
      replace H : (some false) = some r := by rw [if_neg (show ¬ (false = true) by decide)] at H; exact H
      exact absurd (Option.some.inj H) (by rw [hr_]; decide)
   ·replace c26 := Bool.eq_false_iff.mpr c26
    subst c26
    replace H : (some false) = some r := by rw [if_neg (show ¬ (false = true) by decide)] at H; exact H
    exact absurd (Option.some.inj H) (by rw [hr_]; decide)

end Go.Proofs.Ytkddpilambnicaa.PFnExactHearRow
