/- Walks of Go functions that the law FnExactFootRows uses: written by this session's program out of the kit's printer; each shows that a call comes to the answers of the Lean function beside it. Conditions: each contract's own. -/
import Derived.Test.YtkddpilambnicaaPFnExactFootRowsx0
import Derived.Test.YtkddpilambnicaaPFnExactFootRowsx9
import Derived.Test.YtkddpilambnicaaPFnExactFootRowsx10
namespace Go.Proofs.Ytkddpilambnicaa.PFnExactFootRows
open Go.RowKit Go.Proofs.YtkddpilambnicaaW.PrintWords Go.Proofs.YtkddpilambnicaaW.PrintLast Go.Proofs.YtkddpilambnicaaW.PrintMore Go.Proofs.Ytkddpilambnicaa.Mac Go.Proofs.Ytkddpilambnicaa.Law
attribute [local go_sem] max2_int min2_int max_two min_two max_three min_three max_four min_four   -- for this text's walks alone
set_option linter.unusedVariables false
set_option linter.unusedSimpArgs false

/-! ### impl_isAnyRow: function 149 -/
def impl_isAnyRow.f (k : Nat) (l0_0 : List Int) : Option (Bool) := (impl_IsRow.f k l0_0 (l0_0.length : Int)).bind fun t341 => (some t341)
set_option maxHeartbeats 8000000 in
set_option maxRecDepth 100000 in
theorem impl_isAnyRow.calls (k : Nat) (A0_0 : Option Addr) (c0_0 : Nat) (l0_0 : List Int) (r : Bool) (w : World) (hr0_0 : Kd.C (Kd.int .i64) w A0_0 l0_0.length l0_0) (hc0_0 : l0_0.length ≤ c0_0) (h : impl_isAnyRow.f k l0_0 = some r) :
  Calls Try.prog 149 #[.agg #[.slice A0_0 l0_0.length c0_0]] w fun e w' => e = .returned (.bool r) ∧ Below w.heap.size w w' := by
 have hu34 := Try.underlying34
 have HR0_0 := Aside0.mk hr0_0
 have HC0_0 := Aside0.mk hc0_0
 clear hr0_0 hc0_0
 have HB := Aside0.mk (Below.refl w.heap.size w)
 have H : ((impl_IsRow.f k l0_0 (l0_0.length : Int)).bind fun t341 => (some t341)) = some r := h
 clear h
 replace H := bnd_ H; obtain ⟨t341, A2, H⟩ := H
 obtain rfl := Option.some.inj H
 go_enter Try.func149, Try.ntmps149
 go_wp2_with (first | ((with_reducible refine gd_ 1 ?_); refine bx_ 1 #[.slice A0_0 l0_0.length c0_0] 34 ?_; intro gb340 hg w3 hbox hb; have BK340 := Aside0.mk (hbox); have GW340 := gw_ HB hg; have GE340 := gw_ HB hg; replace HB := bs_ HB hb; clear hb hbox hg; have hcz4_0 := c1_ BK340; have hfz4_0 := blk_frozen BK340.out 0) | ((with_reducible refine gc_ 83 ?_); refine gl_ (some 7) Try.func83 (impl_IsRow.calls k _ _ l0_0 (l0_0.length : Int) t341 _ (Kd.C_below HR0_0.out (up_ HB.out)) HC0_0.out A2.out) ?_; rintro e w5 ⟨rfl, hb⟩; refine ⟨_, rfl, ?_⟩; replace BK340 := bb_ BK340 hb; replace HB := bs_ HB hb; (try clear hb); (try clear hb2); (try clear hk); (try clear hi)))
 go_ret
 exact ⟨re_, up_ HB.out⟩

/-! ### impl_IsTrivial: function 176 -/
def impl_IsTrivial.f (k : Nat) (l0_0 : List Int) : Option (Bool) := (impl_isAnyRow.f k l0_0).bind fun t343 => (if t343 = true then ((slices_Contains_int_int.f k l0_0 (-1)).bind fun t344 => (some (!t344))) else (some false))
set_option maxHeartbeats 8000000 in
set_option maxRecDepth 100000 in
theorem impl_IsTrivial.calls (k : Nat) (A0_0 : Option Addr) (c0_0 : Nat) (l0_0 : List Int) (r : Bool) (w : World) (hr0_0 : Kd.C (Kd.int .i64) w A0_0 l0_0.length l0_0) (hc0_0 : l0_0.length ≤ c0_0) (h : impl_IsTrivial.f k l0_0 = some r) :
  Calls Try.prog 176 #[.agg #[.slice A0_0 l0_0.length c0_0]] w fun e w' => e = .returned (.bool r) ∧ Below w.heap.size w w' := by
 have hu34 := Try.underlying34
 have HR0_0 := Aside0.mk hr0_0
 have HC0_0 := Aside0.mk hc0_0
 clear hr0_0 hc0_0
 have HB := Aside0.mk (Below.refl w.heap.size w)
 have H : ((impl_isAnyRow.f k l0_0).bind fun t343 => (if t343 = true then ((slices_Contains_int_int.f k l0_0 (-1)).bind fun t344 => (some (!t344))) else (some false))) = some r := h
 clear h
 replace H := bnd_ H; obtain ⟨t343, A2, H⟩ := H
 replace H := itb_ H; rcases H with ⟨rfl, H⟩ | ⟨rfl, H⟩
 ·replace H := bnd_ H; obtain ⟨t344, A4, H⟩ := H
  obtain rfl := Option.some.inj H
  go_enter Try.func176, Try.ntmps176
  go_wp2_with (first | ((with_reducible refine gd_ 1 ?_); refine bx_ 1 #[.slice A0_0 l0_0.length c0_0] 34 ?_; intro gb342 hg w5 hbox hb; have BK342 := Aside0.mk (hbox); have GW342 := gw_ HB hg; have GE342 := gw_ HB hg; replace HB := bs_ HB hb; clear hb hbox hg; have hcz6_0 := c1_ BK342; have hfz6_0 := blk_frozen BK342.out 0) | ((with_reducible refine gc_ 149 ?_); refine gl_ (some 4) Try.func149 (impl_isAnyRow.calls k _ _ l0_0 true _ (Kd.C_below HR0_0.out (up_ HB.out)) HC0_0.out A2.out) ?_; rintro e w7 ⟨rfl, hb⟩; refine ⟨_, rfl, ?_⟩; replace BK342 := bb_ BK342 hb; replace HB := bs_ HB hb; (try clear hb); (try clear hb2); (try clear hk); (try clear hi); have hcz8_0 := c1_ BK342; have hfz8_0 := blk_frozen BK342.out 0) | (go_at_call 85; (with_reducible refine (slices_Contains_int_int.calls k _ _ l0_0 (-1) t344 _ (Kd.C_below HR0_0.out (up_ HB.out)) HC0_0.out A4.out).mono ?_); rintro e w' ⟨rfl, ⟨nd, rfl⟩⟩))
  go_ret
  exact ⟨re_, up_ HB.out⟩
 ·obtain rfl := Option.some.inj H
  go_enter Try.func176, Try.ntmps176
  go_wp2_with (first | ((with_reducible refine gd_ 1 ?_); refine bx_ 1 #[.slice A0_0 l0_0.length c0_0] 34 ?_; intro gb342 hg w9 hbox hb; have BK342 := Aside0.mk (hbox); have GW342 := gw_ HB hg; have GE342 := gw_ HB hg; replace HB := bs_ HB hb; clear hb hbox hg; have hcz10_0 := c1_ BK342; have hfz10_0 := blk_frozen BK342.out 0) | ((with_reducible refine gc_ 149 ?_); refine gl_ (some 4) Try.func149 (impl_isAnyRow.calls k _ _ l0_0 false _ (Kd.C_below HR0_0.out (up_ HB.out)) HC0_0.out A2.out) ?_; rintro e w11 ⟨rfl, hb⟩; refine ⟨_, rfl, ?_⟩; replace BK342 := bb_ BK342 hb; replace HB := bs_ HB hb; (try clear hb); (try clear hb2); (try clear hk); (try clear hi)))
  go_ret
  exact ⟨re_, up_ HB.out⟩

/-! ### impl_sameRow: function 205 -/
def impl_sameRow.f (k : Nat) (l0_0 : List Int) (l1_0 : List Int) : Option (Bool) := (slices_Equal_int_int.f k l0_0 l1_0).bind fun t347 => (some t347)
set_option maxHeartbeats 8000000 in
set_option maxRecDepth 100000 in
theorem impl_sameRow.calls (k : Nat) (A0_0 : Option Addr) (c0_0 : Nat) (l0_0 : List Int) (A1_0 : Option Addr) (c1_0 : Nat) (l1_0 : List Int) (r : Bool) (w : World) (hr0_0 : Kd.C (Kd.int .i64) w A0_0 l0_0.length l0_0) (hc0_0 : l0_0.length ≤ c0_0) (hr1_0 : Kd.C (Kd.int .i64) w A1_0 l1_0.length l1_0) (hc1_0 : l1_0.length ≤ c1_0) (h : impl_sameRow.f k l0_0 l1_0 = some r) :
  Calls Try.prog 205 #[.agg #[.slice A0_0 l0_0.length c0_0], .agg #[.slice A1_0 l1_0.length c1_0]] w fun e w' => e = .returned (.bool r) ∧ Below w.heap.size w w' := by
 have hu34 := Try.underlying34
 have HR0_0 := Aside0.mk hr0_0
 have HC0_0 := Aside0.mk hc0_0
 clear hr0_0 hc0_0
 have HR1_0 := Aside0.mk hr1_0
 have HC1_0 := Aside0.mk hc1_0
 clear hr1_0 hc1_0
 have HB := Aside0.mk (Below.refl w.heap.size w)
 have H : ((slices_Equal_int_int.f k l0_0 l1_0).bind fun t347 => (some t347)) = some r := h
 clear h
 replace H := bnd_ H; obtain ⟨t347, A3, H⟩ := H
 obtain rfl := Option.some.inj H
 go_enter Try.func205, Try.ntmps205
 go_wp2_with (first | ((with_reducible refine gd_ 2 ?_); refine bx_ 2 #[.slice A0_0 l0_0.length c0_0] 34 ?_; intro gb345 hg w4 hbox hb; have BK345 := Aside0.mk (hbox); have GW345 := gw_ HB hg; have GE345 := gw_ HB hg; replace HB := bs_ HB hb; clear hb hbox hg) | ((with_reducible refine gd_ 3 ?_); refine bx_ 3 #[.slice A1_0 l1_0.length c1_0] 34 ?_; intro gb346 hg w5 hbox hb; have BK346 := Aside0.mk (hbox); have GW346 := gw_ HB hg; have GE346 := gw_ HB hg; replace HB := bs_ HB hb; have NB345_346 := Aside0.mk ((by rw [hg]; exact Nat.ne_of_lt (blk_lt (g := gb345) (o := .cells #[.slice A0_0 l0_0.length c0_0] 34 (0, 0)) (up_ BK345.out)) : gb345 ≠ gb346)); have NB346_345 := Aside0.mk ((by rw [hg]; exact Nat.ne_of_gt (blk_lt (g := gb345) (o := .cells #[.slice A0_0 l0_0.length c0_0] 34 (0, 0)) (up_ BK345.out)) : gb346 ≠ gb345)); replace BK345 := bb_ BK345 hb; clear hb hbox hg; have hnb6 := NB345_346.out; have hnc6 := NB346_345.out; have hcz7_0 := c1_ BK345; have hfz7_0 := blk_frozen BK345.out 0; have hcz8_0 := c1_ BK346; have hfz8_0 := blk_frozen BK346.out 0) | ((with_reducible refine gc_ 129 ?_); refine gq_ (some 9) Try.func129 (slices_Equal_int_int.calls k _ _ l0_0 _ _ l1_0 t347 _ (Kd.C_below HR0_0.out (up_ HB.out)) HC0_0.out (Kd.C_below HR1_0.out (up_ HB.out)) HC1_0.out A3.out) (fun nd => ?_)))
 go_ret
 exact ⟨re_, up_ HB.out⟩

/-! ### impl_hasRow_1: function 204 -/
def impl_hasRow_1.f (k : Nat) (l0_0 : List Int) (l1 : List (S34)) : Option (Bool) := if 0 < (l1.length : Int) then ((impl_sameRow.f k l0_0 ((rd_T34 l1 0).f0)).bind fun t350 => (some t350)) else (none)
set_option maxHeartbeats 8000000 in
set_option maxRecDepth 100000 in
theorem impl_hasRow_1.calls (k : Nat) (A0_0 : Option Addr) (c0_0 : Nat) (l0_0 : List Int) (A1 : Option Addr) (c1 : Nat) (l1 : List (S34)) (r : Bool) (w : World) (hr0_0 : Kd.C (Kd.int .i64) w A0_0 l0_0.length l0_0) (hc0_0 : l0_0.length ≤ c0_0) (hr1 : Kd.C k34 w A1 l1.length l1) (hc1 : l1.length ≤ c1) (h : impl_hasRow_1.f k l0_0 l1 = some r) :
  Calls Try.prog 204 #[.agg #[.slice A0_0 l0_0.length c0_0], .pointer A1] w fun e w' => e = .returned (.bool r) ∧ Below w.heap.size w w' := by
 have hu34 := Try.underlying34
 have HR0_0 := Aside0.mk hr0_0
 have HC0_0 := Aside0.mk hc0_0
 clear hr0_0 hc0_0
 have HR1 := Aside0.mk hr1
 have HC1 := Aside0.mk hc1
 clear hr1 hc1
 have HB := Aside0.mk (Below.refl w.heap.size w)
 have H : (if 0 < (l1.length : Int) then ((impl_sameRow.f k l0_0 ((rd_T34 l1 0).f0)).bind fun t350 => (some t350)) else (none)) = some r := h
 clear h
 by_cases c3 : 0 < (l1.length : Int)
 ·rw [if_pos c3] at H
  have c3b0 : decide (0 < (l1.length : Int)) = true := decide_eq_true c3
  have c3b1 : decide (0 < l1.length) = true := decide_eq_true (by omega)
  clear c3
  replace H := bnd_ H; obtain ⟨t350, A4, H⟩ := H
  obtain rfl := Option.some.inj H
  go_enter Try.func204, Try.ntmps204
  go_wp2_with (first | ((with_reducible refine gd_ 2 ?_); refine bx_ 2 #[.slice A0_0 l0_0.length c0_0] 34 ?_; intro gb348 hg w5 hbox hb; have BK348 := Aside0.mk (hbox); have GW348 := gw_ HB hg; have GE348 := gw_ HB hg; replace HB := bs_ HB hb; clear hb hbox hg; have hcz6_0 := c1_ BK348; have hfz6_0 := blk_frozen BK348.out 0; have p349 : 0 ≤ (0 : Int) := (by omega); have q349 : 0 < (l1.length : Int) := od_; obtain ⟨ad349, A349_0, c349_0, e349, hx349_0, hl349_0, hi349_0⟩ := at_T34 HR1.out 0 p349 q349; cases e349; have qi349 : (0 < l1.length) = True := eq_true (by omega); (try rw [show ((0 : Int)).toNat = 0 from rfl] at hx349_0); (try rw [Addr.add_zero'] at hx349_0); replace hx349_0 := bh_ HB hx349_0; have HR349_0 := Aside0.mk hi349_0; have HC349_0 := Aside0.mk hl349_0; clear hi349_0 hl349_0; replace p349 := eq_true p349; replace q349 := eq_true q349) | ((with_reducible refine gc_ 205 ?_); refine gl_ (some 6) Try.func205 (impl_sameRow.calls k _ _ l0_0 _ _ ((rd_T34 l1 0).f0) t350 _ (Kd.C_below HR0_0.out (up_ HB.out)) HC0_0.out (Kd.C_below HR349_0.out (up_ HB.out)) HC349_0.out A4.out) ?_; rintro e w7 ⟨rfl, hb⟩; refine ⟨_, rfl, ?_⟩; replace BK348 := bb_ BK348 hb; replace HB := bs_ HB hb; (try clear hb); (try clear hb2); (try clear hk); (try clear hi)))
  go_ret
  exact ⟨re_, up_ HB.out⟩
 ·rw [if_neg c3] at H
  exact absurd H (by simp)

/-! ### v_slices_IndexFunc__hasRow_1: function 170 -/
def v_slices_IndexFunc__hasRow_1.l0 : Nat → List (S34) → List (S34) → Int → Int → Option (Int)
 | 0, _, _, _, _ => none
 | k + 1, x0, x1, x7, x8 => if x8 < x7 then (if 0 ≤ x8 then (if x8 < (x0.length : Int) then ((impl_hasRow_1.f k ((rd_T34 x0 x8).f0) x1).bind fun t352 => (if t352 = true then (some x8) else (v_slices_IndexFunc__hasRow_1.l0 k x0 x1 x7 (wrap64 (x8 + 1))))) else (none)) else (none)) else (some (-1))
def v_slices_IndexFunc__hasRow_1.f (k : Nat) (l0 : List (S34)) (l1 : List (S34)) : Option (Int) := v_slices_IndexFunc__hasRow_1.l0 k l0 l1 (l0.length : Int) 0
set_option maxHeartbeats 8000000 in
set_option maxRecDepth 100000 in
theorem v_slices_IndexFunc__hasRow_1.calls (k : Nat) (A0 : Option Addr) (c0 : Nat) (l0 : List (S34)) (A1 : Option Addr) (c1 : Nat) (l1 : List (S34)) (r : Int) (w : World) (hr0 : Kd.C k34 w A0 l0.length l0) (hc0 : l0.length ≤ c0) (hr1 : Kd.C k34 w A1 l1.length l1) (hc1 : l1.length ≤ c1) (h : v_slices_IndexFunc__hasRow_1.f k l0 l1 = some r) :
  Calls Try.prog 170 #[.slice A0 l0.length c0, .func (.func 204) #[] #[.pointer A1]] w fun e w' => e = .returned (.int .i64 r) ∧ Below w.heap.size w w' := by
 have hu34 := Try.underlying34
 have HR0 := Aside0.mk hr0
 have HC0 := Aside0.mk hc0
 clear hr0 hc0
 have HR1 := Aside0.mk hr1
 have HC1 := Aside0.mk hc1
 clear hr1 hc1
 have HB := Aside0.mk (Below.refl w.heap.size w)
 have H : (v_slices_IndexFunc__hasRow_1.l0 k l0 l1 (l0.length : Int) 0) = some r := h
 clear h
 have H' := Aside0.mk H
 clear H
 go_enter Try.func170, Try.ntmps170
 go_wp2
 go_loopg [8] k (fun kq v8 w' => ∃ (x8_1 : Int), v8 = .int .i64 x8_1 ∧ Aside0 (v_slices_IndexFunc__hasRow_1.l0 kq l0 l1 (l0.length : Int) x8_1 = some r) ∧ Aside0 (kq ≤ k) ∧ Aside0 (Below w.heap.size w w'))
 case atStart => exact ⟨(0), rs_, H', ⟨Nat.le_refl _⟩, ⟨up_ HB.out⟩⟩
 case round =>
  clear H'
  try clear c1
  try clear p2
  obtain ⟨x8_1, rfl, HA, HK1, HB⟩ := hrel
  cases gk with
  | zero => exact absurd HA.out (by simp [v_slices_IndexFunc__hasRow_1.l0])
  | succ k1 =>
   have H := HA.out
   clear HA
   simp only [v_slices_IndexFunc__hasRow_1.l0] at H
   replace H := its_ H; rcases H with ⟨c3b0, H⟩ | ⟨c3b0, H⟩
   ·replace H := its_ H; rcases H with ⟨c4b0, H⟩ | ⟨_, ⟨⟩⟩
    replace H := its_ H; rcases H with ⟨c5b0, H⟩ | ⟨_, ⟨⟩⟩
    replace H := bnd_ H; obtain ⟨t352, A6, H⟩ := H
    replace H := itb_ H; rcases H with ⟨rfl, H⟩ | ⟨rfl, H⟩
    ·obtain rfl := Option.some.inj H
     have p351 : 0 ≤ (x8_1 : Int) := od_
     have q351 : x8_1 < (l0.length : Int) := od_
     obtain ⟨ad351, A351_0, c351_0, e351, hx351_0, hl351_0, hi351_0⟩ := at_T34 HR0.out x8_1 p351 q351
     cases e351
     replace hx351_0 := bh_ HB hx351_0
     have HR351_0 := Aside0.mk hi351_0
     have HC351_0 := Aside0.mk hl351_0
     clear hi351_0 hl351_0
     replace p351 := eq_true p351
     replace q351 := eq_true q351
     go_wp2_with (first | ((with_reducible refine Go.Proofs.Ytkddpilambnicaa.Step.gate_calleeT rfl ?_); refine Go.Proofs.Ytkddpilambnicaa.Step.goesT_ (cap := #[.pointer A1]) (some 16) rfl rfl Try.func204 (by kernel_rfl) rfl #[.agg #[.slice A351_0 ((rd_T34 l0 x8_1).f0).length c351_0], .pointer A1] rfl rfl am_ ?_; (with_reducible refine (impl_hasRow_1.calls k1 _ _ ((rd_T34 l0 x8_1).f0) _ c1 l1 true _ (Kd.C_below HR351_0.out (up_ HB.out)) HC351_0.out (Kd.C_below HR1.out (up_ HB.out)) HC1.out A6.out).mono ?_); rintro e w8 ⟨rfl, hb⟩; refine ⟨_, rfl, ?_⟩; replace HB := bs_ HB hb; (try clear hb); (try clear hb2); (try clear hk); (try clear hi)))
     go_ret
     exact ⟨re_, up_ HB.out⟩
    ·have H' := Aside0.mk H
     clear H
     have p351 : 0 ≤ (x8_1 : Int) := od_
     have q351 : x8_1 < (l0.length : Int) := od_
     obtain ⟨ad351, A351_0, c351_0, e351, hx351_0, hl351_0, hi351_0⟩ := at_T34 HR0.out x8_1 p351 q351
     cases e351
     replace hx351_0 := bh_ HB hx351_0
     have HR351_0 := Aside0.mk hi351_0
     have HC351_0 := Aside0.mk hl351_0
     clear hi351_0 hl351_0
     replace p351 := eq_true p351
     replace q351 := eq_true q351
     go_wp2_with (first | ((with_reducible refine Go.Proofs.Ytkddpilambnicaa.Step.gate_calleeT rfl ?_); refine Go.Proofs.Ytkddpilambnicaa.Step.goesT_ (cap := #[.pointer A1]) (some 16) rfl rfl Try.func204 (by kernel_rfl) rfl #[.agg #[.slice A351_0 ((rd_T34 l0 x8_1).f0).length c351_0], .pointer A1] rfl rfl am_ ?_; (with_reducible refine (impl_hasRow_1.calls k1 _ _ ((rd_T34 l0 x8_1).f0) _ c1 l1 false _ (Kd.C_below HR351_0.out (up_ HB.out)) HC351_0.out (Kd.C_below HR1.out (up_ HB.out)) HC1.out A6.out).mono ?_); rintro e w9 ⟨rfl, hb⟩; refine ⟨_, rfl, ?_⟩; replace HB := bs_ HB hb; (try clear hb); (try clear hb2); (try clear hk); (try clear hi)))
     go_roundg k1
     case measure => have := HK1.out; omega
     case rel => exact ⟨(wrap64 (x8_1 + 1)), rs_, H', ⟨by have := HK1.out; omega⟩, ⟨up_ HB.out⟩⟩
   ·obtain rfl := Option.some.inj H
    go_wp2
    go_ret
    exact ⟨re_, up_ HB.out⟩

/-! ### v_slices_ContainsFunc__hasRow_1: function 113 -/
def v_slices_ContainsFunc__hasRow_1.f (k : Nat) (l0 : List (S34)) (l1 : List (S34)) : Option (Bool) := (v_slices_IndexFunc__hasRow_1.f k l0 l1).bind fun t353 => (some (decide (t353 ≥ 0)))
set_option maxHeartbeats 8000000 in
set_option maxRecDepth 100000 in
theorem v_slices_ContainsFunc__hasRow_1.calls (k : Nat) (A0 : Option Addr) (c0 : Nat) (l0 : List (S34)) (A1 : Option Addr) (c1 : Nat) (l1 : List (S34)) (r : Bool) (w : World) (hr0 : Kd.C k34 w A0 l0.length l0) (hc0 : l0.length ≤ c0) (hr1 : Kd.C k34 w A1 l1.length l1) (hc1 : l1.length ≤ c1) (h : v_slices_ContainsFunc__hasRow_1.f k l0 l1 = some r) :
  Calls Try.prog 113 #[.slice A0 l0.length c0, .func (.func 204) #[] #[.pointer A1]] w fun e w' => e = .returned (.bool r) ∧ Below w.heap.size w w' := by
 have HR0 := Aside0.mk hr0
 have HC0 := Aside0.mk hc0
 clear hr0 hc0
 have HR1 := Aside0.mk hr1
 have HC1 := Aside0.mk hc1
 clear hr1 hc1
 have HB := Aside0.mk (Below.refl w.heap.size w)
 have H : ((v_slices_IndexFunc__hasRow_1.f k l0 l1).bind fun t353 => (some (decide (t353 ≥ 0)))) = some r := h
 clear h
 replace H := bnd_ H; obtain ⟨t353, A3, H⟩ := H
 obtain rfl := Option.some.inj H
 go_enter Try.func113, Try.ntmps113
 go_wp2_with (first | ((with_reducible refine gc_ 170 ?_); refine goesL_ (some 7) rfl rfl Try.func170 (by kernel_rfl) rfl #[.slice A0 l0.length c0, .func (.func 204) #[] #[.pointer A1]] rfl am_ ?_; (with_reducible refine (v_slices_IndexFunc__hasRow_1.calls k _ _ l0 _ c1 l1 t353 _ ?side1 ?side2 ?side3 ?side4 A3.out).mono ?_); (case side1 => repeat (first | exact HR0.out | (with_reducible refine Kd.C_alloc ?_ _) | (with_reducible refine Kd.C_drewN ?_ _) | (with_reducible refine Kd.C_drew ?_))); (case side2 => exact HC0.out); (case side3 => repeat (first | exact HR1.out | (with_reducible refine Kd.C_alloc ?_ _) | (with_reducible refine Kd.C_drewN ?_ _) | (with_reducible refine Kd.C_drew ?_))); (case side4 => exact HC1.out); rintro e w4 ⟨rfl, hb⟩; refine ⟨_, rfl, ?_⟩; replace HB := bs_ HB hb; (try clear hb); (try clear hb2); (try clear hk); (try clear hi)))
 go_ret
 exact ⟨re_, up_ HB.out⟩

/-! ### impl_hasRow: function 177 -/
def impl_hasRow.f (k : Nat) (l0 : List (S34)) (l1_0 : List Int) : Option (Bool) := (v_slices_ContainsFunc__hasRow_1.f k l0 [(⟨l1_0⟩ : S34)]).bind fun t355 => (some t355)
set_option maxHeartbeats 8000000 in
set_option maxRecDepth 100000 in
theorem impl_hasRow.calls (k : Nat) (A0 : Option Addr) (c0 : Nat) (l0 : List (S34)) (A1_0 : Option Addr) (c1_0 : Nat) (l1_0 : List Int) (r : Bool) (w : World) (hr0 : Kd.C k34 w A0 l0.length l0) (hc0 : l0.length ≤ c0) (hr1_0 : Kd.C (Kd.int .i64) w A1_0 l1_0.length l1_0) (hc1_0 : l1_0.length ≤ c1_0) (h : impl_hasRow.f k l0 l1_0 = some r) :
  Calls Try.prog 177 #[.slice A0 l0.length c0, .agg #[.slice A1_0 l1_0.length c1_0]] w fun e w' => e = .returned (.bool r) ∧ Below w.heap.size w w' := by
 have hu34 := Try.underlying34
 have HR0 := Aside0.mk hr0
 have HC0 := Aside0.mk hc0
 clear hr0 hc0
 have HR1_0 := Aside0.mk hr1_0
 have HC1_0 := Aside0.mk hc1_0
 clear hr1_0 hc1_0
 have HB := Aside0.mk (Below.refl w.heap.size w)
 have H : ((v_slices_ContainsFunc__hasRow_1.f k l0 [(⟨l1_0⟩ : S34)]).bind fun t355 => (some t355)) = some r := h
 clear h
 replace H := bnd_ H; obtain ⟨t355, A3, H⟩ := H
 obtain rfl := Option.some.inj H
 go_enter Try.func177, Try.ntmps177
 go_wp2_with (first | ((with_reducible refine gd_ 3 ?_); refine bx_ 3 #[.slice A1_0 l1_0.length c1_0] 34 ?_; intro gb354 hg w4 hbox hb; have BK354 := Aside0.mk (hbox); have GW354 := gw_ HB hg; have GE354 := gw_ HB hg; replace HB := bs_ HB hb; clear hb hbox hg) | ((with_reducible refine gc_ 113 ?_); refine goesL_ (some 7) rfl rfl Try.func113 (by kernel_rfl) rfl #[.slice A0 l0.length c0, .func (.func 204) #[] #[.pointer (some ⟨gb354, 0, none⟩)]] rfl am_ ?_; (with_reducible refine (v_slices_ContainsFunc__hasRow_1.calls k _ _ l0 _ 1 [(⟨l1_0⟩ : S34)] t355 _ ?side1 ?side2 ?side3 ?side4 A3.out).mono ?_); (case side1 => exact Kd.C_below HR0.out (up_ HB.out)); (case side2 => exact HC0.out); (case side3 => exact Go.Proofs.Ytkddpilambnicaa.Step.C_cap (T := 34) (d := k34) (cs := #[.slice A1_0 l1_0.length c1_0]) (up_ BK354.out) (Exists.intro _ (Exists.intro _ (And.intro rfl (And.intro (by exact HC1_0.out) (by repeat (first | exact (Kd.C_below HR1_0.out HB.out) | (with_reducible refine Kd.C_alloc ?_ _) | (with_reducible refine Kd.C_drewN ?_ _) | (with_reducible refine Kd.C_drew ?_)))))))); (case side4 => exact Nat.le_refl _); rintro e w5 ⟨rfl, hb⟩; refine ⟨_, rfl, ?_⟩; replace BK354 := bb_ BK354 hb; replace HB := bs_ HB hb; (try clear hb); (try clear hb2); (try clear hk); (try clear hi)))
 go_ret
 exact ⟨re_, up_ HB.out⟩

/-! ### impl_rowsAgainst: function 131 -/
def impl_rowsAgainst.l0 : Nat → List Int → List (S34) → List (List Int) → Int → Int → Option ((List (S34)))
 | 0, _, _, _, _, _ => none
 | k + 1, x0, x5, x11, x12, x13 => if x13 < x12 then (if 0 ≤ x13 then (if x13 < (x11.length : Int) then ((impl_RowOf.f k x0 (rd_L1 x11 x13)).bind fun bt360 => ((impl_IsTrivial.f k bt360.1).bind fun t365 => (if t365 = true then (impl_rowsAgainst.l0 k x0 x5 x11 x12 (wrap64 (x13 + 1))) else ((impl_hasRow.f k x5 bt360.1).bind fun t366 => (if t366 = true then (impl_rowsAgainst.l0 k x0 x5 x11 x12 (wrap64 (x13 + 1))) else (if x5.length < 5864062014805 then (impl_rowsAgainst.l0 k x0 (x5 ++ [(⟨bt360.1⟩ : S34)]) x11 x12 (wrap64 (x13 + 1))) else (none))))))) else (none)) else (none)) else (some x5)
def impl_rowsAgainst.f (k : Nat) (l0 : List Int) (l1 : List (List Int)) : Option ((List (S34))) := impl_rowsAgainst.l0 k l0 (([] : List (S34))) l1 (l1.length : Int) 0
set_option maxHeartbeats 8000000 in
set_option maxRecDepth 100000 in
theorem impl_rowsAgainst.calls (k : Nat) (A0 : Option Addr) (c0 : Nat) (l0 : List Int) (A1 : Option Addr) (c1 : Nat) (l1 : List (List Int)) (r : List (S34)) (w : World) (hr0 : Kd.C (Kd.int .i64) w A0 l0.length l0) (hc0 : l0.length ≤ c0) (hr1 : Kd.C (Kd.slice 3 (Kd.int .i64)) w A1 l1.length l1) (hc1 : l1.length ≤ c1) (h : impl_rowsAgainst.f k l0 l1 = some r) :
  Calls Try.prog 131 #[.slice A0 l0.length c0, .slice A1 l1.length c1] w fun e w' => ∃ v0_ : Value, e = .returned (v0_) ∧ Kd.S k34 34 w' w.heap.size (fun _ => True) v0_ r ∧ Below w.heap.size w w' := by
 have hu34 := Try.underlying34
 have HR0 := Aside0.mk hr0
 have HC0 := Aside0.mk hc0
 clear hr0 hc0
 have HR1 := Aside0.mk hr1
 have HC1 := Aside0.mk hc1
 clear hr1 hc1
 have HB := Aside0.mk (Below.refl w.heap.size w)
 have H : (impl_rowsAgainst.l0 k l0 (([] : List (S34))) l1 (l1.length : Int) 0) = some r := h
 clear h
 obtain ⟨y356, hy356⟩ : ∃ y_ : List (S34), y_ = (([] : List (S34))) := ⟨_, rfl⟩
 replace H : (impl_rowsAgainst.l0 k l0 y356 l1 (l1.length : Int) 0) = some r := rh_ hy356 H
 have Ny356 := Aside0.mk hy356
 clear hy356
 have H' := Aside0.mk H
 clear H
 go_enter Try.func131, Try.ntmps131
 go_wp2_with (first | ((with_reducible refine gd_ 10 ?_); refine Kd.S_lit k34 _ 34 ?hg (N := 10) ?hd (xs := ([] : List (S34))) (inner := []) (ok := fun _ => True) (okp := fun _ => True) ?hr ?hp (fun _ hk => hk) trivial (Below.refl _ _) (Nat.le_refl _) (by simp) ?_; (case hd => rfl); (case hg => rfl); (case hr => first | (go_simp; done) | (go_simp; rfl)); (case hp => exact (Reps.none _ _)); intro v357 w3 ho4 hb hg_ hnew_; clear hg_ hnew_; (first | rw [← Ny356.out] at ho4 | (simp only [Int.reduceToNat] at ho4; rw [← Ny356.out] at ho4)); have HO358 := Aside0.mk (Kd.S_lower ho4 (below_size (up_ HB.out))); replace HB := bs_ HB hb; clear hb ho4))
 go_loopg [5, 13] k (fun kq v5 v13 w' => ∃ (x5_1 : List (S34)) (x13_1 : Int), v13 = .int .i64 x13_1 ∧ Aside0 (impl_rowsAgainst.l0 kq l0 x5_1 l1 (l1.length : Int) x13_1 = some r) ∧ Aside0 (kq ≤ k) ∧ Aside0 (Kd.S k34 34 w' w.heap.size (fun _ => True) v5 x5_1) ∧ Aside0 (Below w.heap.size w w'))
 case atStart => exact ⟨(y356), (0), rs_, H', ⟨Nat.le_refl _⟩, ⟨up_ HO358.out⟩, ⟨up_ HB.out⟩⟩
 case round =>
  clear H'
  try clear c1
  try clear p2
  obtain ⟨x5_1, x13_1, rfl, HA, HK1, HO_5, HB⟩ := hrel
  cases gk with
  | zero => exact absurd HA.out (by simp [impl_rowsAgainst.l0])
  | succ k1 =>
   have H := HA.out
   clear HA
   simp only [impl_rowsAgainst.l0] at H
   replace H := its_ H; rcases H with ⟨c5b0, H⟩ | ⟨c5b0, H⟩
   ·replace H := its_ H; rcases H with ⟨c6b0, H⟩ | ⟨_, ⟨⟩⟩
    replace H := its_ H; rcases H with ⟨c7b0, H⟩ | ⟨_, ⟨⟩⟩
    replace H := Option.bind_eq_some_iff.mp H
    obtain ⟨⟨t360, t363⟩, A80, H⟩ := H
    replace H : ((impl_IsTrivial.f k1 t360).bind fun t365 => (if t365 = true then (impl_rowsAgainst.l0 k1 l0 x5_1 l1 (l1.length : Int) (wrap64 (x13_1 + 1))) else ((impl_hasRow.f k1 x5_1 t360).bind fun t366 => (if t366 = true then (impl_rowsAgainst.l0 k1 l0 x5_1 l1 (l1.length : Int) (wrap64 (x13_1 + 1))) else (if x5_1.length < 5864062014805 then (impl_rowsAgainst.l0 k1 l0 (x5_1 ++ [(⟨t360⟩ : S34)]) l1 (l1.length : Int) (wrap64 (x13_1 + 1))) else (none)))))) = some r := H
    have A8 := Aside0.mk A80
    clear A80
    replace H := bnd_ H; obtain ⟨t365, A9, H⟩ := H
    replace H := itb_ H; rcases H with ⟨rfl, H⟩ | ⟨rfl, H⟩
    ·have H' := Aside0.mk H
     clear H
     have p359 : 0 ≤ (x13_1 : Int) := od_
     have q359 : x13_1 < (l1.length : Int) := od_
     obtain ⟨ad359, A359_0, c359_0, e359, hx359_0, hl359_0, hi359_0⟩ := at_L1 HR1.out x13_1 p359 q359
     cases e359
     replace hx359_0 := bh_ HB hx359_0
     have HR359_0 := Aside0.mk hi359_0
     have HC359_0 := Aside0.mk hl359_0
     clear hi359_0 hl359_0
     replace p359 := eq_true p359
     replace q359 := eq_true q359
     go_wp2_with (first | ((with_reducible refine gc_ 175 ?_); refine gl_ (some 20) Try.func175 (impl_RowOf.calls k1 _ _ l0 _ _ (rd_L1 l1 x13_1) t360 t363 _ (Kd.C_below HR0.out (up_ HB.out)) HC0.out (Kd.C_below HR359_0.out (up_ HB.out)) HC359_0.out A8.out) ?_; rintro e w11 ⟨v361, rfl, ho0, hb⟩; refine ⟨_, rfl, ?_⟩; replace HO_5 := Aside0.mk (Kd.S_elder' (up_ HO_5.out) (Kd.R_base ho0) hb); have HO362 := Aside0.mk (Kd.R_lower ho0 (below_size (up_ HB.out))); replace HB := bs_ HB hb; (try clear hb); (try clear hb2); (try clear hk); (try clear hi); (try clear ho0)) | ((with_reducible refine gd_ 8 ?_); refine bx_ 8 #[.slice none 0 0] 34 ?_; intro gb364 hg w12 hbox hb; replace HO_5 := Aside0.mk (Kd.S_below (Kd.S_elderB (up_ HO_5.out) gb364 (Nat.le_of_eq hg.symm)) hb); replace HO362 := Aside0.mk (Kd.R_below (up_ HO362.out) hb); have BK364 := Aside0.mk (hbox); have GW364 := gw_ HB hg; have GE364 := gw_ HB hg; replace HB := bs_ HB hb; clear hb hbox hg; obtain ⟨Ao13, co13, eo13⟩ := Kd.R_slice HO362.out; subst eo13; have hcz14_0 := c1_ BK364; have hfz14_0 := blk_frozen BK364.out 0) | ((with_reducible refine gc_ 176 ?_); refine goesL_ (some 24) rfl rfl Try.func176 (by kernel_rfl) rfl #[.agg #[.slice Ao13 t360.length co13]] rfl am_ ?_; (with_reducible refine (impl_IsTrivial.calls k1 _ _ t360 true _ ?side1 ?side2 A9.out).mono ?_); (case side1 => refine (Kd.R_reads' (e := 3) (base := w.heap.size) (ok := fun k_ => True) (n := t360.length) (c := co13) ?_).2.2; exact (by (with_reducible repeat (first | apply Kd.R_alloc | apply Kd.R_drewN | apply Kd.R_drew)); exact (Kd.R_mono (Kd.R_far (p := ⟨gb364, 0, none⟩) (Kd.R_types HO362.out BK364.out (by decide)) (fun _ hk => hk.2) (.slice Ao13 t360.length co13)) (fun _ h_ => h_.1)))); (case side2 => exact (Kd.R_reads' HO362.out).2.1); rintro e w15 ⟨rfl, hb⟩; refine ⟨_, rfl, ?_⟩; replace HO_5 := Aside0.mk (Kd.S_below (by (with_reducible repeat (first | apply Kd.S_alloc | apply Kd.S_drewN | apply Kd.S_drew)); exact (Kd.S_mono (Kd.S_far (p := ⟨gb364, 0, none⟩) (Kd.S_mono HO_5.out (fun k_ hk => (⟨hk, hk.2⟩ : _ ∧ k_ ≠ gb364))) (fun _ hk => hk.2) (.slice Ao13 t360.length co13)) (fun _ h_ => h_.1))) hb); replace HO362 := Aside0.mk (Kd.R_below (by (with_reducible repeat (first | apply Kd.R_alloc | apply Kd.R_drewN | apply Kd.R_drew)); exact (Kd.R_mono (Kd.R_far (p := ⟨gb364, 0, none⟩) (Kd.R_types HO362.out BK364.out (by decide)) (fun _ hk => hk.2) (.slice Ao13 t360.length co13)) (fun _ h_ => h_.1))) hb); replace BK364 := Aside0.mk (blk_below (g := gb364) (o := .cells #[.slice Ao13 t360.length co13] 34 (0, 0)) (by (with_reducible repeat (first | refine blk_drewN ?_ _ | refine blk_drew ?_ | refine blk_alloc ?_ _)); refine blk_put (cs := #[.slice none 0 0]) ?_ 0 _ rfl; (with_reducible repeat (first | refine blk_drewN ?_ _ | refine blk_drew ?_ | refine blk_alloc ?_ _)); exact BK364.out) hb); replace HB := bs_ HB hb; (try clear hb); (try clear hb2); (try clear hk); (try clear hi)))
     go_roundg k1
     case measure => have := HK1.out; omega
     case rel => exact ⟨(x5_1), (wrap64 (x13_1 + 1)), rs_, H', ⟨by have := HK1.out; omega⟩, ⟨by (with_reducible repeat (first | apply Kd.S_alloc | apply Kd.S_drewN | apply Kd.S_drew)); exact Kd.S_mono HO_5.out (fun _ hk => trivial)⟩, ⟨up_ HB.out⟩⟩
    ·replace H := bnd_ H; obtain ⟨t366, A16, H⟩ := H
     replace H := itb_ H; rcases H with ⟨rfl, H⟩ | ⟨rfl, H⟩
     ·have H' := Aside0.mk H
      clear H
      have p359 : 0 ≤ (x13_1 : Int) := od_
      have q359 : x13_1 < (l1.length : Int) := od_
      obtain ⟨ad359, A359_0, c359_0, e359, hx359_0, hl359_0, hi359_0⟩ := at_L1 HR1.out x13_1 p359 q359
      cases e359
      replace hx359_0 := bh_ HB hx359_0
      have HR359_0 := Aside0.mk hi359_0
      have HC359_0 := Aside0.mk hl359_0
      clear hi359_0 hl359_0
      replace p359 := eq_true p359
      replace q359 := eq_true q359
      go_wp2_with (first | ((with_reducible refine gc_ 175 ?_); refine gl_ (some 20) Try.func175 (impl_RowOf.calls k1 _ _ l0 _ _ (rd_L1 l1 x13_1) t360 t363 _ (Kd.C_below HR0.out (up_ HB.out)) HC0.out (Kd.C_below HR359_0.out (up_ HB.out)) HC359_0.out A8.out) ?_; rintro e w18 ⟨v361, rfl, ho0, hb⟩; refine ⟨_, rfl, ?_⟩; replace HO_5 := Aside0.mk (Kd.S_elder' (up_ HO_5.out) (Kd.R_base ho0) hb); have HO362 := Aside0.mk (Kd.R_lower ho0 (below_size (up_ HB.out))); replace HB := bs_ HB hb; (try clear hb); (try clear hb2); (try clear hk); (try clear hi); (try clear ho0)) | ((with_reducible refine gd_ 8 ?_); refine bx_ 8 #[.slice none 0 0] 34 ?_; intro gb364 hg w19 hbox hb; replace HO_5 := Aside0.mk (Kd.S_below (Kd.S_elderB (up_ HO_5.out) gb364 (Nat.le_of_eq hg.symm)) hb); replace HO362 := Aside0.mk (Kd.R_below (up_ HO362.out) hb); have BK364 := Aside0.mk (hbox); have GW364 := gw_ HB hg; have GE364 := gw_ HB hg; replace HB := bs_ HB hb; clear hb hbox hg; obtain ⟨Ao20, co20, eo20⟩ := Kd.R_slice HO362.out; subst eo20; have hcz21_0 := c1_ BK364; have hfz21_0 := blk_frozen BK364.out 0) | ((with_reducible refine gc_ 176 ?_); refine goesL_ (some 24) rfl rfl Try.func176 (by kernel_rfl) rfl #[.agg #[.slice Ao20 t360.length co20]] rfl am_ ?_; (with_reducible refine (impl_IsTrivial.calls k1 _ _ t360 false _ ?side1 ?side2 A9.out).mono ?_); (case side1 => refine (Kd.R_reads' (e := 3) (base := w.heap.size) (ok := fun k_ => True) (n := t360.length) (c := co20) ?_).2.2; exact (by (with_reducible repeat (first | apply Kd.R_alloc | apply Kd.R_drewN | apply Kd.R_drew)); exact (Kd.R_mono (Kd.R_far (p := ⟨gb364, 0, none⟩) (Kd.R_types HO362.out BK364.out (by decide)) (fun _ hk => hk.2) (.slice Ao20 t360.length co20)) (fun _ h_ => h_.1)))); (case side2 => exact (Kd.R_reads' HO362.out).2.1); rintro e w22 ⟨rfl, hb⟩; refine ⟨_, rfl, ?_⟩; replace HO_5 := Aside0.mk (Kd.S_below (by (with_reducible repeat (first | apply Kd.S_alloc | apply Kd.S_drewN | apply Kd.S_drew)); exact (Kd.S_mono (Kd.S_far (p := ⟨gb364, 0, none⟩) (Kd.S_mono HO_5.out (fun k_ hk => (⟨hk, hk.2⟩ : _ ∧ k_ ≠ gb364))) (fun _ hk => hk.2) (.slice Ao20 t360.length co20)) (fun _ h_ => h_.1))) hb); replace HO362 := Aside0.mk (Kd.R_below (by (with_reducible repeat (first | apply Kd.R_alloc | apply Kd.R_drewN | apply Kd.R_drew)); exact (Kd.R_mono (Kd.R_far (p := ⟨gb364, 0, none⟩) (Kd.R_types HO362.out BK364.out (by decide)) (fun _ hk => hk.2) (.slice Ao20 t360.length co20)) (fun _ h_ => h_.1))) hb); replace BK364 := Aside0.mk (blk_below (g := gb364) (o := .cells #[.slice Ao20 t360.length co20] 34 (0, 0)) (by (with_reducible repeat (first | refine blk_drewN ?_ _ | refine blk_drew ?_ | refine blk_alloc ?_ _)); refine blk_put (cs := #[.slice none 0 0]) ?_ 0 _ rfl; (with_reducible repeat (first | refine blk_drewN ?_ _ | refine blk_drew ?_ | refine blk_alloc ?_ _)); exact BK364.out) hb); replace HB := bs_ HB hb; (try clear hb); (try clear hb2); (try clear hk); (try clear hi); have hcz23_0 := c1_ BK364; have hfz23_0 := blk_frozen BK364.out 0; obtain ⟨Ao24, co24, eo24⟩ := Kd.S_slice HO_5.out; subst eo24) | (go_at_call 177; (with_reducible refine (impl_hasRow.calls k1 _ _ x5_1 _ _ t360 true _ ?side1 ?side2 ?side3 ?side4 A16.out).mono ?_); (case side1 => repeat (first | exact (Kd.S_reads' HO_5.out).2.2 | (with_reducible refine Kd.C_alloc ?_ _) | (with_reducible refine Kd.C_drewN ?_ _) | (with_reducible refine Kd.C_drew ?_))); (case side2 => exact (Kd.S_reads' HO_5.out).2.1); (case side3 => repeat (first | exact (Kd.R_reads' HO362.out).2.2 | (with_reducible refine Kd.C_alloc ?_ _) | (with_reducible refine Kd.C_drewN ?_ _) | (with_reducible refine Kd.C_drew ?_))); (case side4 => exact (Kd.R_reads' HO362.out).2.1); rintro e w25 ⟨rfl, hb⟩; replace HO_5 := Aside0.mk (Kd.S_below (up_ HO_5.out) hb); replace HO362 := Aside0.mk (Kd.R_below (up_ HO362.out) hb); replace BK364 := bb_ BK364 hb; replace HB := bs_ HB hb; (try clear hb); (try clear hb2); (try clear hk); (try clear hi)))
      go_roundg k1
      case measure => have := HK1.out; omega
      case rel => exact ⟨(x5_1), (wrap64 (x13_1 + 1)), rs_, H', ⟨by have := HK1.out; omega⟩, ⟨by (with_reducible repeat (first | apply Kd.S_alloc | apply Kd.S_drewN | apply Kd.S_drew)); exact Kd.S_mono HO_5.out (fun _ hk => trivial)⟩, ⟨up_ HB.out⟩⟩
     ·by_cases c26 : x5_1.length < 5864062014805
      ·rw [if_pos c26] at H
       have LMc26 := Aside0.mk c26
       clear c26
       obtain ⟨y367, hy367⟩ : ∃ y_ : List (S34), y_ = (x5_1 ++ [(⟨t360⟩ : S34)]) := ⟨_, rfl⟩
       replace H : (impl_rowsAgainst.l0 k1 l0 y367 l1 (l1.length : Int) (wrap64 (x13_1 + 1))) = some r := rh_ hy367 H
       have Ny367 := Aside0.mk hy367
       clear hy367
       have H' := Aside0.mk H
       clear H
       have p359 : 0 ≤ (x13_1 : Int) := od_
       have q359 : x13_1 < (l1.length : Int) := od_
       obtain ⟨ad359, A359_0, c359_0, e359, hx359_0, hl359_0, hi359_0⟩ := at_L1 HR1.out x13_1 p359 q359
       cases e359
       replace hx359_0 := bh_ HB hx359_0
       have HR359_0 := Aside0.mk hi359_0
       have HC359_0 := Aside0.mk hl359_0
       clear hi359_0 hl359_0
       replace p359 := eq_true p359
       replace q359 := eq_true q359
       go_wp2_with (first | ((with_reducible refine gc_ 175 ?_); refine gl_ (some 20) Try.func175 (impl_RowOf.calls k1 _ _ l0 _ _ (rd_L1 l1 x13_1) t360 t363 _ (Kd.C_below HR0.out (up_ HB.out)) HC0.out (Kd.C_below HR359_0.out (up_ HB.out)) HC359_0.out A8.out) ?_; rintro e w27 ⟨v361, rfl, ho0, hb⟩; refine ⟨_, rfl, ?_⟩; replace HO_5 := Aside0.mk (Kd.S_elder' (up_ HO_5.out) (Kd.R_base ho0) hb); have HO362 := Aside0.mk (Kd.R_lower ho0 (below_size (up_ HB.out))); replace HB := bs_ HB hb; (try clear hb); (try clear hb2); (try clear hk); (try clear hi); (try clear ho0)) | ((with_reducible refine gd_ 8 ?_); refine bx_ 8 #[.slice none 0 0] 34 ?_; intro gb364 hg w28 hbox hb; replace HO_5 := Aside0.mk (Kd.S_below (Kd.S_elderB (up_ HO_5.out) gb364 (Nat.le_of_eq hg.symm)) hb); replace HO362 := Aside0.mk (Kd.R_below (up_ HO362.out) hb); have BK364 := Aside0.mk (hbox); have GW364 := gw_ HB hg; have GE364 := gw_ HB hg; replace HB := bs_ HB hb; clear hb hbox hg; obtain ⟨Ao29, co29, eo29⟩ := Kd.R_slice HO362.out; subst eo29; have hcz30_0 := c1_ BK364; have hfz30_0 := blk_frozen BK364.out 0) | ((with_reducible refine gc_ 176 ?_); refine goesL_ (some 24) rfl rfl Try.func176 (by kernel_rfl) rfl #[.agg #[.slice Ao29 t360.length co29]] rfl am_ ?_; (with_reducible refine (impl_IsTrivial.calls k1 _ _ t360 false _ ?side1 ?side2 A9.out).mono ?_); (case side1 => refine (Kd.R_reads' (e := 3) (base := w.heap.size) (ok := fun k_ => True) (n := t360.length) (c := co29) ?_).2.2; exact (by (with_reducible repeat (first | apply Kd.R_alloc | apply Kd.R_drewN | apply Kd.R_drew)); exact (Kd.R_mono (Kd.R_far (p := ⟨gb364, 0, none⟩) (Kd.R_types HO362.out BK364.out (by decide)) (fun _ hk => hk.2) (.slice Ao29 t360.length co29)) (fun _ h_ => h_.1)))); (case side2 => exact (Kd.R_reads' HO362.out).2.1); rintro e w31 ⟨rfl, hb⟩; refine ⟨_, rfl, ?_⟩; replace HO_5 := Aside0.mk (Kd.S_below (by (with_reducible repeat (first | apply Kd.S_alloc | apply Kd.S_drewN | apply Kd.S_drew)); exact (Kd.S_mono (Kd.S_far (p := ⟨gb364, 0, none⟩) (Kd.S_mono HO_5.out (fun k_ hk => (⟨hk, hk.2⟩ : _ ∧ k_ ≠ gb364))) (fun _ hk => hk.2) (.slice Ao29 t360.length co29)) (fun _ h_ => h_.1))) hb); replace HO362 := Aside0.mk (Kd.R_below (by (with_reducible repeat (first | apply Kd.R_alloc | apply Kd.R_drewN | apply Kd.R_drew)); exact (Kd.R_mono (Kd.R_far (p := ⟨gb364, 0, none⟩) (Kd.R_types HO362.out BK364.out (by decide)) (fun _ hk => hk.2) (.slice Ao29 t360.length co29)) (fun _ h_ => h_.1))) hb); replace BK364 := Aside0.mk (blk_below (g := gb364) (o := .cells #[.slice Ao29 t360.length co29] 34 (0, 0)) (by (with_reducible repeat (first | refine blk_drewN ?_ _ | refine blk_drew ?_ | refine blk_alloc ?_ _)); refine blk_put (cs := #[.slice none 0 0]) ?_ 0 _ rfl; (with_reducible repeat (first | refine blk_drewN ?_ _ | refine blk_drew ?_ | refine blk_alloc ?_ _)); exact BK364.out) hb); replace HB := bs_ HB hb; (try clear hb); (try clear hb2); (try clear hk); (try clear hi); have hcz32_0 := c1_ BK364; have hfz32_0 := blk_frozen BK364.out 0; obtain ⟨Ao33, co33, eo33⟩ := Kd.S_slice HO_5.out; subst eo33) | (go_at_call 177; (with_reducible refine (impl_hasRow.calls k1 _ _ x5_1 _ _ t360 false _ ?side1 ?side2 ?side3 ?side4 A16.out).mono ?_); (case side1 => repeat (first | exact (Kd.S_reads' HO_5.out).2.2 | (with_reducible refine Kd.C_alloc ?_ _) | (with_reducible refine Kd.C_drewN ?_ _) | (with_reducible refine Kd.C_drew ?_))); (case side2 => exact (Kd.S_reads' HO_5.out).2.1); (case side3 => repeat (first | exact (Kd.R_reads' HO362.out).2.2 | (with_reducible refine Kd.C_alloc ?_ _) | (with_reducible refine Kd.C_drewN ?_ _) | (with_reducible refine Kd.C_drew ?_))); (case side4 => exact (Kd.R_reads' HO362.out).2.1); rintro e w34 ⟨rfl, hb⟩; replace HO_5 := Aside0.mk (Kd.S_below (up_ HO_5.out) hb); replace HO362 := Aside0.mk (Kd.R_below (up_ HO362.out) hb); replace BK364 := bb_ BK364 hb; replace HB := bs_ HB hb; (try clear hb); (try clear hb2); (try clear hk); (try clear hi); have hcz35_0 := c1_ BK364; have hfz35_0 := blk_frozen BK364.out 0) | ((with_reducible refine gate_builtin (b := .append) (xs := #[.tmp 32, .tmp 34]) rfl ?_); at_builtin; refine Kd.S_append k34 (w0 := w) w.heap.size rfl (.tmp 32) (.tmp 34) 45 34 (.agg #[(.slice none 0 0)]) 24 rfl Try.underlying45 info34 rfl (by decide) (by omega) (.slice Ao33 x5_1.length co33) x5_1 (⟨t360⟩ : S34) [.slice Ao29 t360.length co29] (fun k_ => k_ ≠ gb364) (fun k_ => some k_ = (.slice Ao29 t360.length co29 : Value).ownBlock) rfl rfl ?aP (fun k_ hk_ => ((Kd.R_mono (ok' := fun k_ => ((fun k_ => k_ ≠ gb364)) k_ ∧ some k_ ≠ (.slice Ao33 x5_1.length co33 : Value).ownBlock) (Kd.R_types (Kd.R_apart' (HO362.out) (Kd.S_typed HO_5.out) (by decide)) BK364.out (by decide)) (fun k_ hk => ⟨hk.2, hk.1.2⟩))).1 k_ hk_.symm) ?aF ?aO ?aB ?aS ?aL ?_; (case aP => exact k34_mkM _ _ _ (⟨t360⟩ : S34) (Kd.R_mono (Kd.R_tight rfl (Kd.R_mono (ok' := fun k_ => ((fun k_ => k_ ≠ gb364)) k_ ∧ some k_ ≠ (.slice Ao33 x5_1.length co33 : Value).ownBlock) (Kd.R_types (Kd.R_apart' (HO362.out) (Kd.S_typed HO_5.out) (by decide)) BK364.out (by decide)) (fun k_ hk => ⟨hk.2, hk.1.2⟩))) (fun _ h_ => h_))); (case aB => exact (up_ HB.out)); (case aF => exact (fun k_ hk => Kd.freshB (g := gb364) (o := .cells #[.slice Ao29 t360.length co29] 34 (0, 0)) (up_ BK364.out) k_ hk)); (case aO => exact (by (with_reducible repeat (first | apply Kd.S_alloc | apply Kd.S_drewN | apply Kd.S_drew)); exact Kd.S_mono HO_5.out (fun k_ hk => ⟨hk.2, fun e_ => hk.1.2 e_⟩))); (case aS => exact (below_size (up_ HB.out))); (case aL => have := LMc26.out; omega); intro v368 w36 ho hb hg hat; rw [← Ny367.out] at ho; have n0_ := Aside0.mk (blk_grown (g := gb364) (o := .cells #[.slice Ao29 t360.length co29] 34 (0, 0)) (up_ BK364.out) hg (Kd.S_away HO_5.out (fun _ hk => hk.2))); have n1_ := Aside0.mk (hb); have n2_ := Aside0.mk (ho); clear BK364; clear HB; clear HO_5; clear HO362; have BK364 := n0_; have HB := n1_; have HO369 := n2_; clear n0_ n1_ n2_; clear ho hb hg hat))
       go_roundg k1
       case measure => have := HK1.out; omega
       case rel => exact ⟨(y367), (wrap64 (x13_1 + 1)), rs_, H', ⟨by have := HK1.out; omega⟩, ⟨by (with_reducible repeat (first | apply Kd.S_alloc | apply Kd.S_drewN | apply Kd.S_drew)); exact Kd.S_mono HO369.out (fun _ hk => trivial)⟩, ⟨up_ HB.out⟩⟩
      ·rw [if_neg c26] at H
       exact absurd H (by simp)
   ·obtain rfl := Option.some.inj H
    go_wp2
    go_ret
    exact ⟨_, re_, by (with_reducible repeat (first | apply Kd.S_alloc | apply Kd.S_drewN | apply Kd.S_drew)); exact HO_5.out, up_ HB.out⟩

end Go.Proofs.Ytkddpilambnicaa.PFnExactFootRows
