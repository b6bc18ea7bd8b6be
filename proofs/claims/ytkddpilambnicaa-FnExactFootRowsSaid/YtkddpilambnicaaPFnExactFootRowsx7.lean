/- Walks of Go functions that the law FnExactFootRows uses: written by this session's program out of the kit's printer; each shows that a call comes to the answers of the Lean function beside it. Conditions: each contract's own. -/
import Derived.Test.YtkddpilambnicaaPFnExactFootRowsx0
import Derived.Test.YtkddpilambnicaaPFnExactFootRowsx2
import Derived.Test.YtkddpilambnicaaPFnExactFootRowsx6
namespace Go.Proofs.Ytkddpilambnicaa.PFnExactFootRows
open Go.RowKit Go.Proofs.YtkddpilambnicaaW.PrintWords Go.Proofs.YtkddpilambnicaaW.PrintLast Go.Proofs.YtkddpilambnicaaW.PrintMore Go.Proofs.Ytkddpilambnicaa.Mac Go.Proofs.Ytkddpilambnicaa.Law
attribute [local go_sem] max2_int min2_int max_two min_two max_three min_three max_four min_four   -- for this text's walks alone
set_option linter.unusedVariables false
set_option linter.unusedSimpArgs false

/-! ### spec_l23Marks: function 124 -/
def spec_l23Marks.f (k : Nat) (a0_0 : Int) (l0_1 : List (S166)) (a0_2 : Int) : Option (List Int) := (spec_FootMarks.f k a0_0 l0_1 a0_2).bind fun t222 => (if 5 ≤ (t222.length : Int) then (some (t222.take (5 : Int).toNat)) else (none))
set_option maxHeartbeats 8000000 in
set_option maxRecDepth 100000 in
theorem spec_l23Marks.calls (k : Nat) (a0_0 : Int) (A0_1 : Option Addr) (c0_1 : Nat) (l0_1 : List (S166)) (a0_2 : Int) (r : List Int) (w : World) (hr0_1 : Kd.C k166 w A0_1 l0_1.length l0_1) (hc0_1 : l0_1.length ≤ c0_1) (h : spec_l23Marks.f k a0_0 l0_1 a0_2 = some r) :
  Calls Try.prog 124 #[.agg #[.int .i64 a0_0, .slice A0_1 l0_1.length c0_1, .int .i64 a0_2]] w fun e w' => ∃ v0_ : Value, e = .returned (v0_) ∧ Kd.R (Kd.int .i64) 3 w' w.heap.size (fun _ => True) v0_ r ∧ Below w.heap.size w w' := by
 have hu90 := Try.underlying90
 have HR0_1 := Aside0.mk hr0_1
 have HC0_1 := Aside0.mk hc0_1
 clear hr0_1 hc0_1
 have HB := Aside0.mk (Below.refl w.heap.size w)
 have H : ((spec_FootMarks.f k a0_0 l0_1 a0_2).bind fun t222 => (if 5 ≤ (t222.length : Int) then (some (t222.take (5 : Int).toNat)) else (none))) = some r := h
 clear h
 replace H := bnd_ H; obtain ⟨t222, A2, H⟩ := H
 by_cases c3 : 5 ≤ (t222.length : Int)
 ·rw [if_pos c3] at H
  have c3b0 := eq_true c3
  have c3b1 : decide (5 ≤ (t222.length : Int)) = true := decide_eq_true c3
  clear c3
  obtain ⟨y225, hy225⟩ : ∃ y_ : List Int, y_ = (t222.take (5 : Int).toNat) := ⟨_, rfl⟩
  replace H : (some y225) = some r := rh_ hy225 H
  have Ny225 := Aside0.mk hy225
  clear hy225
  obtain rfl := Option.some.inj H
  go_enter Try.func124, Try.ntmps124
  go_wp2_with (first | ((with_reducible refine gd_ 1 ?_); refine bx_ 1 #[.int .i64 a0_0, .slice A0_1 l0_1.length c0_1, .int .i64 a0_2] 90 ?_; intro gb221 hg w4 hbox hb; have BK221 := Aside0.mk (hbox); have GW221 := gw_ HB hg; have GE221 := gw_ HB hg; replace HB := bs_ HB hb; clear hb hbox hg; obtain ⟨hcz5_0, hcz5_1, hcz5_2⟩ := c3_ BK221; have hfz5_0 := blk_frozen BK221.out 0; have hfz5_1 := blk_frozen BK221.out 1; have hfz5_2 := blk_frozen BK221.out 2) | ((with_reducible refine gc_ 172 ?_); refine gl_ (some 4) Try.func172 (spec_FootMarks.calls k a0_0 _ _ l0_1 a0_2 t222 _ (Kd.C_below HR0_1.out (up_ HB.out)) HC0_1.out A2.out) ?_; rintro e w6 ⟨v223, rfl, ho0, hb⟩; refine ⟨_, rfl, ?_⟩; have HO224 := Aside0.mk (Kd.R_lower ho0 (below_size (up_ HB.out))); replace BK221 := bb_ BK221 hb; replace HB := bs_ HB hb; (try clear hb); (try clear hb2); (try clear hk); (try clear hi); (try clear ho0); obtain ⟨Ao7, co7, eo7⟩ := Kd.R_slice HO224.out; subst eo7; have q8 : (5 : Int) ≤ ((t222.length : Int) : Int) := od_; obtain ⟨i08, hi08, _, hsz8, _⟩ := info_parts info3; have hcut8 := cut_to (P := Try.prog) 25 3 .i64 Try.underlying25 hi08 Ao7 t222.length co7 5 (by omega) q8 (Kd.R_reads' HO224.out).2.1; have hr8 := Kd.R_take (m := (5 : Int).toNat) HO224.out (by omega); have hy8 : y225.length = (5 : Int).toNat := (by rw [Ny225.out, List.length_take]; omega); rw [← Ny225.out] at hr8; rw [← hy8] at hr8 hcut8; clear hy8 hi08 hsz8 HO224; have HO227 := Aside0.mk hr8; clear hr8; replace q8 := eq_true q8))
  go_ret
  exact ⟨_, re_, by (with_reducible repeat (first | apply Kd.R_alloc | apply Kd.R_drewN | apply Kd.R_drew)); exact HO227.out, up_ HB.out⟩
 ·rw [if_neg c3] at H
  exact absurd H (by simp)

/-! ### spec_IsRow: function 78 -/
def spec_IsRow.l0 : Nat → Int → Int → List Int → Option (Bool)
 | 0, _, _, _ => none
 | k + 1, x1, x5, x229000 => if x5 < (x229000.length : Int) then (if 0 ≤ x5 then ((spec_l1In.f (rd x229000 x5) (-1) 1).bind fun t230 => (if t230 = true then (spec_IsRow.l0 k x1 (wrap64 (x5 + 1)) x229000) else (some false))) else (none)) else ((spec_l1In.f x1 1 5).bind fun t231 => (if t231 = true then (some ((x229000.length : Int) == x1)) else (some false)))
def spec_IsRow.f (k : Nat) (l0_0 : List Int) (a1 : Int) : Option (Bool) := spec_IsRow.l0 k a1 0 l0_0
set_option maxHeartbeats 8000000 in
set_option maxRecDepth 100000 in
theorem spec_IsRow.calls (k : Nat) (A0_0 : Option Addr) (c0_0 : Nat) (l0_0 : List Int) (a1 : Int) (r : Bool) (w : World) (hr0_0 : Kd.C (Kd.int .i64) w A0_0 l0_0.length l0_0) (hc0_0 : l0_0.length ≤ c0_0) (h : spec_IsRow.f k l0_0 a1 = some r) :
  Calls Try.prog 78 #[.agg #[.slice A0_0 l0_0.length c0_0], .int .i64 a1] w fun e w' => e = .returned (.bool r) ∧ Below w.heap.size w w' := by
 have hu34 := Try.underlying34
 have HR0_0 := Aside0.mk hr0_0
 have HC0_0 := Aside0.mk hc0_0
 clear hr0_0 hc0_0
 have HB := Aside0.mk (Below.refl w.heap.size w)
 have H : (spec_IsRow.l0 k a1 0 l0_0) = some r := h
 clear h
 have H' := Aside0.mk H
 clear H
 go_enter Try.func78, Try.ntmps78
 go_wp2_with (first | ((with_reducible refine gd_ 2 ?_); (try (refine gate_guard (by rfl) ?_; dsimp only)); refine bx_ 2 #[.slice A0_0 l0_0.length c0_0] 34 ?_; intro gb228 hg w3 hbox hb; have BK228 := Aside0.mk (hbox); have GW228 := gw_ HB hg; have GE228 := gw_ HB hg; replace HB := bs_ HB hb; clear hb hbox hg))
 go_loopg [5] k (fun kq v5 w' => ∃ (x5_1 : Int), v5 = .int .i64 x5_1 ∧ Aside0 (spec_IsRow.l0 kq a1 x5_1 l0_0 = some r) ∧ Aside0 (kq ≤ k) ∧ Aside0 (w'.heap[gb228]? = some (.cells #[(.slice A0_0 l0_0.length c0_0)] 34 (0, 0))) ∧ Aside0 (Below w.heap.size w w'))
 case atStart => exact ⟨(0), rs_, H', ⟨Nat.le_refl _⟩, ⟨up_ BK228.out⟩, ⟨up_ HB.out⟩⟩
 case round =>
  clear H'
  try clear p2
  obtain ⟨x5_1, rfl, HA, HK1, BK228, HB⟩ := hrel
  cases gk with
  | zero => exact absurd HA.out (by simp [spec_IsRow.l0])
  | succ k1 =>
   have H := HA.out
   clear HA
   simp only [spec_IsRow.l0] at H
   replace H := its_ H; rcases H with ⟨c4b0, H⟩ | ⟨c4b0, H⟩
   ·replace H := its_ H; rcases H with ⟨c5b0, H⟩ | ⟨_, ⟨⟩⟩
    replace H := bnd_ H; obtain ⟨t230, A6, H⟩ := H
    replace H := itb_ H; rcases H with ⟨rfl, H⟩ | ⟨rfl, H⟩
    ·have H' := Aside0.mk H
     clear H
     have hcz8_0 := c1_ BK228
     have hfz8_0 := blk_frozen BK228.out 0
     have p229 : 0 ≤ (x5_1 : Int) := od_
     have q229 : x5_1 < (l0_0.length : Int) := od_
     obtain ⟨ad229, e229, hx229_0⟩ := Kd.at_int HR0_0.out x5_1 p229 q229
     cases e229
     replace hx229_0 := bh_ HB hx229_0
     replace p229 := eq_true p229
     replace q229 := eq_true q229
     go_wp2_with (first | ((with_reducible refine gc_ 95 ?_); refine gq_ (some 18) Try.func95 (spec_l1In.calls (rd l0_0 x5_1) (-1) 1 true _ A6.out) (fun nd => ?_)))
     go_roundg k1
     case measure => have := HK1.out; omega
     case rel => exact ⟨(wrap64 (x5_1 + 1)), rs_, H', ⟨by have := HK1.out; omega⟩, ⟨up_ BK228.out⟩, ⟨up_ HB.out⟩⟩
    ·obtain rfl := Option.some.inj H
     have hcz9_0 := c1_ BK228
     have hfz9_0 := blk_frozen BK228.out 0
     have p229 : 0 ≤ (x5_1 : Int) := od_
     have q229 : x5_1 < (l0_0.length : Int) := od_
     obtain ⟨ad229, e229, hx229_0⟩ := Kd.at_int HR0_0.out x5_1 p229 q229
     cases e229
     replace hx229_0 := bh_ HB hx229_0
     replace p229 := eq_true p229
     replace q229 := eq_true q229
     go_wp2_with (first | ((with_reducible refine gc_ 95 ?_); refine gq_ (some 18) Try.func95 (spec_l1In.calls (rd l0_0 x5_1) (-1) 1 false _ A6.out) (fun nd => ?_)))
     go_ret
     exact ⟨re_, up_ HB.out⟩
   ·replace H := bnd_ H; obtain ⟨t231, A10, H⟩ := H
    replace H := itb_ H; rcases H with ⟨rfl, H⟩ | ⟨rfl, H⟩
    ·obtain rfl := Option.some.inj H
     have hcz12_0 := c1_ BK228
     have hfz12_0 := blk_frozen BK228.out 0
     go_wp2_with (first | ((with_reducible refine gc_ 95 ?_); refine gq_ (some 21) Try.func95 (spec_l1In.calls a1 1 5 true _ A10.out) (fun nd => ?_)))
     go_ret
     exact ⟨re_, up_ HB.out⟩
    ·obtain rfl := Option.some.inj H
     have hcz13_0 := c1_ BK228
     have hfz13_0 := blk_frozen BK228.out 0
     go_wp2_with (first | ((with_reducible refine gc_ 95 ?_); refine gq_ (some 21) Try.func95 (spec_l1In.calls a1 1 5 false _ A10.out) (fun nd => ?_)))
     go_ret
     exact ⟨re_, up_ HB.out⟩

/-! ### spec_l13Count: function 173 -/
def spec_l13Count.l0 : Nat → Int → Int → Int → List Int → Option (Int)
 | 0, _, _, _, _ => none
 | k + 1, x1, x5, x6, x233000 => if x6 < (x233000.length : Int) then (if 0 ≤ x6 then (if (rd x233000 x6) = x1 then (spec_l13Count.l0 k x1 (wrap64 (x5 + 1)) (wrap64 (x6 + 1)) x233000) else (spec_l13Count.l0 k x1 x5 (wrap64 (x6 + 1)) x233000)) else (none)) else (some x5)
def spec_l13Count.f (k : Nat) (l0_0 : List Int) (a1 : Int) : Option (Int) := spec_l13Count.l0 k a1 0 0 l0_0
set_option maxHeartbeats 8000000 in
set_option maxRecDepth 100000 in
theorem spec_l13Count.calls (k : Nat) (A0_0 : Option Addr) (c0_0 : Nat) (l0_0 : List Int) (a1 : Int) (r : Int) (w : World) (hr0_0 : Kd.C (Kd.int .i64) w A0_0 l0_0.length l0_0) (hc0_0 : l0_0.length ≤ c0_0) (h : spec_l13Count.f k l0_0 a1 = some r) :
  Calls Try.prog 173 #[.agg #[.slice A0_0 l0_0.length c0_0], .int .i64 a1] w fun e w' => e = .returned (.int .i64 r) ∧ Below w.heap.size w w' := by
 have hu34 := Try.underlying34
 have HR0_0 := Aside0.mk hr0_0
 have HC0_0 := Aside0.mk hc0_0
 clear hr0_0 hc0_0
 have HB := Aside0.mk (Below.refl w.heap.size w)
 have H : (spec_l13Count.l0 k a1 0 0 l0_0) = some r := h
 clear h
 have H' := Aside0.mk H
 clear H
 go_enter Try.func173, Try.ntmps173
 go_wp2_with (first | ((with_reducible refine gd_ 2 ?_); refine bx_ 2 #[.slice A0_0 l0_0.length c0_0] 34 ?_; intro gb232 hg w3 hbox hb; have BK232 := Aside0.mk (hbox); have GW232 := gw_ HB hg; have GE232 := gw_ HB hg; replace HB := bs_ HB hb; clear hb hbox hg))
 go_loopg [5, 6] k (fun kq v5 v6 w' => ∃ (x5_1 : Int) (x6_1 : Int), v5 = .int .i64 x5_1 ∧ v6 = .int .i64 x6_1 ∧ Aside0 (spec_l13Count.l0 kq a1 x5_1 x6_1 l0_0 = some r) ∧ Aside0 (kq ≤ k) ∧ Aside0 (w'.heap[gb232]? = some (.cells #[(.slice A0_0 l0_0.length c0_0)] 34 (0, 0))) ∧ Aside0 (Below w.heap.size w w'))
 case atStart => exact ⟨(0), (0), rs_, rs_, H', ⟨Nat.le_refl _⟩, ⟨up_ BK232.out⟩, ⟨up_ HB.out⟩⟩
 case round =>
  clear H'
  try clear c1
  try clear p2
  obtain ⟨x5_1, x6_1, rfl, rfl, HA, HK1, BK232, HB⟩ := hrel
  cases gk with
  | zero => exact absurd HA.out (by simp [spec_l13Count.l0])
  | succ k1 =>
   have H := HA.out
   clear HA
   simp only [spec_l13Count.l0] at H
   replace H := its_ H; rcases H with ⟨c4b0, H⟩ | ⟨c4b0, H⟩
   ·replace H := its_ H; rcases H with ⟨c5b0, H⟩ | ⟨_, ⟨⟩⟩
    replace H := ieq_ H; rcases H with ⟨-, c6b0, c6b1, H⟩ | ⟨c6, c6b0, c6b1, H⟩
    ·have H' := Aside0.mk H
     clear H
     have hcz7_0 := c1_ BK232
     have hfz7_0 := blk_frozen BK232.out 0
     have p233 : 0 ≤ (x6_1 : Int) := od_
     have q233 : x6_1 < (l0_0.length : Int) := od_
     obtain ⟨ad233, e233, hx233_0⟩ := Kd.at_int HR0_0.out x6_1 p233 q233
     cases e233
     replace hx233_0 := bh_ HB hx233_0
     replace p233 := eq_true p233
     replace q233 := eq_true q233
     go_wp2
     go_roundg k1
     case measure => have := HK1.out; omega
     case rel => exact ⟨(wrap64 (x5_1 + 1)), (wrap64 (x6_1 + 1)), rs_, rs_, H', ⟨by have := HK1.out; omega⟩, ⟨up_ BK232.out⟩, ⟨up_ HB.out⟩⟩
    ·have H' := Aside0.mk H
     clear H
     have hcz8_0 := c1_ BK232
     have hfz8_0 := blk_frozen BK232.out 0
     have p233 : 0 ≤ (x6_1 : Int) := od_
     have q233 : x6_1 < (l0_0.length : Int) := od_
     obtain ⟨ad233, e233, hx233_0⟩ := Kd.at_int HR0_0.out x6_1 p233 q233
     cases e233
     replace hx233_0 := bh_ HB hx233_0
     replace p233 := eq_true p233
     replace q233 := eq_true q233
     go_wp2
     go_roundg k1
     case measure => have := HK1.out; omega
     case rel => exact ⟨(x5_1), (wrap64 (x6_1 + 1)), rs_, rs_, H', ⟨by have := HK1.out; omega⟩, ⟨up_ BK232.out⟩, ⟨up_ HB.out⟩⟩
   ·obtain rfl := Option.some.inj H
    have hcz9_0 := c1_ BK232
    have hfz9_0 := blk_frozen BK232.out 0
    go_wp2
    go_ret
    exact ⟨re_, up_ HB.out⟩

/-! ### spec_IsTrivial: function 125 -/
def spec_IsTrivial.f (k : Nat) (l0_0 : List Int) : Option (Bool) := (spec_IsRow.f k l0_0 (l0_0.length : Int)).bind fun t235 => (if t235 = true then ((spec_l13Count.f k l0_0 (-1)).bind fun t236 => (some (t236 == 0))) else (some false))
set_option maxHeartbeats 8000000 in
set_option maxRecDepth 100000 in
theorem spec_IsTrivial.calls (k : Nat) (A0_0 : Option Addr) (c0_0 : Nat) (l0_0 : List Int) (r : Bool) (w : World) (hr0_0 : Kd.C (Kd.int .i64) w A0_0 l0_0.length l0_0) (hc0_0 : l0_0.length ≤ c0_0) (h : spec_IsTrivial.f k l0_0 = some r) :
  Calls Try.prog 125 #[.agg #[.slice A0_0 l0_0.length c0_0]] w fun e w' => e = .returned (.bool r) ∧ Below w.heap.size w w' := by
 have hu34 := Try.underlying34
 have HR0_0 := Aside0.mk hr0_0
 have HC0_0 := Aside0.mk hc0_0
 clear hr0_0 hc0_0
 have HB := Aside0.mk (Below.refl w.heap.size w)
 have H : ((spec_IsRow.f k l0_0 (l0_0.length : Int)).bind fun t235 => (if t235 = true then ((spec_l13Count.f k l0_0 (-1)).bind fun t236 => (some (t236 == 0))) else (some false))) = some r := h
 clear h
 replace H := bnd_ H; obtain ⟨t235, A2, H⟩ := H
 replace H := itb_ H; rcases H with ⟨rfl, H⟩ | ⟨rfl, H⟩
 ·replace H := bnd_ H; obtain ⟨t236, A4, H⟩ := H
  obtain rfl := Option.some.inj H
  go_enter Try.func125, Try.ntmps125
  go_wp2_with (first | ((with_reducible refine gd_ 1 ?_); refine bx_ 1 #[.slice A0_0 l0_0.length c0_0] 34 ?_; intro gb234 hg w5 hbox hb; have BK234 := Aside0.mk (hbox); have GW234 := gw_ HB hg; have GE234 := gw_ HB hg; replace HB := bs_ HB hb; clear hb hbox hg; have hcz6_0 := c1_ BK234; have hfz6_0 := blk_frozen BK234.out 0) | ((with_reducible refine gc_ 78 ?_); refine gl_ (some 7) Try.func78 (spec_IsRow.calls k _ _ l0_0 (l0_0.length : Int) true _ (Kd.C_below HR0_0.out (up_ HB.out)) HC0_0.out A2.out) ?_; rintro e w7 ⟨rfl, hb⟩; refine ⟨_, rfl, ?_⟩; replace BK234 := bb_ BK234 hb; replace HB := bs_ HB hb; (try clear hb); (try clear hb2); (try clear hk); (try clear hi); have hcz8_0 := c1_ BK234; have hfz8_0 := blk_frozen BK234.out 0) | (go_at_call 173; (with_reducible refine (spec_l13Count.calls k _ _ l0_0 (-1) t236 _ (Kd.C_below HR0_0.out (up_ HB.out)) HC0_0.out A4.out).mono ?_); rintro e w9 ⟨rfl, hb⟩; replace BK234 := bb_ BK234 hb; replace HB := bs_ HB hb; (try clear hb); (try clear hb2); (try clear hk); (try clear hi)))
  go_ret
  exact ⟨re_, up_ HB.out⟩
 ·obtain rfl := Option.some.inj H
  go_enter Try.func125, Try.ntmps125
  go_wp2_with (first | ((with_reducible refine gd_ 1 ?_); refine bx_ 1 #[.slice A0_0 l0_0.length c0_0] 34 ?_; intro gb234 hg w10 hbox hb; have BK234 := Aside0.mk (hbox); have GW234 := gw_ HB hg; have GE234 := gw_ HB hg; replace HB := bs_ HB hb; clear hb hbox hg; have hcz11_0 := c1_ BK234; have hfz11_0 := blk_frozen BK234.out 0) | ((with_reducible refine gc_ 78 ?_); refine gl_ (some 7) Try.func78 (spec_IsRow.calls k _ _ l0_0 (l0_0.length : Int) false _ (Kd.C_below HR0_0.out (up_ HB.out)) HC0_0.out A2.out) ?_; rintro e w12 ⟨rfl, hb⟩; refine ⟨_, rfl, ?_⟩; replace BK234 := bb_ BK234 hb; replace HB := bs_ HB hb; (try clear hb); (try clear hb2); (try clear hk); (try clear hi)))
  go_ret
  exact ⟨re_, up_ HB.out⟩

/-! ### spec_l13Same: function 126 -/
def spec_l13Same.f (k : Nat) (l0_0 : List Int) (l1_0 : List Int) : Option (Bool) := (spec_l5Same.f k l0_0 l1_0).bind fun t239 => (some t239)
set_option maxHeartbeats 8000000 in
set_option maxRecDepth 100000 in
theorem spec_l13Same.calls (k : Nat) (A0_0 : Option Addr) (c0_0 : Nat) (l0_0 : List Int) (A1_0 : Option Addr) (c1_0 : Nat) (l1_0 : List Int) (r : Bool) (w : World) (hr0_0 : Kd.C (Kd.int .i64) w A0_0 l0_0.length l0_0) (hc0_0 : l0_0.length ≤ c0_0) (hr1_0 : Kd.C (Kd.int .i64) w A1_0 l1_0.length l1_0) (hc1_0 : l1_0.length ≤ c1_0) (h : spec_l13Same.f k l0_0 l1_0 = some r) :
  Calls Try.prog 126 #[.agg #[.slice A0_0 l0_0.length c0_0], .agg #[.slice A1_0 l1_0.length c1_0]] w fun e w' => e = .returned (.bool r) ∧ Below w.heap.size w w' := by
 have hu34 := Try.underlying34
 have HR0_0 := Aside0.mk hr0_0
 have HC0_0 := Aside0.mk hc0_0
 clear hr0_0 hc0_0
 have HR1_0 := Aside0.mk hr1_0
 have HC1_0 := Aside0.mk hc1_0
 clear hr1_0 hc1_0
 have HB := Aside0.mk (Below.refl w.heap.size w)
 have H : ((spec_l5Same.f k l0_0 l1_0).bind fun t239 => (some t239)) = some r := h
 clear h
 replace H := bnd_ H; obtain ⟨t239, A3, H⟩ := H
 obtain rfl := Option.some.inj H
 go_enter Try.func126, Try.ntmps126
 go_wp2_with (first | ((with_reducible refine gd_ 2 ?_); refine bx_ 2 #[.slice A0_0 l0_0.length c0_0] 34 ?_; intro gb237 hg w4 hbox hb; have BK237 := Aside0.mk (hbox); have GW237 := gw_ HB hg; have GE237 := gw_ HB hg; replace HB := bs_ HB hb; clear hb hbox hg) | ((with_reducible refine gd_ 3 ?_); refine bx_ 3 #[.slice A1_0 l1_0.length c1_0] 34 ?_; intro gb238 hg w5 hbox hb; have BK238 := Aside0.mk (hbox); have GW238 := gw_ HB hg; have GE238 := gw_ HB hg; replace HB := bs_ HB hb; have NB237_238 := Aside0.mk ((by rw [hg]; exact Nat.ne_of_lt (blk_lt (g := gb237) (o := .cells #[.slice A0_0 l0_0.length c0_0] 34 (0, 0)) (up_ BK237.out)) : gb237 ≠ gb238)); have NB238_237 := Aside0.mk ((by rw [hg]; exact Nat.ne_of_gt (blk_lt (g := gb237) (o := .cells #[.slice A0_0 l0_0.length c0_0] 34 (0, 0)) (up_ BK237.out)) : gb238 ≠ gb237)); replace BK237 := bb_ BK237 hb; clear hb hbox hg; have hnb6 := NB237_238.out; have hnc6 := NB238_237.out; have hcz7_0 := c1_ BK237; have hfz7_0 := blk_frozen BK237.out 0; have hcz8_0 := c1_ BK238; have hfz8_0 := blk_frozen BK238.out 0) | ((with_reducible refine gc_ 120 ?_); refine gq_ (some 9) Try.func120 (spec_l5Same.calls k _ _ l0_0 _ _ l1_0 t239 _ (Kd.C_below HR0_0.out (up_ HB.out)) HC0_0.out (Kd.C_below HR1_0.out (up_ HB.out)) HC1_0.out A3.out) (fun nd => ?_)))
 go_ret
 exact ⟨re_, up_ HB.out⟩

end Go.Proofs.Ytkddpilambnicaa.PFnExactFootRows
