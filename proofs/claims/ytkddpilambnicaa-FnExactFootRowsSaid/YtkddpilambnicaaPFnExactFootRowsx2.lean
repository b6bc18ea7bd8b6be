/- Walks of Go functions that the law FnExactFootRows uses: written by this session's program out of the kit's printer; each shows that a call comes to the answers of the Lean function beside it. Conditions: each contract's own. -/
import Derived.Test.YtkddpilambnicaaPFnExactFootRowsx0
import Derived.Test.YtkddpilambnicaaPFnExactFootRowsx1
namespace Go.Proofs.Ytkddpilambnicaa.PFnExactFootRows
open Go.RowKit Go.Proofs.YtkddpilambnicaaW.PrintWords Go.Proofs.YtkddpilambnicaaW.PrintLast Go.Proofs.YtkddpilambnicaaW.PrintMore Go.Proofs.Ytkddpilambnicaa.Mac Go.Proofs.Ytkddpilambnicaa.Law
attribute [local go_sem] max2_int min2_int max_two min_two max_three min_three max_four min_four   -- for this text's walks alone
set_option linter.unusedVariables false
set_option linter.unusedSimpArgs false

/-! ### laws_szFooting: function 55 -/
def laws_szFooting.f (a0_0 : Int) (l0_1 : List (S170)) (a0_2 : Int) (a1 : Int) : Option (Int) := (laws_szFootS.f l0_1 a1).bind fun t113 => (if t113 < 0 then (some (-1)) else (some t113))
set_option maxHeartbeats 8000000 in
set_option maxRecDepth 100000 in
theorem laws_szFooting.calls (a0_0 : Int) (A0_1 : Option Addr) (c0_1 : Nat) (l0_1 : List (S170)) (a0_2 : Int) (a1 : Int) (r : Int) (w : World) (hr0_1 : Kd.C k170 w A0_1 l0_1.length l0_1) (hc0_1 : l0_1.length ≤ c0_1) (h : laws_szFooting.f a0_0 l0_1 a0_2 a1 = some r) :
  Calls Try.prog 55 #[.agg #[.int .i64 a0_0, .slice A0_1 l0_1.length c0_1, .int .i64 a0_2], .int .i64 a1] w fun e w' => e = .returned (.int .i64 r) ∧ Below w.heap.size w w' := by
 have hu81 := Try.underlying81
 have HR0_1 := Aside0.mk hr0_1
 have HC0_1 := Aside0.mk hc0_1
 clear hr0_1 hc0_1
 have HB := Aside0.mk (Below.refl w.heap.size w)
 have H : ((laws_szFootS.f l0_1 a1).bind fun t113 => (if t113 < 0 then (some (-1)) else (some t113))) = some r := h
 clear h
 replace H := bnd_ H; obtain ⟨t113, A3, H⟩ := H
 replace H := its_ H; rcases H with ⟨c4b0, H⟩ | ⟨c4b0, H⟩
 ·obtain rfl := Option.some.inj H
  go_enter Try.func55, Try.ntmps55
  go_wp2_with (first | ((with_reducible refine gd_ 2 ?_); refine bx_ 2 #[.int .i64 a0_0, .slice A0_1 l0_1.length c0_1, .int .i64 a0_2] 81 ?_; intro gb112 hg w5 hbox hb; have BK112 := Aside0.mk (hbox); have GW112 := gw_ HB hg; have GE112 := gw_ HB hg; replace HB := bs_ HB hb; clear hb hbox hg; obtain ⟨hcz6_0, hcz6_1, hcz6_2⟩ := c3_ BK112; have hfz6_0 := blk_frozen BK112.out 0; have hfz6_1 := blk_frozen BK112.out 1; have hfz6_2 := blk_frozen BK112.out 2) | ((with_reducible refine gc_ 118 ?_); refine gq_ (some 8) Try.func118 (laws_szFootS.calls _ _ l0_1 a1 t113 _ (Kd.C_below HR0_1.out (up_ HB.out)) HC0_1.out A3.out) (fun nd => ?_)))
  go_ret
  exact ⟨re_, up_ HB.out⟩
 ·obtain rfl := Option.some.inj H
  go_enter Try.func55, Try.ntmps55
  go_wp2_with (first | ((with_reducible refine gd_ 2 ?_); refine bx_ 2 #[.int .i64 a0_0, .slice A0_1 l0_1.length c0_1, .int .i64 a0_2] 81 ?_; intro gb112 hg w7 hbox hb; have BK112 := Aside0.mk (hbox); have GW112 := gw_ HB hg; have GE112 := gw_ HB hg; replace HB := bs_ HB hb; clear hb hbox hg; obtain ⟨hcz8_0, hcz8_1, hcz8_2⟩ := c3_ BK112; have hfz8_0 := blk_frozen BK112.out 0; have hfz8_1 := blk_frozen BK112.out 1; have hfz8_2 := blk_frozen BK112.out 2) | ((with_reducible refine gc_ 118 ?_); refine gq_ (some 8) Try.func118 (laws_szFootS.calls _ _ l0_1 a1 t113 _ (Kd.C_below HR0_1.out (up_ HB.out)) HC0_1.out A3.out) (fun nd => ?_)))
  go_ret
  exact ⟨re_, up_ HB.out⟩

/-! ### spec_l1In: function 95 -/
def spec_l1In.f (a0 : Int) (a1 : Int) (a2 : Int) : Option (Bool) := if a0 ≥ a1 then (some (decide (a0 ≤ a2))) else (some false)
set_option maxHeartbeats 8000000 in
set_option maxRecDepth 100000 in
theorem spec_l1In.calls (a0 : Int) (a1 : Int) (a2 : Int) (r : Bool) (w : World) (h : spec_l1In.f a0 a1 a2 = some r) :
  Calls Try.prog 95 #[.int .i64 a0, .int .i64 a1, .int .i64 a2] w fun e w' => e = .returned (.bool r) ∧ Drawn0 w w' := by
 have H : (if a0 ≥ a1 then (some (decide (a0 ≤ a2))) else (some false)) = some r := h
 clear h
 by_cases c4 : a0 ≥ a1
 ·rw [if_pos c4] at H
  have c4b0 : decide (a1 ≤ a0) = true := decide_eq_true c4
  clear c4
  obtain rfl := Option.some.inj H
  go_enter Try.func95, Try.ntmps95
  go_wp2
  go_ret
  exact ⟨rs_, dn_⟩
 ·rw [if_neg c4] at H
  have c4b0 : decide (a1 ≤ a0) = false := decide_eq_false c4
  clear c4
  obtain rfl := Option.some.inj H
  go_enter Try.func95, Try.ntmps95
  go_wp2
  go_ret
  exact ⟨rs_, dn_⟩

/-! ### spec_IsFooting: function 119 -/
def spec_IsFooting.l0 : Nat → Int → Int → Int → List (S166) → Int → Option (Bool)
 | 0, _, _, _, _, _ => none
 | k + 1, x3, x4, x115000, x115001, x115002 => if x4 < (x115001.length : Int) then (if 0 ≤ x4 then (if ((rd_T166 x115001 x4).f0) < x3 then (some false) else ((spec_l1In.f ((rd_T166 x115001 x4).f1) 1 2).bind fun t119 => (if t119 = true then (if (wrap64 (((rd_T166 x115001 x4).f0) + ((rd_T166 x115001 x4).f1))) > x115000 then (some false) else (if ((rd_T166 x115001 x4).f0) > x115000 then (some false) else ((spec_l1In.f ((rd_T166 x115001 x4).f2) 0 (wrap64 (((rd_T166 x115001 x4).f1) - 1))).bind fun t120 => (if t120 = true then (spec_IsFooting.l0 k (wrap64 (((rd_T166 x115001 x4).f0) + ((rd_T166 x115001 x4).f1))) (wrap64 (x4 + 1)) x115000 x115001 x115002) else (some false))))) else (some false)))) else (none)) else ((spec_l1In.f x115000 1 6).bind fun t115 => (if t115 = true then ((spec_l1In.f x115002 0 (wrap64 ((x115001.length : Int) - 1))).bind fun t116 => (some t116)) else (some false)))
def spec_IsFooting.f (k : Nat) (a0_0 : Int) (l0_1 : List (S166)) (a0_2 : Int) : Option (Bool) := spec_IsFooting.l0 k 0 0 a0_0 l0_1 a0_2
theorem spec_IsFooting.mono_l : ∀ k, (∀ y0 y1 y2 y3 y4, LeO (spec_IsFooting.l0 k y0 y1 y2 y3 y4) (spec_IsFooting.l0 (k + 1) y0 y1 y2 y3 y4))
 | 0 => fun _ _ _ _ _ r h => by simp [spec_IsFooting.l0] at h
 | k + 1 => by
  have ih0 := spec_IsFooting.mono_l k
  ·intro y0 y1 y2 y3 y4
   unfold spec_IsFooting.l0
   exact mn_
theorem spec_IsFooting.mono : ∀ a0 a1 a2 k, LeO (spec_IsFooting.f k a0 a1 a2) (spec_IsFooting.f (k + 1) a0 a1 a2) := by
 intro a0 a1 a2 k
 have ih0 := spec_IsFooting.mono_l k
 unfold spec_IsFooting.f
 exact mn_
set_option maxHeartbeats 8000000 in
set_option maxRecDepth 100000 in
theorem spec_IsFooting.calls (k : Nat) (a0_0 : Int) (A0_1 : Option Addr) (c0_1 : Nat) (l0_1 : List (S166)) (a0_2 : Int) (r : Bool) (w : World) (hr0_1 : Kd.C k166 w A0_1 l0_1.length l0_1) (hc0_1 : l0_1.length ≤ c0_1) (h : spec_IsFooting.f k a0_0 l0_1 a0_2 = some r) :
  Calls Try.prog 119 #[.agg #[.int .i64 a0_0, .slice A0_1 l0_1.length c0_1, .int .i64 a0_2]] w fun e w' => e = .returned (.bool r) ∧ Below w.heap.size w w' := by
 have hu90 := Try.underlying90
 have hu166 := Try.underlying166
 have HR0_1 := Aside0.mk hr0_1
 have HC0_1 := Aside0.mk hc0_1
 clear hr0_1 hc0_1
 have HB := Aside0.mk (Below.refl w.heap.size w)
 have H : (spec_IsFooting.l0 k 0 0 a0_0 l0_1 a0_2) = some r := h
 clear h
 have H' := Aside0.mk H
 clear H
 go_enter Try.func119, Try.ntmps119
 go_wp2_with (first | ((with_reducible refine gd_ 1 ?_); (try (refine gate_guard (by rfl) ?_; dsimp only)); refine bx_ 1 #[.int .i64 a0_0, .slice A0_1 l0_1.length c0_1, .int .i64 a0_2] 90 ?_; intro gb114 hg w2 hbox hb; have BK114 := Aside0.mk (hbox); have GW114 := gw_ HB hg; have GE114 := gw_ HB hg; replace HB := bs_ HB hb; clear hb hbox hg))
 go_loopg [3, 4] k (fun kq v3 v4 w' => ∃ (x3_1 : Int) (x4_1 : Int), v3 = .int .i64 x3_1 ∧ v4 = .int .i64 x4_1 ∧ Aside0 (spec_IsFooting.l0 kq x3_1 x4_1 a0_0 l0_1 a0_2 = some r) ∧ Aside0 (kq ≤ k) ∧ Aside0 (w'.heap[gb114]? = some (.cells #[.int .i64 a0_0, (.slice A0_1 l0_1.length c0_1), .int .i64 a0_2] 90 (0, 0))) ∧ Aside0 (Below w.heap.size w w'))
 case atStart => exact ⟨(0), (0), rs_, rs_, H', ⟨Nat.le_refl _⟩, ⟨up_ BK114.out⟩, ⟨up_ HB.out⟩⟩
 case round =>
  clear H'
  try clear c1
  try clear p2
  obtain ⟨x3_1, x4_1, rfl, rfl, HA, HK1, BK114, HB⟩ := hrel
  cases gk with
  | zero => exact absurd HA.out (by simp [spec_IsFooting.l0])
  | succ k1 =>
   have H := HA.out
   clear HA
   simp only [spec_IsFooting.l0] at H
   replace H := its_ H; rcases H with ⟨c3b0, H⟩ | ⟨c3b0, H⟩
   ·replace H := its_ H; rcases H with ⟨c4b0, H⟩ | ⟨_, ⟨⟩⟩
    replace H := its_ H; rcases H with ⟨c5b0, H⟩ | ⟨c5b0, H⟩
    ·obtain rfl := Option.some.inj H
     obtain ⟨hcz6_0, hcz6_1, hcz6_2⟩ := c3_ BK114
     have hfz6_0 := blk_frozen BK114.out 0
     have hfz6_1 := blk_frozen BK114.out 1
     have hfz6_2 := blk_frozen BK114.out 2
     have p117 : 0 ≤ (x4_1 : Int) := od_
     have q117 : x4_1 < (l0_1.length : Int) := od_
     obtain ⟨ad117, e117, hx117_0, hx117_1, hx117_2⟩ := at_T166 HR0_1.out x4_1 p117 q117
     cases e117
     replace hx117_0 := bh_ HB hx117_0
     replace hx117_1 := bh_ HB hx117_1
     replace hx117_2 := bh_ HB hx117_2
     replace p117 := eq_true p117
     replace q117 := eq_true q117
     go_wp2_with (first | ((with_reducible refine gd_ 5 ?_); (try (refine gate_guard (by rfl) ?_; dsimp only)); refine bx_ 5 #[.int .i64 0, .int .i64 0, .int .i64 0] 166 ?_; intro gb118 hg w7 hbox hb; have BK118 := Aside0.mk (hbox); have GW118 := gw_ HB hg; have GE118 := gw_ HB hg; replace HB := bs_ HB hb; have NB114_118 := Aside0.mk ((by rw [hg]; exact Nat.ne_of_lt (blk_lt (g := gb114) (o := .cells #[.int .i64 a0_0, .slice (some ad117) l0_1.length c0_1, .int .i64 a0_2] 90 (0, 0)) (up_ BK114.out)) : gb114 ≠ gb118)); have NB118_114 := Aside0.mk ((by rw [hg]; exact Nat.ne_of_gt (blk_lt (g := gb114) (o := .cells #[.int .i64 a0_0, .slice (some ad117) l0_1.length c0_1, .int .i64 a0_2] 90 (0, 0)) (up_ BK114.out)) : gb118 ≠ gb114)); replace BK114 := bb_ BK114 hb; clear hb hbox hg; have hnb8 := NB118_114.out; have hnc8 := NB114_118.out; obtain ⟨hcz9_0, hcz9_1, hcz9_2⟩ := c3_ BK118; have hfz9_0 := blk_frozen BK118.out 0; have hfz9_1 := blk_frozen BK118.out 1; have hfz9_2 := blk_frozen BK118.out 2))
     go_ret
     exact ⟨re_, up_ HB.out⟩
    ·replace H := bnd_ H; obtain ⟨t119, A10, H⟩ := H
     replace H := itb_ H; rcases H with ⟨rfl, H⟩ | ⟨rfl, H⟩
     ·by_cases c12 : (wrap64 (((rd_T166 l0_1 x4_1).f0) + ((rd_T166 l0_1 x4_1).f1))) > a0_0
      ·rw [if_pos c12] at H
       have c12b0 : decide (a0_0 < (wrap64 (((rd_T166 l0_1 x4_1).f0) + ((rd_T166 l0_1 x4_1).f1)))) = true := decide_eq_true c12
       clear c12
       obtain rfl := Option.some.inj H
       obtain ⟨hcz13_0, hcz13_1, hcz13_2⟩ := c3_ BK114
       have hfz13_0 := blk_frozen BK114.out 0
       have hfz13_1 := blk_frozen BK114.out 1
       have hfz13_2 := blk_frozen BK114.out 2
       have p117 : 0 ≤ (x4_1 : Int) := od_
       have q117 : x4_1 < (l0_1.length : Int) := od_
       obtain ⟨ad117, e117, hx117_0, hx117_1, hx117_2⟩ := at_T166 HR0_1.out x4_1 p117 q117
       cases e117
       replace hx117_0 := bh_ HB hx117_0
       replace hx117_1 := bh_ HB hx117_1
       replace hx117_2 := bh_ HB hx117_2
       replace p117 := eq_true p117
       replace q117 := eq_true q117
       go_wp2_with (first | ((with_reducible refine gd_ 5 ?_); (try (refine gate_guard (by rfl) ?_; dsimp only)); refine bx_ 5 #[.int .i64 0, .int .i64 0, .int .i64 0] 166 ?_; intro gb118 hg w14 hbox hb; have BK118 := Aside0.mk (hbox); have GW118 := gw_ HB hg; have GE118 := gw_ HB hg; replace HB := bs_ HB hb; have NB114_118 := Aside0.mk ((by rw [hg]; exact Nat.ne_of_lt (blk_lt (g := gb114) (o := .cells #[.int .i64 a0_0, .slice (some ad117) l0_1.length c0_1, .int .i64 a0_2] 90 (0, 0)) (up_ BK114.out)) : gb114 ≠ gb118)); have NB118_114 := Aside0.mk ((by rw [hg]; exact Nat.ne_of_gt (blk_lt (g := gb114) (o := .cells #[.int .i64 a0_0, .slice (some ad117) l0_1.length c0_1, .int .i64 a0_2] 90 (0, 0)) (up_ BK114.out)) : gb118 ≠ gb114)); replace BK114 := bb_ BK114 hb; clear hb hbox hg; have hnb15 := NB118_114.out; have hnc15 := NB114_118.out; obtain ⟨hcz16_0, hcz16_1, hcz16_2⟩ := c3_ BK118; have hfz16_0 := blk_frozen BK118.out 0; have hfz16_1 := blk_frozen BK118.out 1; have hfz16_2 := blk_frozen BK118.out 2) | (go_at_call 95; (with_reducible refine (spec_l1In.calls ((rd_T166 l0_1 x4_1).f1) 1 2 true _ A10.out).mono ?_); rintro e w' ⟨rfl, ⟨nd, rfl⟩⟩; obtain ⟨hcz17_0, hcz17_1, hcz17_2⟩ := c3_ BK114; have hfz17_0 := blk_frozen BK114.out 0; have hfz17_1 := blk_frozen BK114.out 1; have hfz17_2 := blk_frozen BK114.out 2))
       go_ret
       exact ⟨re_, up_ HB.out⟩
      ·rw [if_neg c12] at H
       have c12b0 : decide (a0_0 < (wrap64 (((rd_T166 l0_1 x4_1).f0) + ((rd_T166 l0_1 x4_1).f1)))) = false := decide_eq_false c12
       clear c12
       by_cases c18 : ((rd_T166 l0_1 x4_1).f0) > a0_0
       ·rw [if_pos c18] at H
        have c18b0 : decide (a0_0 < ((rd_T166 l0_1 x4_1).f0)) = true := decide_eq_true c18
        clear c18
        obtain rfl := Option.some.inj H
        obtain ⟨hcz19_0, hcz19_1, hcz19_2⟩ := c3_ BK114
        have hfz19_0 := blk_frozen BK114.out 0
        have hfz19_1 := blk_frozen BK114.out 1
        have hfz19_2 := blk_frozen BK114.out 2
        have p117 : 0 ≤ (x4_1 : Int) := od_
        have q117 : x4_1 < (l0_1.length : Int) := od_
        obtain ⟨ad117, e117, hx117_0, hx117_1, hx117_2⟩ := at_T166 HR0_1.out x4_1 p117 q117
        cases e117
        replace hx117_0 := bh_ HB hx117_0
        replace hx117_1 := bh_ HB hx117_1
        replace hx117_2 := bh_ HB hx117_2
        replace p117 := eq_true p117
        replace q117 := eq_true q117
        go_wp2_with (first | ((with_reducible refine gd_ 5 ?_); (try (refine gate_guard (by rfl) ?_; dsimp only)); refine bx_ 5 #[.int .i64 0, .int .i64 0, .int .i64 0] 166 ?_; intro gb118 hg w20 hbox hb; have BK118 := Aside0.mk (hbox); have GW118 := gw_ HB hg; have GE118 := gw_ HB hg; replace HB := bs_ HB hb; have NB114_118 := Aside0.mk ((by rw [hg]; exact Nat.ne_of_lt (blk_lt (g := gb114) (o := .cells #[.int .i64 a0_0, .slice (some ad117) l0_1.length c0_1, .int .i64 a0_2] 90 (0, 0)) (up_ BK114.out)) : gb114 ≠ gb118)); have NB118_114 := Aside0.mk ((by rw [hg]; exact Nat.ne_of_gt (blk_lt (g := gb114) (o := .cells #[.int .i64 a0_0, .slice (some ad117) l0_1.length c0_1, .int .i64 a0_2] 90 (0, 0)) (up_ BK114.out)) : gb118 ≠ gb114)); replace BK114 := bb_ BK114 hb; clear hb hbox hg; have hnb21 := NB118_114.out; have hnc21 := NB114_118.out; obtain ⟨hcz22_0, hcz22_1, hcz22_2⟩ := c3_ BK118; have hfz22_0 := blk_frozen BK118.out 0; have hfz22_1 := blk_frozen BK118.out 1; have hfz22_2 := blk_frozen BK118.out 2) | (go_at_call 95; (with_reducible refine (spec_l1In.calls ((rd_T166 l0_1 x4_1).f1) 1 2 true _ A10.out).mono ?_); rintro e w' ⟨rfl, ⟨nd, rfl⟩⟩; obtain ⟨hcz23_0, hcz23_1, hcz23_2⟩ := c3_ BK114; have hfz23_0 := blk_frozen BK114.out 0; have hfz23_1 := blk_frozen BK114.out 1; have hfz23_2 := blk_frozen BK114.out 2))
        go_ret
        exact ⟨re_, up_ HB.out⟩
       ·rw [if_neg c18] at H
        have c18b0 : decide (a0_0 < ((rd_T166 l0_1 x4_1).f0)) = false := decide_eq_false c18
        clear c18
        replace H := bnd_ H; obtain ⟨t120, A24, H⟩ := H
        replace H := itb_ H; rcases H with ⟨rfl, H⟩ | ⟨rfl, H⟩
        ·have H' := Aside0.mk H
         clear H
         obtain ⟨hcz26_0, hcz26_1, hcz26_2⟩ := c3_ BK114
         have hfz26_0 := blk_frozen BK114.out 0
         have hfz26_1 := blk_frozen BK114.out 1
         have hfz26_2 := blk_frozen BK114.out 2
         have p117 : 0 ≤ (x4_1 : Int) := od_
         have q117 : x4_1 < (l0_1.length : Int) := od_
         obtain ⟨ad117, e117, hx117_0, hx117_1, hx117_2⟩ := at_T166 HR0_1.out x4_1 p117 q117
         cases e117
         replace hx117_0 := bh_ HB hx117_0
         replace hx117_1 := bh_ HB hx117_1
         replace hx117_2 := bh_ HB hx117_2
         replace p117 := eq_true p117
         replace q117 := eq_true q117
         go_wp2_with (first | ((with_reducible refine gd_ 5 ?_); (try (refine gate_guard (by rfl) ?_; dsimp only)); refine bx_ 5 #[.int .i64 0, .int .i64 0, .int .i64 0] 166 ?_; intro gb118 hg w27 hbox hb; have BK118 := Aside0.mk (hbox); have GW118 := gw_ HB hg; have GE118 := gw_ HB hg; replace HB := bs_ HB hb; have NB114_118 := Aside0.mk ((by rw [hg]; exact Nat.ne_of_lt (blk_lt (g := gb114) (o := .cells #[.int .i64 a0_0, .slice (some ad117) l0_1.length c0_1, .int .i64 a0_2] 90 (0, 0)) (up_ BK114.out)) : gb114 ≠ gb118)); have NB118_114 := Aside0.mk ((by rw [hg]; exact Nat.ne_of_gt (blk_lt (g := gb114) (o := .cells #[.int .i64 a0_0, .slice (some ad117) l0_1.length c0_1, .int .i64 a0_2] 90 (0, 0)) (up_ BK114.out)) : gb118 ≠ gb114)); replace BK114 := bb_ BK114 hb; clear hb hbox hg; have hnb28 := NB118_114.out; have hnc28 := NB114_118.out; obtain ⟨hcz29_0, hcz29_1, hcz29_2⟩ := c3_ BK118; have hfz29_0 := blk_frozen BK118.out 0; have hfz29_1 := blk_frozen BK118.out 1; have hfz29_2 := blk_frozen BK118.out 2) | (go_at_call 95; (with_reducible refine (spec_l1In.calls ((rd_T166 l0_1 x4_1).f1) 1 2 true _ A10.out).mono ?_); rintro e w' ⟨rfl, ⟨nd, rfl⟩⟩; obtain ⟨hcz30_0, hcz30_1, hcz30_2⟩ := c3_ BK114; have hfz30_0 := blk_frozen BK114.out 0; have hfz30_1 := blk_frozen BK114.out 1; have hfz30_2 := blk_frozen BK114.out 2) | (go_at_call 95; (with_reducible refine (spec_l1In.calls ((rd_T166 l0_1 x4_1).f2) 0 (wrap64 (((rd_T166 l0_1 x4_1).f1) - 1)) true _ A24.out).mono ?_); rintro e w' ⟨rfl, ⟨nd, rfl⟩⟩))
         go_roundg k1
         case measure => have := HK1.out; omega
         case rel => exact ⟨(wrap64 (((rd_T166 l0_1 x4_1).f0) + ((rd_T166 l0_1 x4_1).f1))), (wrap64 (x4_1 + 1)), rs_, rs_, H', ⟨by have := HK1.out; omega⟩, ⟨by (with_reducible repeat (first | refine blk_drewN ?_ _ | refine blk_drew ?_ | refine blk_alloc ?_ _)); refine blk_far ?_ NB114_118.out _; (with_reducible repeat (first | refine blk_drewN ?_ _ | refine blk_drew ?_ | refine blk_alloc ?_ _)); refine blk_far ?_ NB114_118.out _; (with_reducible repeat (first | refine blk_drewN ?_ _ | refine blk_drew ?_ | refine blk_alloc ?_ _)); refine blk_far ?_ NB114_118.out _; (with_reducible repeat (first | refine blk_drewN ?_ _ | refine blk_drew ?_ | refine blk_alloc ?_ _)); exact BK114.out⟩, ⟨up_ HB.out⟩⟩
        ·obtain rfl := Option.some.inj H
         obtain ⟨hcz31_0, hcz31_1, hcz31_2⟩ := c3_ BK114
         have hfz31_0 := blk_frozen BK114.out 0
         have hfz31_1 := blk_frozen BK114.out 1
         have hfz31_2 := blk_frozen BK114.out 2
         have p117 : 0 ≤ (x4_1 : Int) := od_
         have q117 : x4_1 < (l0_1.length : Int) := od_
         obtain ⟨ad117, e117, hx117_0, hx117_1, hx117_2⟩ := at_T166 HR0_1.out x4_1 p117 q117
         cases e117
         replace hx117_0 := bh_ HB hx117_0
         replace hx117_1 := bh_ HB hx117_1
         replace hx117_2 := bh_ HB hx117_2
         replace p117 := eq_true p117
         replace q117 := eq_true q117
         go_wp2_with (first | ((with_reducible refine gd_ 5 ?_); (try (refine gate_guard (by rfl) ?_; dsimp only)); refine bx_ 5 #[.int .i64 0, .int .i64 0, .int .i64 0] 166 ?_; intro gb118 hg w32 hbox hb; have BK118 := Aside0.mk (hbox); have GW118 := gw_ HB hg; have GE118 := gw_ HB hg; replace HB := bs_ HB hb; have NB114_118 := Aside0.mk ((by rw [hg]; exact Nat.ne_of_lt (blk_lt (g := gb114) (o := .cells #[.int .i64 a0_0, .slice (some ad117) l0_1.length c0_1, .int .i64 a0_2] 90 (0, 0)) (up_ BK114.out)) : gb114 ≠ gb118)); have NB118_114 := Aside0.mk ((by rw [hg]; exact Nat.ne_of_gt (blk_lt (g := gb114) (o := .cells #[.int .i64 a0_0, .slice (some ad117) l0_1.length c0_1, .int .i64 a0_2] 90 (0, 0)) (up_ BK114.out)) : gb118 ≠ gb114)); replace BK114 := bb_ BK114 hb; clear hb hbox hg; have hnb33 := NB118_114.out; have hnc33 := NB114_118.out; obtain ⟨hcz34_0, hcz34_1, hcz34_2⟩ := c3_ BK118; have hfz34_0 := blk_frozen BK118.out 0; have hfz34_1 := blk_frozen BK118.out 1; have hfz34_2 := blk_frozen BK118.out 2) | (go_at_call 95; (with_reducible refine (spec_l1In.calls ((rd_T166 l0_1 x4_1).f1) 1 2 true _ A10.out).mono ?_); rintro e w' ⟨rfl, ⟨nd, rfl⟩⟩; obtain ⟨hcz35_0, hcz35_1, hcz35_2⟩ := c3_ BK114; have hfz35_0 := blk_frozen BK114.out 0; have hfz35_1 := blk_frozen BK114.out 1; have hfz35_2 := blk_frozen BK114.out 2) | (go_at_call 95; (with_reducible refine (spec_l1In.calls ((rd_T166 l0_1 x4_1).f2) 0 (wrap64 (((rd_T166 l0_1 x4_1).f1) - 1)) false _ A24.out).mono ?_); rintro e w' ⟨rfl, ⟨nd, rfl⟩⟩))
         go_ret
         exact ⟨re_, up_ HB.out⟩
     ·obtain rfl := Option.some.inj H
      obtain ⟨hcz36_0, hcz36_1, hcz36_2⟩ := c3_ BK114
      have hfz36_0 := blk_frozen BK114.out 0
      have hfz36_1 := blk_frozen BK114.out 1
      have hfz36_2 := blk_frozen BK114.out 2
      have p117 : 0 ≤ (x4_1 : Int) := od_
      have q117 : x4_1 < (l0_1.length : Int) := od_
      obtain ⟨ad117, e117, hx117_0, hx117_1, hx117_2⟩ := at_T166 HR0_1.out x4_1 p117 q117
      cases e117
      replace hx117_0 := bh_ HB hx117_0
      replace hx117_1 := bh_ HB hx117_1
      replace hx117_2 := bh_ HB hx117_2
      replace p117 := eq_true p117
      replace q117 := eq_true q117
      go_wp2_with (first | ((with_reducible refine gd_ 5 ?_); (try (refine gate_guard (by rfl) ?_; dsimp only)); refine bx_ 5 #[.int .i64 0, .int .i64 0, .int .i64 0] 166 ?_; intro gb118 hg w37 hbox hb; have BK118 := Aside0.mk (hbox); have GW118 := gw_ HB hg; have GE118 := gw_ HB hg; replace HB := bs_ HB hb; have NB114_118 := Aside0.mk ((by rw [hg]; exact Nat.ne_of_lt (blk_lt (g := gb114) (o := .cells #[.int .i64 a0_0, .slice (some ad117) l0_1.length c0_1, .int .i64 a0_2] 90 (0, 0)) (up_ BK114.out)) : gb114 ≠ gb118)); have NB118_114 := Aside0.mk ((by rw [hg]; exact Nat.ne_of_gt (blk_lt (g := gb114) (o := .cells #[.int .i64 a0_0, .slice (some ad117) l0_1.length c0_1, .int .i64 a0_2] 90 (0, 0)) (up_ BK114.out)) : gb118 ≠ gb114)); replace BK114 := bb_ BK114 hb; clear hb hbox hg; have hnb38 := NB118_114.out; have hnc38 := NB114_118.out; obtain ⟨hcz39_0, hcz39_1, hcz39_2⟩ := c3_ BK118; have hfz39_0 := blk_frozen BK118.out 0; have hfz39_1 := blk_frozen BK118.out 1; have hfz39_2 := blk_frozen BK118.out 2) | (go_at_call 95; (with_reducible refine (spec_l1In.calls ((rd_T166 l0_1 x4_1).f1) 1 2 false _ A10.out).mono ?_); rintro e w' ⟨rfl, ⟨nd, rfl⟩⟩))
      go_ret
      exact ⟨re_, up_ HB.out⟩
   ·replace H := bnd_ H; obtain ⟨t115, A40, H⟩ := H
    replace H := itb_ H; rcases H with ⟨rfl, H⟩ | ⟨rfl, H⟩
    ·replace H := bnd_ H; obtain ⟨t116, A42, H⟩ := H
     obtain rfl := Option.some.inj H
     obtain ⟨hcz43_0, hcz43_1, hcz43_2⟩ := c3_ BK114
     have hfz43_0 := blk_frozen BK114.out 0
     have hfz43_1 := blk_frozen BK114.out 1
     have hfz43_2 := blk_frozen BK114.out 2
     go_wp2_with (first | ((with_reducible refine gc_ 95 ?_); refine gq_ (some 61) Try.func95 (spec_l1In.calls a0_0 1 6 true _ A40.out) (fun nd => ?_)) | (go_at_call 95; (with_reducible refine (spec_l1In.calls a0_2 0 (wrap64 ((l0_1.length : Int) - 1)) t116 _ A42.out).mono ?_); rintro e w' ⟨rfl, ⟨nd, rfl⟩⟩))
     go_ret
     exact ⟨re_, up_ HB.out⟩
    ·obtain rfl := Option.some.inj H
     obtain ⟨hcz44_0, hcz44_1, hcz44_2⟩ := c3_ BK114
     have hfz44_0 := blk_frozen BK114.out 0
     have hfz44_1 := blk_frozen BK114.out 1
     have hfz44_2 := blk_frozen BK114.out 2
     go_wp2_with (first | ((with_reducible refine gc_ 95 ?_); refine gq_ (some 61) Try.func95 (spec_l1In.calls a0_0 1 6 false _ A40.out) (fun nd => ?_)))
     go_ret
     exact ⟨re_, up_ HB.out⟩

/-! ### spec_l5Same: function 120 -/
def spec_l5Same.l0 : Nat → List Int → List Int → Int → Option (Bool)
 | 0, _, _, _ => none
 | k + 1, x0, x1, x5 => if x5 < (x0.length : Int) then (if 0 ≤ x5 then (if x5 < (x1.length : Int) then (if (rd x0 x5) = (rd x1 x5) then (spec_l5Same.l0 k x0 x1 (wrap64 (x5 + 1))) else (some false)) else (none)) else (none)) else (some true)
def spec_l5Same.f (k : Nat) (l0 : List Int) (l1 : List Int) : Option (Bool) := if (l0.length : Int) = (l1.length : Int) then (spec_l5Same.l0 k l0 l1 0) else (some false)
set_option maxHeartbeats 8000000 in
set_option maxRecDepth 100000 in
theorem spec_l5Same.calls (k : Nat) (A0 : Option Addr) (c0 : Nat) (l0 : List Int) (A1 : Option Addr) (c1 : Nat) (l1 : List Int) (r : Bool) (w : World) (hr0 : Kd.C (Kd.int .i64) w A0 l0.length l0) (hc0 : l0.length ≤ c0) (hr1 : Kd.C (Kd.int .i64) w A1 l1.length l1) (hc1 : l1.length ≤ c1) (h : spec_l5Same.f k l0 l1 = some r) :
  Calls Try.prog 120 #[.slice A0 l0.length c0, .slice A1 l1.length c1] w fun e w' => e = .returned (.bool r) ∧ Drawn0 w w' := by
 have HR0 := Aside0.mk hr0
 have HC0 := Aside0.mk hc0
 clear hr0 hc0
 have HR1 := Aside0.mk hr1
 have HC1 := Aside0.mk hc1
 clear hr1 hc1
 have H : (if (l0.length : Int) = (l1.length : Int) then (spec_l5Same.l0 k l0 l1 0) else (some false)) = some r := h
 clear h
 replace H := ieq_ H; rcases H with ⟨c3, c3b0, c3b1, H⟩ | ⟨c3, c3b0, c3b1, H⟩
 ·have c3b2 : (l0.length == l1.length) = true := by first | simpa using c3 | (simp at c3 ⊢; omega)
  clear c3
  have H' := Aside0.mk H
  clear H
  go_enter Try.func120, Try.ntmps120
  go_wp2
  repeat (go_quiet (fail); try go_wp2)
  go_loopg [5] k (fun kq v5 w' => ∃ (x5_1 : Int), v5 = .int .i64 x5_1 ∧ Aside0 (spec_l5Same.l0 kq l0 l1 x5_1 = some r) ∧ Aside0 (kq ≤ k) ∧ Drawn0 w w')
  case atStart => exact ⟨(0), rs_, H', ⟨Nat.le_refl _⟩, dn_⟩
  case round =>
   clear H'
   try clear c1
   try clear p2
   try clear c3
   try clear c3b0
   try clear c3b1
   try clear c3b2
   obtain ⟨x5_1, rfl, HA, HK1, ⟨m1, rfl⟩⟩ := hrel
   cases gk with
   | zero => exact absurd HA.out (by simp [spec_l5Same.l0])
   | succ k1 =>
    have H := HA.out
    clear HA
    simp only [spec_l5Same.l0] at H
    replace H := its_ H; rcases H with ⟨c4b0, H⟩ | ⟨c4b0, H⟩
    ·replace H := its_ H; rcases H with ⟨c5b0, H⟩ | ⟨_, ⟨⟩⟩
     replace H := its_ H; rcases H with ⟨c6b0, H⟩ | ⟨_, ⟨⟩⟩
     replace H := ieq_ H; rcases H with ⟨-, c7b0, c7b1, H⟩ | ⟨c7, c7b0, c7b1, H⟩
     ·have H' := Aside0.mk H
      clear H
      have p121 : 0 ≤ (x5_1 : Int) := od_
      have q121 : x5_1 < (l0.length : Int) := od_
      obtain ⟨ad121, e121, hx121_0⟩ := Kd.at_int HR0.out x5_1 p121 q121
      cases e121
      replace p121 := eq_true p121
      replace q121 := eq_true q121
      have p122 : 0 ≤ (x5_1 : Int) := od_
      have q122 : x5_1 < (l1.length : Int) := od_
      obtain ⟨ad122, e122, hx122_0⟩ := Kd.at_int HR1.out x5_1 p122 q122
      cases e122
      replace p122 := eq_true p122
      replace q122 := eq_true q122
      go_wp2
      repeat (go_quiet (fail); try go_wp2)
      go_roundg k1
      case measure => have := HK1.out; omega
      case rel => exact ⟨(wrap64 (x5_1 + 1)), rs_, H', ⟨by have := HK1.out; omega⟩, dn_⟩
     ·obtain rfl := Option.some.inj H
      have p121 : 0 ≤ (x5_1 : Int) := od_
      have q121 : x5_1 < (l0.length : Int) := od_
      obtain ⟨ad121, e121, hx121_0⟩ := Kd.at_int HR0.out x5_1 p121 q121
      cases e121
      replace p121 := eq_true p121
      replace q121 := eq_true q121
      have p122 : 0 ≤ (x5_1 : Int) := od_
      have q122 : x5_1 < (l1.length : Int) := od_
      obtain ⟨ad122, e122, hx122_0⟩ := Kd.at_int HR1.out x5_1 p122 q122
      cases e122
      replace p122 := eq_true p122
      replace q122 := eq_true q122
      go_wp2
      repeat (go_quiet (fail); try go_wp2)
      go_ret
      exact ⟨rs_, dn_⟩
    ·obtain rfl := Option.some.inj H
     go_wp2
     repeat (go_quiet (fail); try go_wp2)
     go_ret
     exact ⟨rs_, dn_⟩
 ·have c3b2 : (l0.length == l1.length) = false := by first | simpa using c3 | (simp at c3 ⊢; omega)
  obtain rfl := Option.some.inj H
  go_enter Try.func120, Try.ntmps120
  go_wp2
  repeat (go_quiet (fail); try go_wp2)
  go_ret
  exact ⟨rs_, dn_⟩

end Go.Proofs.Ytkddpilambnicaa.PFnExactFootRows
