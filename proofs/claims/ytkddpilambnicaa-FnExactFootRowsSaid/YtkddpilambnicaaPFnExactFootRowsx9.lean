/- Walks of Go functions that the law FnExactFootRows uses: written by this session's program out of the kit's printer; each shows that a call comes to the answers of the Lean function beside it. Conditions: each contract's own. -/
import Derived.Test.YtkddpilambnicaaPFnExactFootRowsx0
namespace Go.Proofs.Ytkddpilambnicaa.PFnExactFootRows
open Go.RowKit Go.Proofs.YtkddpilambnicaaW.PrintWords Go.Proofs.YtkddpilambnicaaW.PrintLast Go.Proofs.YtkddpilambnicaaW.PrintMore Go.Proofs.Ytkddpilambnicaa.Mac Go.Proofs.Ytkddpilambnicaa.Law
attribute [local go_sem] max2_int min2_int max_two min_two max_three min_three max_four min_four   -- for this text's walks alone
set_option linter.unusedVariables false
set_option linter.unusedSimpArgs false

/-! ### laws_toIntS: function 66 -/
def laws_toIntS.l0 : Nat → List Int → List Int → Int → Option (List Int)
 | 0, _, _, _ => none
 | k + 1, x0, x3, x4 => if x4 < (x0.length : Int) then (if 0 ≤ x4 then (if x4 < (x3.length : Int) then (laws_toIntS.l0 k x0 (x3.set (x4 : Int).toNat (rd x0 x4)) (wrap64 (x4 + 1))) else (none)) else (none)) else (some x3)
def laws_toIntS.f (k : Nat) (l0 : List Int) : Option (List Int) := if 0 ≤ (l0.length : Int) then (if ((l0.length : Int) : Int).toNat ≤ 35184372088832 then (laws_toIntS.l0 k l0 (List.replicate ((l0.length : Int) : Int).toNat 0) 0) else (none)) else (none)
theorem laws_toIntS.mono_l : ∀ k, (∀ y0 y1 y2, LeO (laws_toIntS.l0 k y0 y1 y2) (laws_toIntS.l0 (k + 1) y0 y1 y2))
 | 0 => fun _ _ _ r h => by simp [laws_toIntS.l0] at h
 | k + 1 => by
  have ih0 := laws_toIntS.mono_l k
  ·intro y0 y1 y2
   unfold laws_toIntS.l0
   exact mn_
set_option maxHeartbeats 8000000 in
set_option maxRecDepth 100000 in
theorem laws_toIntS.calls (k : Nat) (A0 : Option Addr) (c0 : Nat) (l0 : List Int) (r : List Int) (w : World) (hr0 : Kd.C (Kd.int .i64) w A0 l0.length l0) (hc0 : l0.length ≤ c0) (h : laws_toIntS.f k l0 = some r) :
  Calls Try.prog 66 #[.slice A0 l0.length c0] w fun e w' => ∃ v0_ : Value, e = .returned (v0_) ∧ Kd.R (Kd.int .i64) 3 w' w.heap.size (fun _ => True) v0_ r ∧ Below w.heap.size w w' := by
 have HR0 := Aside0.mk hr0
 have HC0 := Aside0.mk hc0
 clear hr0 hc0
 have HB := Aside0.mk (Below.refl w.heap.size w)
 have H : (if 0 ≤ (l0.length : Int) then (if ((l0.length : Int) : Int).toNat ≤ 35184372088832 then (laws_toIntS.l0 k l0 (List.replicate ((l0.length : Int) : Int).toNat 0) 0) else (none)) else (none)) = some r := h
 clear h
 by_cases c2 : 0 ≤ (l0.length : Int)
 ·rw [if_pos c2] at H
  have c2b0 := eq_true c2
  have c2b1 : decide (0 ≤ (l0.length : Int)) = true := decide_eq_true c2
  clear c2
  by_cases c3 : ((l0.length : Int) : Int).toNat ≤ 35184372088832
  ·rw [if_pos c3] at H
   have c3b0 := eq_true c3
   have c3b1 : decide (((l0.length : Int) : Int).toNat ≤ 35184372088832) = true := decide_eq_true c3
   clear c3
   obtain ⟨y271, hy271⟩ : ∃ y_ : List Int, y_ = (List.replicate ((l0.length : Int) : Int).toNat 0) := ⟨_, rfl⟩
   replace H : (laws_toIntS.l0 k l0 y271 0) = some r := rh_ hy271 H
   have Ny271 := Aside0.mk hy271
   clear hy271
   have H' := Aside0.mk H
   clear H
   go_enter Try.func66, Try.ntmps66
   go_wp2_with (first | ((with_reducible refine gd_ 7 ?_); refine Kd.R_make (Kd.int .i64) _ 3 rfl (N := 7) rfl 25 _ _ rfl (l0.length : Int) rfl rfl Try.underlying25 (.int .i64 0) 8 info3 rfl (by decide) (by omega) 0 (ok := fun _ => True) (okp := fun _ => True) rfl (fun _ hk => hk) trivial (od_) (Nat.le_trans (Nat.mul_le_mul_right _ (od_ : (l0.length : Int).toNat ≤ 35184372088832)) (by omega)) (Below.refl _ _) (Nat.le_refl _) ?_; intro v272 w4 ho5 hb hg_ hnew_; clear hg_ hnew_; (first | rw [← Ny271.out] at ho5 | (simp only [Int.reduceToNat] at ho5; rw [← Ny271.out] at ho5)); have HO273 := Aside0.mk (Kd.R_lower ho5 (below_size (up_ HB.out))); replace HB := bs_ HB hb; clear hb ho5))
   go_loopg [4] k (fun kq v4 w' => ∃ (x3_1 : List Int) (x4_1 : Int), v4 = .int .i64 x4_1 ∧ Aside0 (laws_toIntS.l0 kq l0 x3_1 x4_1 = some r) ∧ Aside0 (kq ≤ k) ∧ Aside0 (Kd.R (Kd.int .i64) 3 w' w.heap.size (fun _ => True) v272 x3_1) ∧ Aside0 (Below w.heap.size w w'))
   case atStart => exact ⟨(y271), (0), rs_, H', ⟨Nat.le_refl _⟩, ⟨up_ HO273.out⟩, ⟨up_ HB.out⟩⟩
   case round =>
    clear H'
    try clear c2
    try clear c2b0
    try clear c2b1
    try clear p2
    try clear c3
    try clear c3b0
    try clear c3b1
    obtain ⟨x3_1, x4_1, rfl, HA, HK1, HO_3, HB⟩ := hrel
    cases gk with
    | zero => exact absurd HA.out (by simp [laws_toIntS.l0])
    | succ k1 =>
     have H := HA.out
     clear HA
     simp only [laws_toIntS.l0] at H
     replace H := its_ H; rcases H with ⟨c6b0, H⟩ | ⟨c6b0, H⟩
     ·replace H := its_ H; rcases H with ⟨c7b0, H⟩ | ⟨_, ⟨⟩⟩
      replace H := its_ H; rcases H with ⟨c8b0, H⟩ | ⟨_, ⟨⟩⟩
      obtain ⟨y275, hy275⟩ : ∃ y_ : List Int, y_ = (x3_1.set (x4_1 : Int).toNat (rd l0 x4_1)) := ⟨_, rfl⟩
      replace H : (laws_toIntS.l0 k1 l0 y275 (wrap64 (x4_1 + 1))) = some r := rh_ hy275 H
      have Ny275 := Aside0.mk hy275
      clear hy275
      have H' := Aside0.mk H
      clear H
      have p274 : 0 ≤ (x4_1 : Int) := od_
      have q274 : x4_1 < (l0.length : Int) := od_
      obtain ⟨ad274, e274, hx274_0⟩ := Kd.at_int HR0.out x4_1 p274 q274
      cases e274
      replace hx274_0 := bh_ HB hx274_0
      replace p274 := eq_true p274
      replace q274 := eq_true q274
      have p9 : 0 ≤ (x4_1 : Int) := od_
      have q9 : (x4_1 : Int) < ((x3_1.length : Int) : Int) := od_
      obtain ⟨go9, co9, eo9, gb9, gl9, cl9, HG9⟩ := Kd.R_form HO_3.out (by omega)
      (first | cases eo9 | (injection eo9 with ea_ en_ ec_; (first | subst ea_ | (injection ea_ with ea_; subst ea_)); subst ec_; clear en_))
      have GB9 := Aside0.mk gb9
      have GG9 := Aside0.mk HG9
      clear gb9 gl9 HG9
      obtain ⟨hx9_0, hf9_0⟩ := Kd.R_celln 0 HO_3.out (x4_1 : Int) p9 q9
      replace p9 := eq_true p9
      replace q9 := eq_true q9
      have HP10 := Kd.R_putg HO_3.out (x4_1 : Int) (rd l0 x4_1)
      go_wp2_with (first | ((with_reducible refine gate_store (t := 3) (p := 20) rfl ?_); refine store_event (t := 3) (p := 20) (v := ?vo_w11) (w1 := (wr.setCell ⟨go9, (x4_1 : Int).toNat, none⟩ (.int .i64 (rd l0 x4_1)))) ?hg ?ho ?hn ?hr ?_; (case ho => rfl); (case hg => rfl); (case hn => rfl); (case hr => first | (go_simp; done) | (go_simp; rfl)); intro w11 hw; have hg : wr.grownBy w11 (some go9) := (by rw [hw]; exact HP10.2); have hp_ : Kd.R (Kd.int .i64) 3 w11 w.heap.size (fun _ => True) (.slice (some ⟨go9, 0, none⟩) x3_1.length co9) y275 := (by rw [hw, Ny275.out]; exact HP10.1); clear HP10; replace HO_3 := Aside0.mk (hp_); replace HB := Aside0.mk ((by rw [hw]; exact below_set (HB.out) GB9.out : Below w.heap.size w w11)); clear hg hw hp_))
      go_roundg k1
      case measure => have := HK1.out; omega
      case rel => exact ⟨(y275), (wrap64 (x4_1 + 1)), rs_, H', ⟨by have := HK1.out; omega⟩, ⟨up_ HO_3.out⟩, ⟨up_ HB.out⟩⟩
     ·obtain rfl := Option.some.inj H
      go_wp2
      go_ret
      exact ⟨_, re_, by (with_reducible repeat (first | apply Kd.R_alloc | apply Kd.R_drewN | apply Kd.R_drew)); exact HO_3.out, up_ HB.out⟩
  ·rw [if_neg c3] at H
   exact absurd H (by simp)
 ·rw [if_neg c2] at H
  exact absurd H (by simp)

/-! ### laws_toWord: function 57 -/
def laws_toWord.f (k : Nat) (l0_0 : List Int) : Option (List Int) := (laws_toIntS.f k l0_0).bind fun t279 => (some t279)
set_option maxHeartbeats 8000000 in
set_option maxRecDepth 100000 in
theorem laws_toWord.calls (k : Nat) (A0_0 : Option Addr) (c0_0 : Nat) (l0_0 : List Int) (r : List Int) (w : World) (hr0_0 : Kd.C (Kd.int .i64) w A0_0 l0_0.length l0_0) (hc0_0 : l0_0.length ≤ c0_0) (h : laws_toWord.f k l0_0 = some r) :
  Calls Try.prog 57 #[.agg #[.slice A0_0 l0_0.length c0_0]] w fun e w' => ∃ v0_ : Value, e = .returned (.agg #[v0_]) ∧ Kd.R (Kd.int .i64) 3 w' w.heap.size (fun _ => True) v0_ r ∧ Below w.heap.size w w' := by
 have hu78 := Try.underlying78
 have hu86 := Try.underlying86
 have HR0_0 := Aside0.mk hr0_0
 have HC0_0 := Aside0.mk hc0_0
 clear hr0_0 hc0_0
 have HB := Aside0.mk (Below.refl w.heap.size w)
 have H : ((laws_toIntS.f k l0_0).bind fun t279 => (some t279)) = some r := h
 clear h
 replace H := bnd_ H; obtain ⟨t279, A2, H⟩ := H
 obtain rfl := Option.some.inj H
 go_enter Try.func57, Try.ntmps57
 go_wp2_with (first | ((with_reducible refine gd_ 1 ?_); refine bx_ 1 #[.slice A0_0 l0_0.length c0_0] 78 ?_; intro gb276 hg w3 hbox hb; have BK276 := Aside0.mk (hbox); have GW276 := gw_ HB hg; have GE276 := gw_ HB hg; replace HB := bs_ HB hb; clear hb hbox hg) | ((with_reducible refine gd_ 2 ?_); refine bx_ 2 #[.slice none 0 0] 86 ?_; intro gb277 hg w4 hbox hb; have BK277 := Aside0.mk (hbox); have GW277 := gw_ HB hg; have GE277 := gw_ HB hg; replace HB := bs_ HB hb; have NB276_277 := Aside0.mk ((by rw [hg]; exact Nat.ne_of_lt (blk_lt (g := gb276) (o := .cells #[.slice A0_0 l0_0.length c0_0] 78 (0, 0)) (up_ BK276.out)) : gb276 ≠ gb277)); have NB277_276 := Aside0.mk ((by rw [hg]; exact Nat.ne_of_gt (blk_lt (g := gb276) (o := .cells #[.slice A0_0 l0_0.length c0_0] 78 (0, 0)) (up_ BK276.out)) : gb277 ≠ gb276)); replace BK276 := bb_ BK276 hb; clear hb hbox hg) | ((with_reducible refine gd_ 3 ?_); refine bx_ 3 #[.slice none 0 0] 86 ?_; intro gb278 hg w5 hbox hb; have BK278 := Aside0.mk (hbox); have GW278 := gw_ HB hg; have GE278 := gw_ HB hg; replace HB := bs_ HB hb; have NB276_278 := Aside0.mk ((by rw [hg]; exact Nat.ne_of_lt (blk_lt (g := gb276) (o := .cells #[.slice A0_0 l0_0.length c0_0] 78 (0, 0)) (up_ BK276.out)) : gb276 ≠ gb278)); have NB278_276 := Aside0.mk ((by rw [hg]; exact Nat.ne_of_gt (blk_lt (g := gb276) (o := .cells #[.slice A0_0 l0_0.length c0_0] 78 (0, 0)) (up_ BK276.out)) : gb278 ≠ gb276)); replace BK276 := bb_ BK276 hb; have NB277_278 := Aside0.mk ((by rw [hg]; exact Nat.ne_of_lt (blk_lt (g := gb277) (o := .cells #[.slice none 0 0] 86 (0, 0)) (up_ BK277.out)) : gb277 ≠ gb278)); have NB278_277 := Aside0.mk ((by rw [hg]; exact Nat.ne_of_gt (blk_lt (g := gb277) (o := .cells #[.slice none 0 0] 86 (0, 0)) (up_ BK277.out)) : gb278 ≠ gb277)); replace BK277 := bb_ BK277 hb; clear hb hbox hg; have hnb6 := NB276_277.out; have hnc6 := NB277_276.out; have hnb7 := NB276_278.out; have hnc7 := NB278_276.out; have hcz8_0 := c1_ BK276; have hfz8_0 := blk_frozen BK276.out 0) | ((with_reducible refine gc_ 66 ?_); refine gl_ (some 6) Try.func66 (laws_toIntS.calls k _ _ l0_0 t279 _ (Kd.C_below HR0_0.out (up_ HB.out)) HC0_0.out A2.out) ?_; rintro e w9 ⟨v280, rfl, ho0, hb⟩; refine ⟨_, rfl, ?_⟩; have HO281 := Aside0.mk (Kd.R_lower ho0 (below_size (up_ HB.out))); replace BK276 := bb_ BK276 hb; replace BK277 := bb_ BK277 hb; replace BK278 := bb_ BK278 hb; replace HB := bs_ HB hb; (try clear hb); (try clear hb2); (try clear hk); (try clear hi); (try clear ho0); obtain ⟨Ao10, co10, eo10⟩ := Kd.R_slice HO281.out; subst eo10; have hnb11 := NB278_277.out; have hnc11 := NB277_278.out; have hcz12_0 := c1_ BK278; have hfz12_0 := blk_frozen BK278.out 0; have hcz13_0 := c1_ BK277; have hfz13_0 := blk_frozen BK277.out 0))
 refine bodyPost_ret (results_cell_row rfl _ _ gb277 86 #[.slice Ao10 t279.length co10] (0, 0) _ rfl (by (with_reducible repeat (first | refine blk_drewN ?_ _ | refine blk_drew ?_ | refine blk_alloc ?_ _)); refine blk_put (cs := #[.slice none 0 0]) ?_ 0 _ rfl; (with_reducible repeat (first | refine blk_drewN ?_ _ | refine blk_drew ?_ | refine blk_alloc ?_ _)); refine blk_far ?_ NB277_278.out _; (with_reducible repeat (first | refine blk_drewN ?_ _ | refine blk_drew ?_ | refine blk_alloc ?_ _)); exact BK277.out) Try.underlying86 rfl (by kernel_rfl)) rfl ?_
 exact ⟨_, re_, by (with_reducible repeat (first | apply Kd.R_alloc | apply Kd.R_drewN | apply Kd.R_drew)); exact Kd.R_mono (Kd.R_far (p := ⟨gb277, 0, none⟩) (Kd.R_far (p := ⟨gb278, 0, none⟩) (Kd.R_types (Kd.R_types HO281.out BK278.out (by decide)) BK277.out (by decide)) (fun _ hk => hk.1.2) (.slice Ao10 t279.length co10)) (fun _ hk => hk.2) (.slice Ao10 t279.length co10)) (fun _ hk => trivial), up_ HB.out⟩

/-! ### laws_toFoot: function 174 -/
def laws_toFoot.f (a0_0 : Int) (a0_1 : Int) (a0_2 : Int) : Option (Int × Int × Int) := some (a0_0, a0_1, a0_2)
set_option maxHeartbeats 8000000 in
set_option maxRecDepth 100000 in
theorem laws_toFoot.calls (a0_0 : Int) (a0_1 : Int) (a0_2 : Int) (r1 : Int) (r2 : Int) (r3 : Int) (w : World) (h : laws_toFoot.f a0_0 a0_1 a0_2 = some (r1, r2, r3)) :
  Calls Try.prog 174 #[.agg #[.int .i64 a0_0, .int .i64 a0_1, .int .i64 a0_2]] w fun e w' => e = .returned (.agg #[.int .i64 r1, .int .i64 r2, .int .i64 r3]) ∧ Below w.heap.size w w' := by
 have hu170 := Try.underlying170
 have hu166 := Try.underlying166
 have HB := Aside0.mk (Below.refl w.heap.size w)
 have H : (some (a0_0, a0_1, a0_2)) = some (r1, r2, r3) := h
 clear h
 simp only [Option.some.injEq, Prod.mk.injEq] at H
 obtain ⟨rfl, rfl, rfl⟩ := H
 go_enter Try.func174, Try.ntmps174
 go_wp2_with (first | ((with_reducible refine gd_ 1 ?_); refine bx_ 1 #[.int .i64 a0_0, .int .i64 a0_1, .int .i64 a0_2] 170 ?_; intro gb282 hg w2 hbox hb; have BK282 := Aside0.mk (hbox); have GW282 := gw_ HB hg; have GE282 := gw_ HB hg; replace HB := bs_ HB hb; clear hb hbox hg) | ((with_reducible refine gd_ 2 ?_); refine bx_ 2 #[.int .i64 0, .int .i64 0, .int .i64 0] 166 ?_; intro gb283 hg w3 hbox hb; have BK283 := Aside0.mk (hbox); have GW283 := gw_ HB hg; have GE283 := gw_ HB hg; replace HB := bs_ HB hb; have NB282_283 := Aside0.mk ((by rw [hg]; exact Nat.ne_of_lt (blk_lt (g := gb282) (o := .cells #[.int .i64 a0_0, .int .i64 a0_1, .int .i64 a0_2] 170 (0, 0)) (up_ BK282.out)) : gb282 ≠ gb283)); have NB283_282 := Aside0.mk ((by rw [hg]; exact Nat.ne_of_gt (blk_lt (g := gb282) (o := .cells #[.int .i64 a0_0, .int .i64 a0_1, .int .i64 a0_2] 170 (0, 0)) (up_ BK282.out)) : gb283 ≠ gb282)); replace BK282 := bb_ BK282 hb; clear hb hbox hg) | ((with_reducible refine gd_ 3 ?_); refine bx_ 3 #[.int .i64 0, .int .i64 0, .int .i64 0] 166 ?_; intro gb284 hg w4 hbox hb; have BK284 := Aside0.mk (hbox); have GW284 := gw_ HB hg; have GE284 := gw_ HB hg; replace HB := bs_ HB hb; have NB282_284 := Aside0.mk ((by rw [hg]; exact Nat.ne_of_lt (blk_lt (g := gb282) (o := .cells #[.int .i64 a0_0, .int .i64 a0_1, .int .i64 a0_2] 170 (0, 0)) (up_ BK282.out)) : gb282 ≠ gb284)); have NB284_282 := Aside0.mk ((by rw [hg]; exact Nat.ne_of_gt (blk_lt (g := gb282) (o := .cells #[.int .i64 a0_0, .int .i64 a0_1, .int .i64 a0_2] 170 (0, 0)) (up_ BK282.out)) : gb284 ≠ gb282)); replace BK282 := bb_ BK282 hb; have NB283_284 := Aside0.mk ((by rw [hg]; exact Nat.ne_of_lt (blk_lt (g := gb283) (o := .cells #[.int .i64 0, .int .i64 0, .int .i64 0] 166 (0, 0)) (up_ BK283.out)) : gb283 ≠ gb284)); have NB284_283 := Aside0.mk ((by rw [hg]; exact Nat.ne_of_gt (blk_lt (g := gb283) (o := .cells #[.int .i64 0, .int .i64 0, .int .i64 0] 166 (0, 0)) (up_ BK283.out)) : gb284 ≠ gb283)); replace BK283 := bb_ BK283 hb; clear hb hbox hg; have hnb5 := NB282_283.out; have hnc5 := NB283_282.out; have hnb6 := NB282_284.out; have hnc6 := NB284_282.out; obtain ⟨hcz7_0, hcz7_1, hcz7_2⟩ := c3_ BK282; have hfz7_0 := blk_frozen BK282.out 0; have hfz7_1 := blk_frozen BK282.out 1; have hfz7_2 := blk_frozen BK282.out 2; have hnb8 := NB284_283.out; have hnc8 := NB283_284.out; obtain ⟨hcz9_0, hcz9_1, hcz9_2⟩ := c3_ BK284; have hfz9_0 := blk_frozen BK284.out 0; have hfz9_1 := blk_frozen BK284.out 1; have hfz9_2 := blk_frozen BK284.out 2; obtain ⟨hcz10_0, hcz10_1, hcz10_2⟩ := c3_ BK283; have hfz10_0 := blk_frozen BK283.out 0; have hfz10_1 := blk_frozen BK283.out 1; have hfz10_2 := blk_frozen BK283.out 2))
 refine bodyPost_ret (results_cell_row rfl _ _ gb283 166 #[.int .i64 a0_0, .int .i64 a0_1, .int .i64 a0_2] (0, 0) _ rfl (by (with_reducible repeat (first | refine blk_drewN ?_ _ | refine blk_drew ?_ | refine blk_alloc ?_ _)); refine blk_put (cs := #[.int .i64 a0_0, .int .i64 a0_1, .int .i64 0]) ?_ 2 _ rfl; (with_reducible repeat (first | refine blk_drewN ?_ _ | refine blk_drew ?_ | refine blk_alloc ?_ _)); refine blk_put (cs := #[.int .i64 a0_0, .int .i64 0, .int .i64 0]) ?_ 1 _ rfl; (with_reducible repeat (first | refine blk_drewN ?_ _ | refine blk_drew ?_ | refine blk_alloc ?_ _)); refine blk_put (cs := #[.int .i64 0, .int .i64 0, .int .i64 0]) ?_ 0 _ rfl; (with_reducible repeat (first | refine blk_drewN ?_ _ | refine blk_drew ?_ | refine blk_alloc ?_ _)); refine blk_far ?_ NB283_284.out _; (with_reducible repeat (first | refine blk_drewN ?_ _ | refine blk_drew ?_ | refine blk_alloc ?_ _)); refine blk_far ?_ NB283_284.out _; (with_reducible repeat (first | refine blk_drewN ?_ _ | refine blk_drew ?_ | refine blk_alloc ?_ _)); refine blk_far ?_ NB283_284.out _; (with_reducible repeat (first | refine blk_drewN ?_ _ | refine blk_drew ?_ | refine blk_alloc ?_ _)); exact BK283.out) Try.underlying166 rfl (by kernel_rfl)) rfl ?_
 exact ⟨re_, up_ HB.out⟩

/-! ### laws_toFootS: function 127 -/
def laws_toFootS.l0 : Nat → List (S170) → List (S166) → Int → Option ((List (S166)))
 | 0, _, _, _ => none
 | k + 1, x0, x3, x4 => if x4 < (x0.length : Int) then (if 0 ≤ x4 then ((laws_toFoot.f ((rd_T170 x0 x4).f0) ((rd_T170 x0 x4).f1) ((rd_T170 x0 x4).f2)).bind fun bt289 => (if x4 < (x3.length : Int) then (laws_toFootS.l0 k x0 (x3.set (x4 : Int).toNat (⟨bt289.1, bt289.2.1, bt289.2.2⟩ : S166)) (wrap64 (x4 + 1))) else (none))) else (none)) else (some x3)
def laws_toFootS.f (k : Nat) (l0 : List (S170)) : Option ((List (S166))) := if 0 ≤ (l0.length : Int) then (if ((l0.length : Int) : Int).toNat ≤ 11728124029610 then (laws_toFootS.l0 k l0 (List.replicate ((l0.length : Int) : Int).toNat z166) 0) else (none)) else (none)
set_option maxHeartbeats 8000000 in
set_option maxRecDepth 100000 in
theorem laws_toFootS.calls (k : Nat) (A0 : Option Addr) (c0 : Nat) (l0 : List (S170)) (r : List (S166)) (w : World) (hr0 : Kd.C k170 w A0 l0.length l0) (hc0 : l0.length ≤ c0) (h : laws_toFootS.f k l0 = some r) :
  Calls Try.prog 127 #[.slice A0 l0.length c0] w fun e w' => ∃ v0_ : Value, e = .returned (v0_) ∧ Kd.R k166 166 w' w.heap.size (fun _ => True) v0_ r ∧ Below w.heap.size w w' := by
 have hu170 := Try.underlying170
 have hu166 := Try.underlying166
 have HR0 := Aside0.mk hr0
 have HC0 := Aside0.mk hc0
 clear hr0 hc0
 have HB := Aside0.mk (Below.refl w.heap.size w)
 have H : (if 0 ≤ (l0.length : Int) then (if ((l0.length : Int) : Int).toNat ≤ 11728124029610 then (laws_toFootS.l0 k l0 (List.replicate ((l0.length : Int) : Int).toNat z166) 0) else (none)) else (none)) = some r := h
 clear h
 by_cases c2 : 0 ≤ (l0.length : Int)
 ·rw [if_pos c2] at H
  have c2b0 := eq_true c2
  have c2b1 : decide (0 ≤ (l0.length : Int)) = true := decide_eq_true c2
  clear c2
  by_cases c3 : ((l0.length : Int) : Int).toNat ≤ 11728124029610
  ·rw [if_pos c3] at H
   have c3b0 := eq_true c3
   have c3b1 : decide (((l0.length : Int) : Int).toNat ≤ 11728124029610) = true := decide_eq_true c3
   clear c3
   obtain ⟨y285, hy285⟩ : ∃ y_ : List (S166), y_ = (List.replicate ((l0.length : Int) : Int).toNat z166) := ⟨_, rfl⟩
   replace H : (laws_toFootS.l0 k l0 y285 0) = some r := rh_ hy285 H
   have Ny285 := Aside0.mk hy285
   clear hy285
   have H' := Aside0.mk H
   clear H
   go_enter Try.func127, Try.ntmps127
   go_wp2_with (first | ((with_reducible refine gd_ 7 ?_); refine Kd.R_make k166 _ 166 rfl (N := 7) rfl 88 _ _ rfl (l0.length : Int) rfl rfl Try.underlying88 (.agg #[(.int .i64 0), (.int .i64 0), (.int .i64 0)]) 24 info166 rfl (by decide) (by omega) z166 (ok := fun _ => True) (okp := fun _ => True) (k166_mkM _ _ _ z166 ) (fun _ hk => hk) trivial (od_) (Nat.le_trans (Nat.mul_le_mul_right _ (od_ : (l0.length : Int).toNat ≤ 11728124029610)) (by omega)) (Below.refl _ _) (Nat.le_refl _) ?_; intro v286 w4 ho5 hb hg_ hnew_; clear hg_ hnew_; (first | rw [← Ny285.out] at ho5 | (simp only [Int.reduceToNat] at ho5; rw [← Ny285.out] at ho5)); have HO287 := Aside0.mk (Kd.R_lower ho5 (below_size (up_ HB.out))); replace HB := bs_ HB hb; clear hb ho5))
   go_loopg [4] k (fun kq v4 w' => ∃ (x3_1 : List (S166)) (x4_1 : Int), v4 = .int .i64 x4_1 ∧ Aside0 (laws_toFootS.l0 kq l0 x3_1 x4_1 = some r) ∧ Aside0 (kq ≤ k) ∧ Aside0 (Kd.R k166 166 w' w.heap.size (fun _ => True) v286 x3_1) ∧ Aside0 (Below w.heap.size w w'))
   case atStart => exact ⟨(y285), (0), rs_, H', ⟨Nat.le_refl _⟩, ⟨up_ HO287.out⟩, ⟨up_ HB.out⟩⟩
   case round =>
    clear H'
    try clear c1
    try clear c2
    try clear c2b0
    try clear c2b1
    try clear p2
    try clear c3
    try clear c3b0
    try clear c3b1
    obtain ⟨x3_1, x4_1, rfl, HA, HK1, HO_3, HB⟩ := hrel
    cases gk with
    | zero => exact absurd HA.out (by simp [laws_toFootS.l0])
    | succ k1 =>
     have H := HA.out
     clear HA
     simp only [laws_toFootS.l0] at H
     replace H := its_ H; rcases H with ⟨c6b0, H⟩ | ⟨c6b0, H⟩
     ·replace H := its_ H; rcases H with ⟨c7b0, H⟩ | ⟨_, ⟨⟩⟩
      replace H := Option.bind_eq_some_iff.mp H
      obtain ⟨⟨t289, t290, t291⟩, A80, H⟩ := H
      replace H : (if x4_1 < (x3_1.length : Int) then (laws_toFootS.l0 k1 l0 (x3_1.set (x4_1 : Int).toNat (⟨t289, t290, t291⟩ : S166)) (wrap64 (x4_1 + 1))) else (none)) = some r := H
      have A8 := Aside0.mk A80
      clear A80
      replace H := its_ H; rcases H with ⟨c9b0, H⟩ | ⟨_, ⟨⟩⟩
      obtain ⟨y292, hy292⟩ : ∃ y_ : List (S166), y_ = (x3_1.set (x4_1 : Int).toNat (⟨t289, t290, t291⟩ : S166)) := ⟨_, rfl⟩
      replace H : (laws_toFootS.l0 k1 l0 y292 (wrap64 (x4_1 + 1))) = some r := rh_ hy292 H
      have Ny292 := Aside0.mk hy292
      clear hy292
      have H' := Aside0.mk H
      clear H
      have p288 : 0 ≤ (x4_1 : Int) := od_
      have q288 : x4_1 < (l0.length : Int) := od_
      obtain ⟨ad288, e288, hx288_0, hx288_1, hx288_2⟩ := at_T170 HR0.out x4_1 p288 q288
      cases e288
      replace hx288_0 := bh_ HB hx288_0
      replace hx288_1 := bh_ HB hx288_1
      replace hx288_2 := bh_ HB hx288_2
      replace p288 := eq_true p288
      replace q288 := eq_true q288
      go_wp2_with (first | ((with_reducible refine gc_ 174 ?_); refine gl_ (some 20) Try.func174 (laws_toFoot.calls ((rd_T170 l0 x4_1).f0) ((rd_T170 l0 x4_1).f1) ((rd_T170 l0 x4_1).f2) t289 t290 t291 _ A8.out) ?_; rintro e w11 ⟨rfl, hb⟩; refine ⟨_, rfl, ?_⟩; replace HO_3 := Aside0.mk (Kd.R_below (up_ HO_3.out) hb); replace HB := bs_ HB hb; (try clear hb); (try clear hb2); (try clear hk); (try clear hi); have p10 : 0 ≤ (x4_1 : Int) := od_; have q10 : (x4_1 : Int) < ((x3_1.length : Int) : Int) := od_; obtain ⟨go10, co10, eo10, gb10, gl10, cl10, HG10⟩ := Kd.R_form HO_3.out (by omega); (first | cases eo10 | (injection eo10 with ea_ en_ ec_; (first | subst ea_ | (injection ea_ with ea_; subst ea_)); subst ec_; clear en_)); have GB10 := Aside0.mk gb10; have GG10 := Aside0.mk HG10; clear gb10 gl10 HG10; obtain ⟨ce10, hcl10, hM10, hcc10, hfr10⟩ := Kd.R_elem HO_3.out z166 (x4_1 : Int) p10 q10; obtain rfl := k166_openM hM10; have hx10_0 : w11.cell? ⟨go10, (x4_1 : Int).toNat * 3, none⟩ = some (.int .i64 ((rd_T166 x3_1 x4_1).f0)) := hcc10 0 _ rfl; have hx10_1 : w11.cell? ⟨go10, (x4_1 : Int).toNat * 3 + 1, none⟩ = some (.int .i64 ((rd_T166 x3_1 x4_1).f1)) := hcc10 1 _ rfl; have hx10_2 : w11.cell? ⟨go10, (x4_1 : Int).toNat * 3 + 2, none⟩ = some (.int .i64 ((rd_T166 x3_1 x4_1).f2)) := hcc10 2 _ rfl; have hf10_0 : w11.frozen? ⟨go10, (x4_1 : Int).toNat * 3, none⟩ = false := hfr10 0; have hf10_1 : w11.frozen? ⟨go10, (x4_1 : Int).toNat * 3 + 1, none⟩ = false := hfr10 1; have hf10_2 : w11.frozen? ⟨go10, (x4_1 : Int).toNat * 3 + 2, none⟩ = false := hfr10 2; clear hcl10 hcc10 hfr10; (try clear hM10); replace p10 := eq_true p10; replace q10 := eq_true q10; have HX12 := Aside0.mk (show Kd.R k166 166 w11 w.heap.size (fun _ => True) (.slice (some ⟨go10, 0, none⟩) x3_1.length co10) x3_1 from (up_ HO_3.out)); obtain ⟨ce12, hcl12, hM12, hcc12, hfr12⟩ := Kd.R_elem HX12.out z166 (x4_1 : Int) (od_) (by have h_ : (x4_1 : Int) < ((x3_1.length : Int) : Int) := od_; first | exact h_ | (have e_ := (Kd.R_reads' HO_3.out).1; omega) | simpa using h_); obtain rfl := k166_openM hM12; have HP12 := Kd.R_seg HX12.out (x4_1 : Int) (od_) (by have h_ : (x4_1 : Int) < ((x3_1.length : Int) : Int) := od_; first | exact h_ | (have e_ := (Kd.R_reads' HO_3.out).1; omega) | simpa using h_) (seg := [.int .i64 t289, .int .i64 t290, .int .i64 t291]) (j := 0) hcl12 hcc12 (show 3 ≤ 3 from by decide) (x' := (⟨t289, t290, t291⟩ : S166)) (k166_mkM _ _ _ (⟨t289, t290, t291⟩ : S166) ) (fun _ hk => hk); have hx12_0 := hcc12 0 _ rfl; (try simp only [show (k166).sz = 3 from rfl, Nat.mul_one, Nat.add_zero] at hx12_0); have hf12_0 := hfr12 0; (try simp only [show (k166).sz = 3 from rfl, Nat.mul_one, Nat.add_zero] at hf12_0); have hx12_1 := hcc12 1 _ rfl; (try simp only [show (k166).sz = 3 from rfl, Nat.mul_one, Nat.add_zero] at hx12_1); have hf12_1 := hfr12 1; (try simp only [show (k166).sz = 3 from rfl, Nat.mul_one, Nat.add_zero] at hf12_1); have hx12_2 := hcc12 2 _ rfl; (try simp only [show (k166).sz = 3 from rfl, Nat.mul_one, Nat.add_zero] at hx12_2); have hf12_2 := hfr12 2; (try simp only [show (k166).sz = 3 from rfl, Nat.mul_one, Nat.add_zero] at hf12_2); clear hcl12 hcc12 hfr12; (try clear hM12)) | ((with_reducible refine gate_store (t := 166) (p := 21) rfl ?_); refine store_event (t := 166) (p := 21) (v := ?vo_w13) (w1 := (((w11.setCell ⟨go10, (x4_1 : Int).toNat * 3, none⟩ (.int .i64 t289)).setCell ⟨go10, (x4_1 : Int).toNat * 3 + 1, none⟩ (.int .i64 t290)).setCell ⟨go10, (x4_1 : Int).toNat * 3 + 2, none⟩ (.int .i64 t291))) ?hg ?ho ?hn ?hr ?_; (case ho => rfl); (case hg => rfl); (case hn => rfl); (case hr => first | (go_simp; done) | (go_simp; rfl)); intro w13 hw; have hg : w11.grownBy w13 (some go10) := (by rw [hw]; exact HP12.2); have hp_ : Kd.R k166 166 w13 w.heap.size (fun _ => True) (.slice (some ⟨go10, 0, none⟩) x3_1.length co10) y292 := (by rw [hw, Ny292.out]; exact HP12.1); clear HP12; replace HO_3 := Aside0.mk (hp_); replace HB := Aside0.mk ((by rw [hw]; exact below_set (below_set (below_set (HB.out) GB10.out) GB10.out) GB10.out : Below w.heap.size w w13)); clear hg hw hp_))
      go_roundg k1
      case measure => have := HK1.out; omega
      case rel => exact ⟨(y292), (wrap64 (x4_1 + 1)), rs_, H', ⟨by have := HK1.out; omega⟩, ⟨up_ HO_3.out⟩, ⟨up_ HB.out⟩⟩
     ·obtain rfl := Option.some.inj H
      go_wp2
      go_ret
      exact ⟨_, re_, by (with_reducible repeat (first | apply Kd.R_alloc | apply Kd.R_drewN | apply Kd.R_drew)); exact HO_3.out, up_ HB.out⟩
  ·rw [if_neg c3] at H
   exact absurd H (by simp)
 ·rw [if_neg c2] at H
  exact absurd H (by simp)

/-! ### laws_toFooting: function 58 -/
def laws_toFooting.f (k : Nat) (a0_0 : Int) (l0_1 : List (S170)) (a0_2 : Int) : Option (Int × (List (S166)) × Int) := (laws_toFootS.f k l0_1).bind fun t296 => (some (a0_0, t296, a0_2))
set_option maxHeartbeats 8000000 in
set_option maxRecDepth 100000 in
theorem laws_toFooting.calls (k : Nat) (a0_0 : Int) (A0_1 : Option Addr) (c0_1 : Nat) (l0_1 : List (S170)) (a0_2 : Int) (r1 : Int) (r2 : List (S166)) (r3 : Int) (w : World) (hr0_1 : Kd.C k170 w A0_1 l0_1.length l0_1) (hc0_1 : l0_1.length ≤ c0_1) (h : laws_toFooting.f k a0_0 l0_1 a0_2 = some (r1, r2, r3)) :
  Calls Try.prog 58 #[.agg #[.int .i64 a0_0, .slice A0_1 l0_1.length c0_1, .int .i64 a0_2]] w fun e w' => ∃ v1_ : Value, e = .returned (.agg #[.int .i64 r1, v1_, .int .i64 r3]) ∧ Kd.R k166 166 w' w.heap.size (fun _ => True) v1_ r2 ∧ Below w.heap.size w w' := by
 have hu81 := Try.underlying81
 have hu90 := Try.underlying90
 have HR0_1 := Aside0.mk hr0_1
 have HC0_1 := Aside0.mk hc0_1
 clear hr0_1 hc0_1
 have HB := Aside0.mk (Below.refl w.heap.size w)
 have H : ((laws_toFootS.f k l0_1).bind fun t296 => (some (a0_0, t296, a0_2))) = some (r1, r2, r3) := h
 clear h
 replace H := Option.bind_eq_some_iff.mp H
 obtain ⟨t296, A20, H⟩ := H
 replace H : (some (a0_0, t296, a0_2)) = some (r1, r2, r3) := H
 have A2 := Aside0.mk A20
 clear A20
 simp only [Option.some.injEq, Prod.mk.injEq] at H
 obtain ⟨rfl, rfl, rfl⟩ := H
 go_enter Try.func58, Try.ntmps58
 go_wp2_with (first | ((with_reducible refine gd_ 1 ?_); refine bx_ 1 #[.int .i64 a0_0, .slice A0_1 l0_1.length c0_1, .int .i64 a0_2] 81 ?_; intro gb293 hg w3 hbox hb; have BK293 := Aside0.mk (hbox); have GW293 := gw_ HB hg; have GE293 := gw_ HB hg; replace HB := bs_ HB hb; clear hb hbox hg) | ((with_reducible refine gd_ 2 ?_); refine bx_ 2 #[.int .i64 0, .slice none 0 0, .int .i64 0] 90 ?_; intro gb294 hg w4 hbox hb; have BK294 := Aside0.mk (hbox); have GW294 := gw_ HB hg; have GE294 := gw_ HB hg; replace HB := bs_ HB hb; have NB293_294 := Aside0.mk ((by rw [hg]; exact Nat.ne_of_lt (blk_lt (g := gb293) (o := .cells #[.int .i64 a0_0, .slice A0_1 l0_1.length c0_1, .int .i64 a0_2] 81 (0, 0)) (up_ BK293.out)) : gb293 ≠ gb294)); have NB294_293 := Aside0.mk ((by rw [hg]; exact Nat.ne_of_gt (blk_lt (g := gb293) (o := .cells #[.int .i64 a0_0, .slice A0_1 l0_1.length c0_1, .int .i64 a0_2] 81 (0, 0)) (up_ BK293.out)) : gb294 ≠ gb293)); replace BK293 := bb_ BK293 hb; clear hb hbox hg) | ((with_reducible refine gd_ 3 ?_); refine bx_ 3 #[.int .i64 0, .slice none 0 0, .int .i64 0] 90 ?_; intro gb295 hg w5 hbox hb; have BK295 := Aside0.mk (hbox); have GW295 := gw_ HB hg; have GE295 := gw_ HB hg; replace HB := bs_ HB hb; have NB293_295 := Aside0.mk ((by rw [hg]; exact Nat.ne_of_lt (blk_lt (g := gb293) (o := .cells #[.int .i64 a0_0, .slice A0_1 l0_1.length c0_1, .int .i64 a0_2] 81 (0, 0)) (up_ BK293.out)) : gb293 ≠ gb295)); have NB295_293 := Aside0.mk ((by rw [hg]; exact Nat.ne_of_gt (blk_lt (g := gb293) (o := .cells #[.int .i64 a0_0, .slice A0_1 l0_1.length c0_1, .int .i64 a0_2] 81 (0, 0)) (up_ BK293.out)) : gb295 ≠ gb293)); replace BK293 := bb_ BK293 hb; have NB294_295 := Aside0.mk ((by rw [hg]; exact Nat.ne_of_lt (blk_lt (g := gb294) (o := .cells #[.int .i64 0, .slice none 0 0, .int .i64 0] 90 (0, 0)) (up_ BK294.out)) : gb294 ≠ gb295)); have NB295_294 := Aside0.mk ((by rw [hg]; exact Nat.ne_of_gt (blk_lt (g := gb294) (o := .cells #[.int .i64 0, .slice none 0 0, .int .i64 0] 90 (0, 0)) (up_ BK294.out)) : gb295 ≠ gb294)); replace BK294 := bb_ BK294 hb; clear hb hbox hg; have hnb6 := NB293_294.out; have hnc6 := NB294_293.out; have hnb7 := NB293_295.out; have hnc7 := NB295_293.out; obtain ⟨hcz8_0, hcz8_1, hcz8_2⟩ := c3_ BK293; have hfz8_0 := blk_frozen BK293.out 0; have hfz8_1 := blk_frozen BK293.out 1; have hfz8_2 := blk_frozen BK293.out 2; have hnb9 := NB295_294.out; have hnc9 := NB294_295.out; obtain ⟨hcz10_0, hcz10_1, hcz10_2⟩ := c3_ BK295; have hfz10_0 := blk_frozen BK295.out 0; have hfz10_1 := blk_frozen BK295.out 1; have hfz10_2 := blk_frozen BK295.out 2) | ((with_reducible refine gc_ 127 ?_); refine gl_ (some 9) Try.func127 (laws_toFootS.calls k _ _ l0_1 t296 _ (Kd.C_below HR0_1.out (up_ HB.out)) HC0_1.out A2.out) ?_; rintro e w11 ⟨v297, rfl, ho0, hb⟩; refine ⟨_, rfl, ?_⟩; have HO298 := Aside0.mk (Kd.R_lower ho0 (below_size (up_ HB.out))); replace BK293 := Aside0.mk (blk_below (g := gb293) (o := .cells #[.int .i64 a0_0, .slice A0_1 l0_1.length c0_1, .int .i64 a0_2] 81 (0, 0)) (by (with_reducible repeat (first | refine blk_drewN ?_ _ | refine blk_drew ?_ | refine blk_alloc ?_ _)); refine blk_far ?_ NB293_295.out _; (with_reducible repeat (first | refine blk_drewN ?_ _ | refine blk_drew ?_ | refine blk_alloc ?_ _)); exact BK293.out) hb); replace BK294 := Aside0.mk (blk_below (g := gb294) (o := .cells #[.int .i64 0, .slice none 0 0, .int .i64 0] 90 (0, 0)) (by (with_reducible repeat (first | refine blk_drewN ?_ _ | refine blk_drew ?_ | refine blk_alloc ?_ _)); refine blk_far ?_ NB294_295.out _; (with_reducible repeat (first | refine blk_drewN ?_ _ | refine blk_drew ?_ | refine blk_alloc ?_ _)); exact BK294.out) hb); replace BK295 := Aside0.mk (blk_below (g := gb295) (o := .cells #[.int .i64 a0_0, .slice none 0 0, .int .i64 0] 90 (0, 0)) (by (with_reducible repeat (first | refine blk_drewN ?_ _ | refine blk_drew ?_ | refine blk_alloc ?_ _)); refine blk_put (cs := #[.int .i64 0, .slice none 0 0, .int .i64 0]) ?_ 0 _ rfl; (with_reducible repeat (first | refine blk_drewN ?_ _ | refine blk_drew ?_ | refine blk_alloc ?_ _)); exact BK295.out) hb); replace HB := bs_ HB hb; (try clear hb); (try clear hb2); (try clear hk); (try clear hi); (try clear ho0); obtain ⟨Ao12, co12, eo12⟩ := Kd.R_slice HO298.out; subst eo12; obtain ⟨hcz13_0, hcz13_1, hcz13_2⟩ := c3_ BK295; have hfz13_0 := blk_frozen BK295.out 0; have hfz13_1 := blk_frozen BK295.out 1; have hfz13_2 := blk_frozen BK295.out 2; obtain ⟨hcz14_0, hcz14_1, hcz14_2⟩ := c3_ BK293; have hfz14_0 := blk_frozen BK293.out 0; have hfz14_1 := blk_frozen BK293.out 1; have hfz14_2 := blk_frozen BK293.out 2; obtain ⟨hcz15_0, hcz15_1, hcz15_2⟩ := c3_ BK294; have hfz15_0 := blk_frozen BK294.out 0; have hfz15_1 := blk_frozen BK294.out 1; have hfz15_2 := blk_frozen BK294.out 2))
 refine bodyPost_ret (results_cell_row rfl _ _ gb294 90 #[.int .i64 a0_0, .slice Ao12 t296.length co12, .int .i64 a0_2] (0, 0) _ rfl (by (with_reducible repeat (first | refine blk_drewN ?_ _ | refine blk_drew ?_ | refine blk_alloc ?_ _)); refine blk_put (cs := #[.int .i64 a0_0, .slice Ao12 t296.length co12, .int .i64 0]) ?_ 2 _ rfl; (with_reducible repeat (first | refine blk_drewN ?_ _ | refine blk_drew ?_ | refine blk_alloc ?_ _)); refine blk_put (cs := #[.int .i64 a0_0, .slice none 0 0, .int .i64 0]) ?_ 1 _ rfl; (with_reducible repeat (first | refine blk_drewN ?_ _ | refine blk_drew ?_ | refine blk_alloc ?_ _)); refine blk_put (cs := #[.int .i64 0, .slice none 0 0, .int .i64 0]) ?_ 0 _ rfl; (with_reducible repeat (first | refine blk_drewN ?_ _ | refine blk_drew ?_ | refine blk_alloc ?_ _)); refine blk_far ?_ NB294_295.out _; (with_reducible repeat (first | refine blk_drewN ?_ _ | refine blk_drew ?_ | refine blk_alloc ?_ _)); refine blk_far ?_ NB294_295.out _; (with_reducible repeat (first | refine blk_drewN ?_ _ | refine blk_drew ?_ | refine blk_alloc ?_ _)); exact BK294.out) Try.underlying90 rfl (by kernel_rfl)) rfl ?_
 exact ⟨_, re_, by (with_reducible repeat (first | apply Kd.R_alloc | apply Kd.R_drewN | apply Kd.R_drew)); exact Kd.R_mono (Kd.R_far (p := ⟨gb294, 2, none⟩) (Kd.R_far (p := ⟨gb294, 1, none⟩) (Kd.R_far (p := ⟨gb294, 0, none⟩) (Kd.R_far (p := ⟨gb295, 2, none⟩) (Kd.R_far (p := ⟨gb295, 1, none⟩) (Kd.R_types (Kd.R_types HO298.out BK295.out (by decide)) BK294.out (by decide)) (fun _ hk => hk.1.2) (.slice Ao12 t296.length co12)) (fun _ hk => hk.1.2) (.int .i64 a0_2)) (fun _ hk => hk.2) (.int .i64 a0_0)) (fun _ hk => hk.2) (.slice Ao12 t296.length co12)) (fun _ hk => hk.2) (.int .i64 a0_2)) (fun _ hk => trivial), up_ HB.out⟩

/-! ### impl_within: function 98 -/
def impl_within.f (a0 : Int) (a1 : Int) (a2 : Int) : Option (Bool) := if a1 ≤ a0 then (some (decide (a0 ≤ a2))) else (some false)
set_option maxHeartbeats 8000000 in
set_option maxRecDepth 100000 in
theorem impl_within.calls (a0 : Int) (a1 : Int) (a2 : Int) (r : Bool) (w : World) (h : impl_within.f a0 a1 a2 = some r) :
  Calls Try.prog 98 #[.int .i64 a0, .int .i64 a1, .int .i64 a2] w fun e w' => e = .returned (.bool r) ∧ Drawn0 w w' := by
 have H : (if a1 ≤ a0 then (some (decide (a0 ≤ a2))) else (some false)) = some r := h
 clear h
 replace H := its_ H; rcases H with ⟨c4b0, H⟩ | ⟨c4b0, H⟩
 ·obtain rfl := Option.some.inj H
  go_enter Try.func98, Try.ntmps98
  go_wp2
  go_ret
  exact ⟨rs_, dn_⟩
 ·obtain rfl := Option.some.inj H
  go_enter Try.func98, Try.ntmps98
  go_wp2
  go_ret
  exact ⟨rs_, dn_⟩

/-! ### impl_IsFooting: function 128 -/
mutual
def impl_IsFooting.j0 : Nat → Bool → Int → List (S166) → Int → Option (Bool)
 | 0, _, _, _, _ => none
 | k + 1, x19, x300000, x300001, x300002 => if x19 = true then (some false) else (impl_IsFooting.l0 k 0 x300001 (x300001.length : Int) 0 x300000 x300001 x300002)
def impl_IsFooting.l0 : Nat → Int → List (S166) → Int → Int → Int → List (S166) → Int → Option (Bool)
 | 0, _, _, _, _, _, _, _ => none
 | k + 1, x3, x21, x22, x23, x300000, x300001, x300002 => if x23 < x22 then (if 0 ≤ x23 then (if x23 < (x21.length : Int) then ((impl_within.f ((rd_T166 x21 x23).f1) 1 2).bind fun t304 => (if t304 = true then ((impl_within.f ((rd_T166 x21 x23).f2) 0 (wrap64 (((rd_T166 x21 x23).f1) - 1))).bind fun t305 => (if t305 = true then ((impl_within.f ((rd_T166 x21 x23).f0) x3 (wrap64 (x300000 - ((rd_T166 x21 x23).f1)))).bind fun t306 => (if t306 = true then (impl_IsFooting.l0 k (wrap64 (((rd_T166 x21 x23).f0) + ((rd_T166 x21 x23).f1))) x21 x22 (wrap64 (x23 + 1)) x300000 x300001 x300002) else (some false))) else (some false))) else (some false))) else (none)) else (none)) else (some true)
end
def impl_IsFooting.f (k : Nat) (a0_0 : Int) (l0_1 : List (S166)) (a0_2 : Int) : Option (Bool) := (impl_within.f a0_0 1 6).bind fun t300 => (if t300 = true then ((impl_within.f a0_2 0 (wrap64 ((l0_1.length : Int) - 1))).bind fun t301 => (impl_IsFooting.j0 k (!t301) a0_0 l0_1 a0_2)) else (impl_IsFooting.j0 k true a0_0 l0_1 a0_2))
theorem impl_IsFooting.mono_l : ∀ k, (∀ y0 y1 y2 y3, LeO (impl_IsFooting.j0 k y0 y1 y2 y3) (impl_IsFooting.j0 (k + 1) y0 y1 y2 y3)) ∧ (∀ y0 y1 y2 y3 y4 y5 y6, LeO (impl_IsFooting.l0 k y0 y1 y2 y3 y4 y5 y6) (impl_IsFooting.l0 (k + 1) y0 y1 y2 y3 y4 y5 y6))
 | 0 => ⟨fun _ _ _ _ r h => by simp [impl_IsFooting.j0] at h, fun _ _ _ _ _ _ _ r h => by simp [impl_IsFooting.l0] at h⟩
 | k + 1 => by
  obtain ⟨ih0, ih1⟩ := impl_IsFooting.mono_l k
  refine ⟨?_, ?_⟩
  ·intro y0 y1 y2 y3
   unfold impl_IsFooting.j0
   exact mn_
  ·intro y0 y1 y2 y3 y4 y5 y6
   unfold impl_IsFooting.l0
   exact mn_
theorem impl_IsFooting.mono : ∀ a0 a1 a2 k, LeO (impl_IsFooting.f k a0 a1 a2) (impl_IsFooting.f (k + 1) a0 a1 a2) := by
 intro a0 a1 a2 k
 obtain ⟨ih0, ih1⟩ := impl_IsFooting.mono_l k
 unfold impl_IsFooting.f
 exact mn_
set_option maxHeartbeats 8000000 in
set_option maxRecDepth 100000 in
theorem impl_IsFooting.calls (k : Nat) (a0_0 : Int) (A0_1 : Option Addr) (c0_1 : Nat) (l0_1 : List (S166)) (a0_2 : Int) (r : Bool) (w : World) (hr0_1 : Kd.C k166 w A0_1 l0_1.length l0_1) (hc0_1 : l0_1.length ≤ c0_1) (h : impl_IsFooting.f k a0_0 l0_1 a0_2 = some r) :
  Calls Try.prog 128 #[.agg #[.int .i64 a0_0, .slice A0_1 l0_1.length c0_1, .int .i64 a0_2]] w fun e w' => e = .returned (.bool r) ∧ Below w.heap.size w w' := by
 have hu90 := Try.underlying90
 have hu166 := Try.underlying166
 have HR0_1 := Aside0.mk hr0_1
 have HC0_1 := Aside0.mk hc0_1
 clear hr0_1 hc0_1
 have HB := Aside0.mk (Below.refl w.heap.size w)
 have H : ((impl_within.f a0_0 1 6).bind fun t300 => (if t300 = true then ((impl_within.f a0_2 0 (wrap64 ((l0_1.length : Int) - 1))).bind fun t301 => (impl_IsFooting.j0 k (!t301) a0_0 l0_1 a0_2)) else (impl_IsFooting.j0 k true a0_0 l0_1 a0_2))) = some r := h
 clear h
 have HC2 := Aside0.mk H
 clear H
 go_enter Try.func128, Try.ntmps128
 go_upto_region 1 with (first | ((with_reducible refine gd_ 1 ?_); (try (refine gate_guard (by rfl) ?_; dsimp only)); refine bx_ 1 #[.int .i64 a0_0, .slice A0_1 l0_1.length c0_1, .int .i64 a0_2] 90 ?_; intro gb299 hg w3 hbox hb; have BK299 := Aside0.mk (hbox); have GW299 := gw_ HB hg; have GE299 := gw_ HB hg; replace HB := bs_ HB hb; clear hb hbox hg))
 (try simp only [Act.put, List.setIfInBounds_toArray, List.set_cons_zero, List.set_cons_succ])
 go_cut [19] (fun v19 wc => ∃ (kq : Nat) (x19_1 : Bool), v19 = .bool x19_1 ∧ Aside0 (impl_IsFooting.j0 kq x19_1 a0_0 l0_1 a0_2 = some r) ∧ Aside0 (kq ≤ k) ∧ Aside0 (wc.heap[gb299]? = some (.cells #[.int .i64 a0_0, (.slice A0_1 l0_1.length c0_1), .int .i64 a0_2] 90 (0, 0))) ∧ Aside0 (Below w.heap.size w wc))
 case first =>
  have H := HC2.out
  clear HC2
  replace H := bnd_ H; obtain ⟨t300, A4, H⟩ := H
  replace H := itb_ H; rcases H with ⟨rfl, H⟩ | ⟨rfl, H⟩
  ·replace H := bnd_ H; obtain ⟨t301, A6, H⟩ := H
   have H' := Aside0.mk H
   clear H
   obtain ⟨hcz7_0, hcz7_1, hcz7_2⟩ := c3_ BK299
   have hfz7_0 := blk_frozen BK299.out 0
   have hfz7_1 := blk_frozen BK299.out 1
   have hfz7_2 := blk_frozen BK299.out 2
   go_wp2_with (first | ((with_reducible refine gc_ 98 ?_); refine gq_ (some 8) Try.func98 (impl_within.calls a0_0 1 6 true _ A4.out) (fun nd => ?_)) | (go_at_call 98; (with_reducible refine (impl_within.calls a0_2 0 (wrap64 ((l0_1.length : Int) - 1)) t301 _ A6.out).mono ?_); rintro e w' ⟨rfl, ⟨nd, rfl⟩⟩))
   go_meet
   case rel => exact ⟨_, (!t301), rs_, H', ⟨by first | omega | exact Nat.le_refl _⟩, ⟨up_ BK299.out⟩, ⟨up_ HB.out⟩⟩
  ·have H' := Aside0.mk H
   clear H
   obtain ⟨hcz8_0, hcz8_1, hcz8_2⟩ := c3_ BK299
   have hfz8_0 := blk_frozen BK299.out 0
   have hfz8_1 := blk_frozen BK299.out 1
   have hfz8_2 := blk_frozen BK299.out 2
   go_wp2_with (first | ((with_reducible refine gc_ 98 ?_); refine gq_ (some 8) Try.func98 (impl_within.calls a0_0 1 6 false _ A4.out) (fun nd => ?_)))
   go_meet
   case rel => exact ⟨_, (true), rs_, H', ⟨by first | omega | exact Nat.le_refl _⟩, ⟨up_ BK299.out⟩, ⟨up_ HB.out⟩⟩
 case rest =>
  clear HC2
  try clear c1
  try clear p2
  try clear c5
  try clear p6
  try clear hcz7_0
  try clear hcz7_1
  try clear hcz7_2
  try clear hcz8_0
  try clear hcz8_1
  try clear hcz8_2
  try clear hfz7_0
  try clear hfz7_1
  try clear hfz7_2
  try clear hfz8_0
  try clear hfz8_1
  try clear hfz8_2
  obtain ⟨kq, x19_1, rfl, HA, HJ1, BK299, HB⟩ := hcut
  cases kq with
  | zero => exact absurd HA.out (by simp [impl_IsFooting.j0])
  | succ kj1 =>
   have H := HA.out
   clear HA
   simp only [impl_IsFooting.j0] at H
   replace H := itb_ H; rcases H with ⟨rfl, H⟩ | ⟨rfl, H⟩
   ·obtain rfl := Option.some.inj H
    go_wp2
    go_ret
    exact ⟨re_, up_ HB.out⟩
   ·have H' := Aside0.mk H
    clear H
    obtain ⟨hcz10_0, hcz10_1, hcz10_2⟩ := c3_ BK299
    have hfz10_0 := blk_frozen BK299.out 0
    have hfz10_1 := blk_frozen BK299.out 1
    have hfz10_2 := blk_frozen BK299.out 2
    go_wp2
    go_loopg [3, 23] kj1 (fun kq v3 v23 w' => ∃ (x3_2 : Int) (x23_2 : Int), v3 = .int .i64 x3_2 ∧ v23 = .int .i64 x23_2 ∧ Aside0 (impl_IsFooting.l0 kq x3_2 l0_1 (l0_1.length : Int) x23_2 a0_0 l0_1 a0_2 = some r) ∧ Aside0 (kq ≤ kj1) ∧ Aside0 (w'.heap[gb299]? = some (.cells #[.int .i64 a0_0, (.slice A0_1 l0_1.length c0_1), .int .i64 a0_2] 90 (0, 0))) ∧ Aside0 (Below w.heap.size w w'))
    case atStart => exact ⟨(0), (0), rs_, rs_, H', ⟨Nat.le_refl _⟩, ⟨up_ BK299.out⟩, ⟨up_ HB.out⟩⟩
    case round =>
     clear H'
     try clear c1
     try clear p2
     try clear c5
     try clear p6
     try clear c9
     try clear hcz10_0
     try clear hcz10_1
     try clear hcz10_2
     try clear hcz7_0
     try clear hcz7_1
     try clear hcz7_2
     try clear hcz8_0
     try clear hcz8_1
     try clear hcz8_2
     try clear hfz10_0
     try clear hfz10_1
     try clear hfz10_2
     try clear hfz7_0
     try clear hfz7_1
     try clear hfz7_2
     try clear hfz8_0
     try clear hfz8_1
     try clear hfz8_2
     try clear p2
     try clear p6
     obtain ⟨x3_2, x23_2, rfl, rfl, HA, HK2, BK299, HB⟩ := hrel
     cases gk with
     | zero => exact absurd HA.out (by simp [impl_IsFooting.l0])
     | succ k2 =>
      have H := HA.out
      clear HA
      simp only [impl_IsFooting.l0] at H
      replace H := its_ H; rcases H with ⟨c11b0, H⟩ | ⟨c11b0, H⟩
      ·replace H := its_ H; rcases H with ⟨c12b0, H⟩ | ⟨_, ⟨⟩⟩
       replace H := its_ H; rcases H with ⟨c13b0, H⟩ | ⟨_, ⟨⟩⟩
       replace H := bnd_ H; obtain ⟨t304, A14, H⟩ := H
       replace H := itb_ H; rcases H with ⟨rfl, H⟩ | ⟨rfl, H⟩
       ·replace H := bnd_ H; obtain ⟨t305, A16, H⟩ := H
        replace H := itb_ H; rcases H with ⟨rfl, H⟩ | ⟨rfl, H⟩
        ·replace H := bnd_ H; obtain ⟨t306, A18, H⟩ := H
         replace H := itb_ H; rcases H with ⟨rfl, H⟩ | ⟨rfl, H⟩
         ·have H' := Aside0.mk H
          clear H
          have p302 : 0 ≤ (x23_2 : Int) := od_
          have q302 : x23_2 < (l0_1.length : Int) := od_
          obtain ⟨ad302, e302, hx302_0, hx302_1, hx302_2⟩ := at_T166 HR0_1.out x23_2 p302 q302
          cases e302
          replace hx302_0 := bh_ HB hx302_0
          replace hx302_1 := bh_ HB hx302_1
          replace hx302_2 := bh_ HB hx302_2
          replace p302 := eq_true p302
          replace q302 := eq_true q302
          go_wp2_with (first | ((with_reducible refine gd_ 5 ?_); (try (refine gate_guard (by rfl) ?_; dsimp only)); refine bx_ 5 #[.int .i64 0, .int .i64 0, .int .i64 0] 166 ?_; intro gb303 hg w20 hbox hb; have BK303 := Aside0.mk (hbox); have GW303 := gw_ HB hg; have GE303 := gw_ HB hg; replace HB := bs_ HB hb; have NB299_303 := Aside0.mk ((by rw [hg]; exact Nat.ne_of_lt (blk_lt (g := gb299) (o := .cells #[.int .i64 a0_0, .slice (some ad302) l0_1.length c0_1, .int .i64 a0_2] 90 (0, 0)) (up_ BK299.out)) : gb299 ≠ gb303)); have NB303_299 := Aside0.mk ((by rw [hg]; exact Nat.ne_of_gt (blk_lt (g := gb299) (o := .cells #[.int .i64 a0_0, .slice (some ad302) l0_1.length c0_1, .int .i64 a0_2] 90 (0, 0)) (up_ BK299.out)) : gb303 ≠ gb299)); replace BK299 := bb_ BK299 hb; clear hb hbox hg; have hnb21 := NB303_299.out; have hnc21 := NB299_303.out; obtain ⟨hcz22_0, hcz22_1, hcz22_2⟩ := c3_ BK303; have hfz22_0 := blk_frozen BK303.out 0; have hfz22_1 := blk_frozen BK303.out 1; have hfz22_2 := blk_frozen BK303.out 2) | ((with_reducible refine gc_ 98 ?_); refine gq_ (some 29) Try.func98 (impl_within.calls ((rd_T166 l0_1 x23_2).f1) 1 2 true _ A14.out) (fun nd => ?_)) | (go_at_call 98; (with_reducible refine (impl_within.calls ((rd_T166 l0_1 x23_2).f2) 0 (wrap64 (((rd_T166 l0_1 x23_2).f1) - 1)) true _ A16.out).mono ?_); rintro e w' ⟨rfl, ⟨nd, rfl⟩⟩; obtain ⟨hcz23_0, hcz23_1, hcz23_2⟩ := c3_ BK299; have hfz23_0 := blk_frozen BK299.out 0; have hfz23_1 := blk_frozen BK299.out 1; have hfz23_2 := blk_frozen BK299.out 2) | (go_at_call 98; (with_reducible refine (impl_within.calls ((rd_T166 l0_1 x23_2).f0) x3_2 (wrap64 (a0_0 - ((rd_T166 l0_1 x23_2).f1))) true _ A18.out).mono ?_); rintro e w' ⟨rfl, ⟨nd, rfl⟩⟩))
          go_roundg k2
          case measure => have := HJ1.out; have := HK2.out; omega
          case rel => exact ⟨(wrap64 (((rd_T166 l0_1 x23_2).f0) + ((rd_T166 l0_1 x23_2).f1))), (wrap64 (x23_2 + 1)), rs_, rs_, H', ⟨by have := HJ1.out; have := HK2.out; omega⟩, ⟨by (with_reducible repeat (first | refine blk_drewN ?_ _ | refine blk_drew ?_ | refine blk_alloc ?_ _)); refine blk_far ?_ NB299_303.out _; (with_reducible repeat (first | refine blk_drewN ?_ _ | refine blk_drew ?_ | refine blk_alloc ?_ _)); refine blk_far ?_ NB299_303.out _; (with_reducible repeat (first | refine blk_drewN ?_ _ | refine blk_drew ?_ | refine blk_alloc ?_ _)); refine blk_far ?_ NB299_303.out _; (with_reducible repeat (first | refine blk_drewN ?_ _ | refine blk_drew ?_ | refine blk_alloc ?_ _)); exact BK299.out⟩, ⟨up_ HB.out⟩⟩
         ·obtain rfl := Option.some.inj H
          have p302 : 0 ≤ (x23_2 : Int) := od_
          have q302 : x23_2 < (l0_1.length : Int) := od_
          obtain ⟨ad302, e302, hx302_0, hx302_1, hx302_2⟩ := at_T166 HR0_1.out x23_2 p302 q302
          cases e302
          replace hx302_0 := bh_ HB hx302_0
          replace hx302_1 := bh_ HB hx302_1
          replace hx302_2 := bh_ HB hx302_2
          replace p302 := eq_true p302
          replace q302 := eq_true q302
          go_wp2_with (first | ((with_reducible refine gd_ 5 ?_); (try (refine gate_guard (by rfl) ?_; dsimp only)); refine bx_ 5 #[.int .i64 0, .int .i64 0, .int .i64 0] 166 ?_; intro gb303 hg w24 hbox hb; have BK303 := Aside0.mk (hbox); have GW303 := gw_ HB hg; have GE303 := gw_ HB hg; replace HB := bs_ HB hb; have NB299_303 := Aside0.mk ((by rw [hg]; exact Nat.ne_of_lt (blk_lt (g := gb299) (o := .cells #[.int .i64 a0_0, .slice (some ad302) l0_1.length c0_1, .int .i64 a0_2] 90 (0, 0)) (up_ BK299.out)) : gb299 ≠ gb303)); have NB303_299 := Aside0.mk ((by rw [hg]; exact Nat.ne_of_gt (blk_lt (g := gb299) (o := .cells #[.int .i64 a0_0, .slice (some ad302) l0_1.length c0_1, .int .i64 a0_2] 90 (0, 0)) (up_ BK299.out)) : gb303 ≠ gb299)); replace BK299 := bb_ BK299 hb; clear hb hbox hg; have hnb25 := NB303_299.out; have hnc25 := NB299_303.out; obtain ⟨hcz26_0, hcz26_1, hcz26_2⟩ := c3_ BK303; have hfz26_0 := blk_frozen BK303.out 0; have hfz26_1 := blk_frozen BK303.out 1; have hfz26_2 := blk_frozen BK303.out 2) | ((with_reducible refine gc_ 98 ?_); refine gq_ (some 29) Try.func98 (impl_within.calls ((rd_T166 l0_1 x23_2).f1) 1 2 true _ A14.out) (fun nd => ?_)) | (go_at_call 98; (with_reducible refine (impl_within.calls ((rd_T166 l0_1 x23_2).f2) 0 (wrap64 (((rd_T166 l0_1 x23_2).f1) - 1)) true _ A16.out).mono ?_); rintro e w' ⟨rfl, ⟨nd, rfl⟩⟩; obtain ⟨hcz27_0, hcz27_1, hcz27_2⟩ := c3_ BK299; have hfz27_0 := blk_frozen BK299.out 0; have hfz27_1 := blk_frozen BK299.out 1; have hfz27_2 := blk_frozen BK299.out 2) | (go_at_call 98; (with_reducible refine (impl_within.calls ((rd_T166 l0_1 x23_2).f0) x3_2 (wrap64 (a0_0 - ((rd_T166 l0_1 x23_2).f1))) false _ A18.out).mono ?_); rintro e w' ⟨rfl, ⟨nd, rfl⟩⟩))
          go_ret
          exact ⟨re_, up_ HB.out⟩
        ·obtain rfl := Option.some.inj H
         have p302 : 0 ≤ (x23_2 : Int) := od_
         have q302 : x23_2 < (l0_1.length : Int) := od_
         obtain ⟨ad302, e302, hx302_0, hx302_1, hx302_2⟩ := at_T166 HR0_1.out x23_2 p302 q302
         cases e302
         replace hx302_0 := bh_ HB hx302_0
         replace hx302_1 := bh_ HB hx302_1
         replace hx302_2 := bh_ HB hx302_2
         replace p302 := eq_true p302
         replace q302 := eq_true q302
         go_wp2_with (first | ((with_reducible refine gd_ 5 ?_); (try (refine gate_guard (by rfl) ?_; dsimp only)); refine bx_ 5 #[.int .i64 0, .int .i64 0, .int .i64 0] 166 ?_; intro gb303 hg w28 hbox hb; have BK303 := Aside0.mk (hbox); have GW303 := gw_ HB hg; have GE303 := gw_ HB hg; replace HB := bs_ HB hb; have NB299_303 := Aside0.mk ((by rw [hg]; exact Nat.ne_of_lt (blk_lt (g := gb299) (o := .cells #[.int .i64 a0_0, .slice (some ad302) l0_1.length c0_1, .int .i64 a0_2] 90 (0, 0)) (up_ BK299.out)) : gb299 ≠ gb303)); have NB303_299 := Aside0.mk ((by rw [hg]; exact Nat.ne_of_gt (blk_lt (g := gb299) (o := .cells #[.int .i64 a0_0, .slice (some ad302) l0_1.length c0_1, .int .i64 a0_2] 90 (0, 0)) (up_ BK299.out)) : gb303 ≠ gb299)); replace BK299 := bb_ BK299 hb; clear hb hbox hg; have hnb29 := NB303_299.out; have hnc29 := NB299_303.out; obtain ⟨hcz30_0, hcz30_1, hcz30_2⟩ := c3_ BK303; have hfz30_0 := blk_frozen BK303.out 0; have hfz30_1 := blk_frozen BK303.out 1; have hfz30_2 := blk_frozen BK303.out 2) | ((with_reducible refine gc_ 98 ?_); refine gq_ (some 29) Try.func98 (impl_within.calls ((rd_T166 l0_1 x23_2).f1) 1 2 true _ A14.out) (fun nd => ?_)) | (go_at_call 98; (with_reducible refine (impl_within.calls ((rd_T166 l0_1 x23_2).f2) 0 (wrap64 (((rd_T166 l0_1 x23_2).f1) - 1)) false _ A16.out).mono ?_); rintro e w' ⟨rfl, ⟨nd, rfl⟩⟩))
         go_ret
         exact ⟨re_, up_ HB.out⟩
       ·obtain rfl := Option.some.inj H
        have p302 : 0 ≤ (x23_2 : Int) := od_
        have q302 : x23_2 < (l0_1.length : Int) := od_
        obtain ⟨ad302, e302, hx302_0, hx302_1, hx302_2⟩ := at_T166 HR0_1.out x23_2 p302 q302
        cases e302
        replace hx302_0 := bh_ HB hx302_0
        replace hx302_1 := bh_ HB hx302_1
        replace hx302_2 := bh_ HB hx302_2
        replace p302 := eq_true p302
        replace q302 := eq_true q302
        go_wp2_with (first | ((with_reducible refine gd_ 5 ?_); (try (refine gate_guard (by rfl) ?_; dsimp only)); refine bx_ 5 #[.int .i64 0, .int .i64 0, .int .i64 0] 166 ?_; intro gb303 hg w31 hbox hb; have BK303 := Aside0.mk (hbox); have GW303 := gw_ HB hg; have GE303 := gw_ HB hg; replace HB := bs_ HB hb; have NB299_303 := Aside0.mk ((by rw [hg]; exact Nat.ne_of_lt (blk_lt (g := gb299) (o := .cells #[.int .i64 a0_0, .slice (some ad302) l0_1.length c0_1, .int .i64 a0_2] 90 (0, 0)) (up_ BK299.out)) : gb299 ≠ gb303)); have NB303_299 := Aside0.mk ((by rw [hg]; exact Nat.ne_of_gt (blk_lt (g := gb299) (o := .cells #[.int .i64 a0_0, .slice (some ad302) l0_1.length c0_1, .int .i64 a0_2] 90 (0, 0)) (up_ BK299.out)) : gb303 ≠ gb299)); replace BK299 := bb_ BK299 hb; clear hb hbox hg; have hnb32 := NB303_299.out; have hnc32 := NB299_303.out; obtain ⟨hcz33_0, hcz33_1, hcz33_2⟩ := c3_ BK303; have hfz33_0 := blk_frozen BK303.out 0; have hfz33_1 := blk_frozen BK303.out 1; have hfz33_2 := blk_frozen BK303.out 2) | ((with_reducible refine gc_ 98 ?_); refine gq_ (some 29) Try.func98 (impl_within.calls ((rd_T166 l0_1 x23_2).f1) 1 2 false _ A14.out) (fun nd => ?_)))
        go_ret
        exact ⟨re_, up_ HB.out⟩
      ·obtain rfl := Option.some.inj H
       go_wp2
       go_ret
       exact ⟨re_, up_ HB.out⟩

/-! ### slices_Equal_int_int: function 129 -/
def slices_Equal_int_int.l0 : Nat → List Int → List Int → Int → Int → Option (Bool)
 | 0, _, _, _, _ => none
 | k + 1, x0, x1, x12, x13 => if x13 < x12 then (if 0 ≤ x13 then (if x13 < (x0.length : Int) then (if x13 < (x1.length : Int) then (if (rd x0 x13) = (rd x1 x13) then (slices_Equal_int_int.l0 k x0 x1 x12 (wrap64 (x13 + 1))) else (some false)) else (none)) else (none)) else (none)) else (some true)
def slices_Equal_int_int.f (k : Nat) (l0 : List Int) (l1 : List Int) : Option (Bool) := if (l0.length : Int) = (l1.length : Int) then (slices_Equal_int_int.l0 k l0 l1 (l0.length : Int) 0) else (some false)
set_option maxHeartbeats 8000000 in
set_option maxRecDepth 100000 in
theorem slices_Equal_int_int.calls (k : Nat) (A0 : Option Addr) (c0 : Nat) (l0 : List Int) (A1 : Option Addr) (c1 : Nat) (l1 : List Int) (r : Bool) (w : World) (hr0 : Kd.C (Kd.int .i64) w A0 l0.length l0) (hc0 : l0.length ≤ c0) (hr1 : Kd.C (Kd.int .i64) w A1 l1.length l1) (hc1 : l1.length ≤ c1) (h : slices_Equal_int_int.f k l0 l1 = some r) :
  Calls Try.prog 129 #[.slice A0 l0.length c0, .slice A1 l1.length c1] w fun e w' => e = .returned (.bool r) ∧ Drawn0 w w' := by
 have HR0 := Aside0.mk hr0
 have HC0 := Aside0.mk hc0
 clear hr0 hc0
 have HR1 := Aside0.mk hr1
 have HC1 := Aside0.mk hc1
 clear hr1 hc1
 have H : (if (l0.length : Int) = (l1.length : Int) then (slices_Equal_int_int.l0 k l0 l1 (l0.length : Int) 0) else (some false)) = some r := h
 clear h
 replace H := ieq_ H; rcases H with ⟨c3, c3b0, c3b1, H⟩ | ⟨c3, c3b0, c3b1, H⟩
 ·have c3b2 : (l0.length == l1.length) = true := by first | simpa using c3 | (simp at c3 ⊢; omega)
  clear c3
  have H' := Aside0.mk H
  clear H
  go_enter Try.func129, Try.ntmps129
  go_wp2
  repeat (go_quiet (fail); try go_wp2)
  go_loopg [13] k (fun kq v13 w' => ∃ (x13_1 : Int), v13 = .int .i64 x13_1 ∧ Aside0 (slices_Equal_int_int.l0 kq l0 l1 (l0.length : Int) x13_1 = some r) ∧ Aside0 (kq ≤ k) ∧ Drawn0 w w')
  case atStart => exact ⟨(0), rs_, H', ⟨Nat.le_refl _⟩, dn_⟩
  case round =>
   clear H'
   try clear c1
   try clear p2
   try clear c3
   try clear c3b0
   try clear c3b1
   try clear c3b2
   obtain ⟨x13_1, rfl, HA, HK1, ⟨m1, rfl⟩⟩ := hrel
   cases gk with
   | zero => exact absurd HA.out (by simp [slices_Equal_int_int.l0])
   | succ k1 =>
    have H := HA.out
    clear HA
    simp only [slices_Equal_int_int.l0] at H
    replace H := its_ H; rcases H with ⟨c4b0, H⟩ | ⟨c4b0, H⟩
    ·replace H := its_ H; rcases H with ⟨c5b0, H⟩ | ⟨_, ⟨⟩⟩
     replace H := its_ H; rcases H with ⟨c6b0, H⟩ | ⟨_, ⟨⟩⟩
     replace H := its_ H; rcases H with ⟨c7b0, H⟩ | ⟨_, ⟨⟩⟩
     replace H := ieq_ H; rcases H with ⟨-, c8b0, c8b1, H⟩ | ⟨c8, c8b0, c8b1, H⟩
     ·have H' := Aside0.mk H
      clear H
      have p307 : 0 ≤ (x13_1 : Int) := od_
      have q307 : x13_1 < (l0.length : Int) := od_
      obtain ⟨ad307, e307, hx307_0⟩ := Kd.at_int HR0.out x13_1 p307 q307
      cases e307
      replace p307 := eq_true p307
      replace q307 := eq_true q307
      have p308 : 0 ≤ (x13_1 : Int) := od_
      have q308 : x13_1 < (l1.length : Int) := od_
      obtain ⟨ad308, e308, hx308_0⟩ := Kd.at_int HR1.out x13_1 p308 q308
      cases e308
      replace p308 := eq_true p308
      replace q308 := eq_true q308
      go_wp2
      repeat (go_quiet (fail); try go_wp2)
      go_roundg k1
      case measure => have := HK1.out; omega
      case rel => exact ⟨(wrap64 (x13_1 + 1)), rs_, H', ⟨by have := HK1.out; omega⟩, dn_⟩
     ·obtain rfl := Option.some.inj H
      have p307 : 0 ≤ (x13_1 : Int) := od_
      have q307 : x13_1 < (l0.length : Int) := od_
      obtain ⟨ad307, e307, hx307_0⟩ := Kd.at_int HR0.out x13_1 p307 q307
      cases e307
      replace p307 := eq_true p307
      replace q307 := eq_true q307
      have p308 : 0 ≤ (x13_1 : Int) := od_
      have q308 : x13_1 < (l1.length : Int) := od_
      obtain ⟨ad308, e308, hx308_0⟩ := Kd.at_int HR1.out x13_1 p308 q308
      cases e308
      replace p308 := eq_true p308
      replace q308 := eq_true q308
      go_wp2
      repeat (go_quiet (fail); try go_wp2)
      go_ret
      exact ⟨rs_, dn_⟩
    ·obtain rfl := Option.some.inj H
     go_wp2
     repeat (go_quiet (fail); try go_wp2)
     go_ret
     exact ⟨rs_, dn_⟩
 ·have c3b2 : (l0.length == l1.length) = false := by first | simpa using c3 | (simp at c3 ⊢; omega)
  obtain rfl := Option.some.inj H
  go_enter Try.func129, Try.ntmps129
  go_wp2
  repeat (go_quiet (fail); try go_wp2)
  go_ret
  exact ⟨rs_, dn_⟩

end Go.Proofs.Ytkddpilambnicaa.PFnExactFootRows
