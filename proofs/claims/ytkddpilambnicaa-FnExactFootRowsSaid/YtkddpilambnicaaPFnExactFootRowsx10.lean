/- Walks of Go functions that the law FnExactFootRows uses: written by this session's program out of the kit's printer; each shows that a call comes to the answers of the Lean function beside it. Conditions: each contract's own. -/
import Derived.Test.YtkddpilambnicaaPFnExactFootRowsx0
import Derived.Test.YtkddpilambnicaaPFnExactFootRowsx9
namespace Go.Proofs.Ytkddpilambnicaa.PFnExactFootRows
open Go.RowKit Go.Proofs.YtkddpilambnicaaW.PrintWords Go.Proofs.YtkddpilambnicaaW.PrintLast Go.Proofs.YtkddpilambnicaaW.PrintMore Go.Proofs.Ytkddpilambnicaa.Mac Go.Proofs.Ytkddpilambnicaa.Law
attribute [local go_sem] max2_int min2_int max_two min_two max_three min_three max_four min_four   -- for this text's walks alone
set_option linter.unusedVariables false
set_option linter.unusedSimpArgs false

/-! ### impl_StressesOf: function 130 -/
def impl_StressesOf.l0 : Nat → List Int → List (S166) → Int → Int → Int → List (S166) → Int → Option (List Int)
 | 0, _, _, _, _, _, _, _ => none
 | k + 1, x3, x13, x14, x15, x310000, x310001, x310002 => if x15 < x14 then (if 0 ≤ x15 then (if x15 < (x13.length : Int) then (if 0 ≤ (wrap64 (((rd_T166 x13 x15).f0) + ((rd_T166 x13 x15).f2))) then (if (wrap64 (((rd_T166 x13 x15).f0) + ((rd_T166 x13 x15).f2))) < (x3.length : Int) then ((some (x3.set ((wrap64 (((rd_T166 x13 x15).f0) + ((rd_T166 x13 x15).f2))) : Int).toNat 1 : List Int)).bind fun y316 => (if x15 = x310002 then (impl_StressesOf.l0 k (y316.set ((wrap64 (((rd_T166 x13 x15).f0) + ((rd_T166 x13 x15).f2))) : Int).toNat 2) x13 x14 (wrap64 (x15 + 1)) x310000 x310001 x310002) else (impl_StressesOf.l0 k y316 x13 x14 (wrap64 (x15 + 1)) x310000 x310001 x310002))) else (none)) else (none)) else (none)) else (none)) else (some x3)
def impl_StressesOf.f (k : Nat) (a0_0 : Int) (l0_1 : List (S166)) (a0_2 : Int) : Option (List Int) := (impl_IsFooting.f k a0_0 l0_1 a0_2).bind fun t310 => (if t310 = true then (if 0 ≤ a0_0 then (if (a0_0 : Int).toNat ≤ 35184372088832 then (impl_StressesOf.l0 k (List.replicate (a0_0 : Int).toNat 0) l0_1 (l0_1.length : Int) 0 a0_0 l0_1 a0_2) else (none)) else (none)) else (some ([] : List Int)))
theorem impl_StressesOf.mono_l : ∀ k, (∀ y0 y1 y2 y3 y4 y5 y6, LeO (impl_StressesOf.l0 k y0 y1 y2 y3 y4 y5 y6) (impl_StressesOf.l0 (k + 1) y0 y1 y2 y3 y4 y5 y6))
 | 0 => fun _ _ _ _ _ _ _ r h => by simp [impl_StressesOf.l0] at h
 | k + 1 => by
  have ih0 := impl_StressesOf.mono_l k
  ·intro y0 y1 y2 y3 y4 y5 y6
   unfold impl_StressesOf.l0
   have m0 := impl_IsFooting.mono
   exact mn_
theorem impl_StressesOf.mono : ∀ a0 a1 a2 k, LeO (impl_StressesOf.f k a0 a1 a2) (impl_StressesOf.f (k + 1) a0 a1 a2) := by
 intro a0 a1 a2 k
 have ih0 := impl_StressesOf.mono_l k
 unfold impl_StressesOf.f
 have m0 := impl_IsFooting.mono
 exact mn_
set_option maxHeartbeats 8000000 in
set_option maxRecDepth 100000 in
theorem impl_StressesOf.calls (k : Nat) (a0_0 : Int) (A0_1 : Option Addr) (c0_1 : Nat) (l0_1 : List (S166)) (a0_2 : Int) (r : List Int) (w : World) (hr0_1 : Kd.C k166 w A0_1 l0_1.length l0_1) (hc0_1 : l0_1.length ≤ c0_1) (h : impl_StressesOf.f k a0_0 l0_1 a0_2 = some r) :
  Calls Try.prog 130 #[.agg #[.int .i64 a0_0, .slice A0_1 l0_1.length c0_1, .int .i64 a0_2]] w fun e w' => ∃ v0_ : Value, e = .returned (v0_) ∧ Kd.R (Kd.int .i64) 3 w' w.heap.size (fun _ => True) v0_ r ∧ Below w.heap.size w w' := by
 have hu90 := Try.underlying90
 have hu166 := Try.underlying166
 have HR0_1 := Aside0.mk hr0_1
 have HC0_1 := Aside0.mk hc0_1
 clear hr0_1 hc0_1
 have HB := Aside0.mk (Below.refl w.heap.size w)
 have H : ((impl_IsFooting.f k a0_0 l0_1 a0_2).bind fun t310 => (if t310 = true then (if 0 ≤ a0_0 then (if (a0_0 : Int).toNat ≤ 35184372088832 then (impl_StressesOf.l0 k (List.replicate (a0_0 : Int).toNat 0) l0_1 (l0_1.length : Int) 0 a0_0 l0_1 a0_2) else (none)) else (none)) else (some ([] : List Int)))) = some r := h
 clear h
 replace H := bnd_ H; obtain ⟨t310, A2, H⟩ := H
 replace H := itb_ H; rcases H with ⟨rfl, H⟩ | ⟨rfl, H⟩
 ·by_cases c4 : 0 ≤ a0_0
  ·rw [if_pos c4] at H
   have c4b0 := eq_true c4
   have c4b1 : decide (0 ≤ a0_0) = true := decide_eq_true c4
   clear c4
   by_cases c5 : (a0_0 : Int).toNat ≤ 35184372088832
   ·rw [if_pos c5] at H
    have c5b0 := eq_true c5
    have c5b1 : decide ((a0_0 : Int).toNat ≤ 35184372088832) = true := decide_eq_true c5
    clear c5
    obtain ⟨y311, hy311⟩ : ∃ y_ : List Int, y_ = (List.replicate (a0_0 : Int).toNat 0) := ⟨_, rfl⟩
    replace H : (impl_StressesOf.l0 k y311 l0_1 (l0_1.length : Int) 0 a0_0 l0_1 a0_2) = some r := rh_ hy311 H
    have Ny311 := Aside0.mk hy311
    clear hy311
    have H' := Aside0.mk H
    clear H
    go_enter Try.func130, Try.ntmps130
    go_wp2_with (first | ((with_reducible refine gd_ 1 ?_); refine bx_ 1 #[.int .i64 a0_0, .slice A0_1 l0_1.length c0_1, .int .i64 a0_2] 90 ?_; intro gb309 hg w6 hbox hb; have BK309 := Aside0.mk (hbox); have GW309 := gw_ HB hg; have GE309 := gw_ HB hg; replace HB := bs_ HB hb; clear hb hbox hg; obtain ⟨hcz7_0, hcz7_1, hcz7_2⟩ := c3_ BK309; have hfz7_0 := blk_frozen BK309.out 0; have hfz7_1 := blk_frozen BK309.out 1; have hfz7_2 := blk_frozen BK309.out 2) | ((with_reducible refine gc_ 128 ?_); refine gl_ (some 7) Try.func128 (impl_IsFooting.calls k a0_0 _ _ l0_1 a0_2 true _ (Kd.C_below HR0_1.out (up_ HB.out)) HC0_1.out A2.out) ?_; rintro e w8 ⟨rfl, hb⟩; refine ⟨_, rfl, ?_⟩; replace BK309 := bb_ BK309 hb; replace HB := bs_ HB hb; (try clear hb); (try clear hb2); (try clear hk); (try clear hi); obtain ⟨hcz9_0, hcz9_1, hcz9_2⟩ := c3_ BK309; have hfz9_0 := blk_frozen BK309.out 0; have hfz9_1 := blk_frozen BK309.out 1; have hfz9_2 := blk_frozen BK309.out 2) | ((with_reducible refine gd_ 11 ?_); refine Kd.R_make (Kd.int .i64) _ 3 rfl (N := 11) rfl 25 _ _ rfl a0_0 rfl rfl Try.underlying25 (.int .i64 0) 8 info3 rfl (by decide) (by omega) 0 (ok := fun _ => True) (okp := fun _ => True) rfl (fun _ hk => hk) trivial (od_) (Nat.le_trans (Nat.mul_le_mul_right _ (od_ : a0_0.toNat ≤ 35184372088832)) (by omega)) (Below.refl _ _) (Nat.le_refl _) ?_; intro v312 w10 ho11 hb hg_ hnew_; clear hg_ hnew_; (first | rw [← Ny311.out] at ho11 | (simp only [Int.reduceToNat] at ho11; rw [← Ny311.out] at ho11)); have HO313 := Aside0.mk (Kd.R_lower ho11 (below_size (up_ HB.out))); replace BK309 := bb_ BK309 hb; replace HB := bs_ HB hb; clear hb ho11; obtain ⟨hcz12_0, hcz12_1, hcz12_2⟩ := c3_ BK309; have hfz12_0 := blk_frozen BK309.out 0; have hfz12_1 := blk_frozen BK309.out 1; have hfz12_2 := blk_frozen BK309.out 2))
    go_loopg [15] k (fun kq v15 w' => ∃ (x3_1 : List Int) (x15_1 : Int), v15 = .int .i64 x15_1 ∧ Aside0 (impl_StressesOf.l0 kq x3_1 l0_1 (l0_1.length : Int) x15_1 a0_0 l0_1 a0_2 = some r) ∧ Aside0 (kq ≤ k) ∧ Aside0 (Kd.R (Kd.int .i64) 3 w' w.heap.size (fun _ => True) v312 x3_1) ∧ Aside0 (w'.heap[gb309]? = some (.cells #[.int .i64 a0_0, (.slice A0_1 l0_1.length c0_1), .int .i64 a0_2] 90 (0, 0))) ∧ Aside0 (Below w.heap.size w w'))
    case atStart => exact ⟨(y311), (0), rs_, H', ⟨Nat.le_refl _⟩, ⟨up_ HO313.out⟩, ⟨up_ BK309.out⟩, ⟨up_ HB.out⟩⟩
    case round =>
     clear H'
     try clear c1
     try clear p2
     try clear c3
     try clear c4
     try clear c4b0
     try clear c4b1
     try clear c5
     try clear c5b0
     try clear c5b1
     try clear c12
     try clear hcz12_0
     try clear hcz12_1
     try clear hcz12_2
     try clear hcz7_0
     try clear hcz7_1
     try clear hcz7_2
     try clear hcz9_0
     try clear hcz9_1
     try clear hcz9_2
     try clear hfz12_0
     try clear hfz12_1
     try clear hfz12_2
     try clear hfz7_0
     try clear hfz7_1
     try clear hfz7_2
     try clear hfz9_0
     try clear hfz9_1
     try clear hfz9_2
     obtain ⟨x3_1, x15_1, rfl, HA, HK1, HO_3, BK309, HB⟩ := hrel
     cases gk with
     | zero => exact absurd HA.out (by simp [impl_StressesOf.l0])
     | succ k1 =>
      have H := HA.out
      clear HA
      simp only [impl_StressesOf.l0] at H
      replace H := its_ H; rcases H with ⟨c13b0, H⟩ | ⟨c13b0, H⟩
      ·replace H := its_ H; rcases H with ⟨c14b0, H⟩ | ⟨_, ⟨⟩⟩
       replace H := its_ H; rcases H with ⟨c15b0, H⟩ | ⟨_, ⟨⟩⟩
       obtain ⟨ji16, hji16⟩ : ∃ j_ : Int, (wrap64 (((rd_T166 l0_1 x15_1).f0) + ((rd_T166 l0_1 x15_1).f2))) = j_ := ⟨_, rfl⟩
       replace H : (if 0 ≤ (ji16) then (if (ji16) < (x3_1.length : Int) then ((some (x3_1.set ((ji16) : Int).toNat 1 : List Int)).bind fun y316 => (if x15_1 = a0_2 then (impl_StressesOf.l0 k1 (y316.set ((ji16) : Int).toNat 2) l0_1 (l0_1.length : Int) (wrap64 (x15_1 + 1)) a0_0 l0_1 a0_2) else (impl_StressesOf.l0 k1 y316 l0_1 (l0_1.length : Int) (wrap64 (x15_1 + 1)) a0_0 l0_1 a0_2))) else (none)) else (none)) = some r := by first | (rw [hji16] at H; exact H) | (simp only [hji16] at H ⊢; exact H)
       have hji16w : (IntKind.i64.wrap (((rd_T166 l0_1 x15_1).f0) + ((rd_T166 l0_1 x15_1).f2))) = ji16 := (i64_w _).trans hji16
       replace H := its_ H; rcases H with ⟨c17b0, H⟩ | ⟨_, ⟨⟩⟩
       replace H := its_ H; rcases H with ⟨c18b0, H⟩ | ⟨_, ⟨⟩⟩
       obtain ⟨y316, hy316⟩ : ∃ y_ : List Int, y_ = (x3_1.set ((ji16) : Int).toNat 1) := ⟨_, rfl⟩
       replace H : (if x15_1 = a0_2 then (impl_StressesOf.l0 k1 (y316.set ((ji16) : Int).toNat 2) l0_1 (l0_1.length : Int) (wrap64 (x15_1 + 1)) a0_0 l0_1 a0_2) else (impl_StressesOf.l0 k1 y316 l0_1 (l0_1.length : Int) (wrap64 (x15_1 + 1)) a0_0 l0_1 a0_2)) = some r := rh_ hy316 H
       have Ny316 := Aside0.mk hy316
       clear hy316
       replace H := ieq_ H; rcases H with ⟨-, c20b0, c20b1, H⟩ | ⟨c20, c20b0, c20b1, H⟩
       ·obtain ⟨y317, hy317⟩ : ∃ y_ : List Int, y_ = (y316.set ((ji16) : Int).toNat 2) := ⟨_, rfl⟩
        replace H : (impl_StressesOf.l0 k1 y317 l0_1 (l0_1.length : Int) (wrap64 (x15_1 + 1)) a0_0 l0_1 a0_2) = some r := rh_ hy317 H
        have Ny317 := Aside0.mk hy317
        clear hy317
        have H' := Aside0.mk H
        clear H
        have p314 : 0 ≤ (x15_1 : Int) := od_
        have q314 : x15_1 < (l0_1.length : Int) := od_
        obtain ⟨ad314, e314, hx314_0, hx314_1, hx314_2⟩ := at_T166 HR0_1.out x15_1 p314 q314
        cases e314
        replace hx314_0 := bh_ HB hx314_0
        replace hx314_1 := bh_ HB hx314_1
        replace hx314_2 := bh_ HB hx314_2
        replace p314 := eq_true p314
        replace q314 := eq_true q314
        go_wp2_with (first | ((with_reducible refine gd_ 5 ?_); refine bx_ 5 #[.int .i64 0, .int .i64 0, .int .i64 0] 166 ?_; intro gb315 hg w22 hbox hb; replace HO_3 := Aside0.mk (Kd.R_below (up_ HO_3.out) hb); have BK315 := Aside0.mk (hbox); have GW315 := gw_ HB hg; have GE315 := gw_ HB hg; replace HB := bs_ HB hb; have NB309_315 := Aside0.mk ((by rw [hg]; exact Nat.ne_of_lt (blk_lt (g := gb309) (o := .cells #[.int .i64 a0_0, .slice (some ad314) l0_1.length c0_1, .int .i64 a0_2] 90 (0, 0)) (up_ BK309.out)) : gb309 ≠ gb315)); have NB315_309 := Aside0.mk ((by rw [hg]; exact Nat.ne_of_gt (blk_lt (g := gb309) (o := .cells #[.int .i64 a0_0, .slice (some ad314) l0_1.length c0_1, .int .i64 a0_2] 90 (0, 0)) (up_ BK309.out)) : gb315 ≠ gb309)); replace BK309 := bb_ BK309 hb; clear hb hbox hg; have hnb23 := NB315_309.out; have hnc23 := NB309_315.out; obtain ⟨hcz24_0, hcz24_1, hcz24_2⟩ := c3_ BK315; have hfz24_0 := blk_frozen BK315.out 0; have hfz24_1 := blk_frozen BK315.out 1; have hfz24_2 := blk_frozen BK315.out 2) | ((with_reducible refine gate_store (t := 166) (p := 5) rfl ?_); refine store_event (t := 166) (p := 5) (v := ?vo_w25) (w1 := (((w22.setCell ⟨gb315, 0, none⟩ (.int .i64 ((rd_T166 l0_1 x15_1).f0))).setCell ⟨gb315, 1, none⟩ (.int .i64 ((rd_T166 l0_1 x15_1).f1))).setCell ⟨gb315, 2, none⟩ (.int .i64 ((rd_T166 l0_1 x15_1).f2)))) ?hg ?ho ?hn ?hr ?_; (case ho => rfl); (case hg => rfl); (case hn => rfl); (case hr => first | (go_simp; done) | (go_simp; rfl)); intro w25 hw; have n0_ : Aside0 (Kd.R (Kd.int .i64) 3 w25 w.heap.size (fun _ => True) v312 x3_1) := ⟨(by rw [hw]; exact (by (with_reducible repeat (first | apply Kd.R_alloc | apply Kd.R_drewN | apply Kd.R_drew)); exact Kd.R_mono (Kd.R_far (p := ⟨gb315, 2, none⟩) (Kd.R_far (p := ⟨gb315, 1, none⟩) (Kd.R_far (p := ⟨gb315, 0, none⟩) (Kd.R_types HO_3.out BK315.out (by decide)) (fun _ hk => hk.2) (.int .i64 ((rd_T166 l0_1 x15_1).f0))) (fun _ hk => hk.2) (.int .i64 ((rd_T166 l0_1 x15_1).f1))) (fun _ hk => hk.2) (.int .i64 ((rd_T166 l0_1 x15_1).f2))) (fun _ hk => trivial)))⟩; have n1_ : Aside0 (w25.heap[gb309]? = some (.cells #[.int .i64 a0_0, .slice (some ad314) l0_1.length c0_1, .int .i64 a0_2] 90 (0, 0))) := ⟨(by rw [hw]; exact (by (with_reducible repeat (first | refine blk_drewN ?_ _ | refine blk_drew ?_ | refine blk_alloc ?_ _)); refine blk_far ?_ NB309_315.out _; (with_reducible repeat (first | refine blk_drewN ?_ _ | refine blk_drew ?_ | refine blk_alloc ?_ _)); refine blk_far ?_ NB309_315.out _; (with_reducible repeat (first | refine blk_drewN ?_ _ | refine blk_drew ?_ | refine blk_alloc ?_ _)); refine blk_far ?_ NB309_315.out _; (with_reducible repeat (first | refine blk_drewN ?_ _ | refine blk_drew ?_ | refine blk_alloc ?_ _)); exact BK309.out))⟩; have n2_ : Aside0 (w25.heap[gb315]? = some (.cells #[.int .i64 ((rd_T166 l0_1 x15_1).f0), .int .i64 ((rd_T166 l0_1 x15_1).f1), .int .i64 ((rd_T166 l0_1 x15_1).f2)] 166 (0, 0))) := ⟨(by rw [hw]; exact (by (with_reducible repeat (first | refine blk_drewN ?_ _ | refine blk_drew ?_ | refine blk_alloc ?_ _)); refine blk_put (cs := #[.int .i64 ((rd_T166 l0_1 x15_1).f0), .int .i64 ((rd_T166 l0_1 x15_1).f1), .int .i64 0]) ?_ 2 _ rfl; (with_reducible repeat (first | refine blk_drewN ?_ _ | refine blk_drew ?_ | refine blk_alloc ?_ _)); refine blk_put (cs := #[.int .i64 ((rd_T166 l0_1 x15_1).f0), .int .i64 0, .int .i64 0]) ?_ 1 _ rfl; (with_reducible repeat (first | refine blk_drewN ?_ _ | refine blk_drew ?_ | refine blk_alloc ?_ _)); refine blk_put (cs := #[.int .i64 0, .int .i64 0, .int .i64 0]) ?_ 0 _ rfl; (with_reducible repeat (first | refine blk_drewN ?_ _ | refine blk_drew ?_ | refine blk_alloc ?_ _)); exact BK315.out))⟩; have n3_ : Aside0 (Below w.heap.size w w25) := ⟨(by rw [hw]; exact (up_ HB.out))⟩; clear hw; clear HO_3; clear BK309; clear BK315; clear HB; have HO_3 := n0_; have BK309 := n1_; have BK315 := n2_; have HB := n3_; clear n0_ n1_ n2_ n3_; obtain ⟨hcz26_0, hcz26_1, hcz26_2⟩ := c3_ BK315; have hfz26_0 := blk_frozen BK315.out 0; have hfz26_1 := blk_frozen BK315.out 1; have hfz26_2 := blk_frozen BK315.out 2; have p19 : 0 ≤ ((ji16) : Int) := od_; have q19 : ((ji16) : Int) < ((x3_1.length : Int) : Int) := od_; obtain ⟨go19, co19, eo19, gb19, gl19, cl19, HG19⟩ := Kd.R_form HO_3.out (by omega); (first | cases eo19 | (injection eo19 with ea_ en_ ec_; (first | subst ea_ | (injection ea_ with ea_; subst ea_)); subst ec_; clear en_)); have GB19 := Aside0.mk gb19; have GG19 := Aside0.mk HG19; clear gb19 gl19 HG19; obtain ⟨hx19_0, hf19_0⟩ := Kd.R_celln 0 HO_3.out ((ji16) : Int) p19 q19; replace p19 := eq_true p19; replace q19 := eq_true q19; obtain ⟨hy27_, hz27_⟩ := Kd.R_celln 0 HO_3.out ((ji16) : Int) (od_) (od_); have HP27 := Kd.R_putg HO_3.out ((ji16) : Int) 1) | ((with_reducible refine gate_store (t := 3) (p := 26) rfl ?_); refine store_event (t := 3) (p := 26) (v := ?vo_w28) (w1 := (w25.setCell ⟨go19, ((ji16) : Int).toNat, none⟩ (.int .i64 1))) ?hg ?ho ?hn ?hr ?_; (case ho => rfl); (case hg => rfl); (case hn => rfl); (case hr => first | (go_simp; done) | (go_simp; rfl)); intro w28 hw; have hg : w25.grownBy w28 (some go19) := (by rw [hw]; exact HP27.2); have hp_ : Kd.R (Kd.int .i64) 3 w28 w.heap.size (fun _ => True) (.slice (some ⟨go19, 0, none⟩) x3_1.length co19) y316 := (by rw [hw, Ny316.out]; exact HP27.1); clear HP27; replace BK309 := Aside0.mk (blk_grown (g := gb309) (o := .cells #[.int .i64 a0_0, .slice (some ad314) l0_1.length c0_1, .int .i64 a0_2] 90 (0, 0)) (up_ BK309.out) hg (Kd.R_ne HO_3.out BK309.out (by decide))); replace BK315 := Aside0.mk (blk_grown (g := gb315) (o := .cells #[.int .i64 ((rd_T166 l0_1 x15_1).f0), .int .i64 ((rd_T166 l0_1 x15_1).f1), .int .i64 ((rd_T166 l0_1 x15_1).f2)] 166 (0, 0)) (up_ BK315.out) hg (Kd.R_ne HO_3.out BK315.out (by decide))); replace HO_3 := Aside0.mk (hp_); replace HB := Aside0.mk ((by rw [hw]; exact below_set (HB.out) GB19.out : Below w.heap.size w w28)); clear hg hw hp_; obtain ⟨hcz29_0, hcz29_1, hcz29_2⟩ := c3_ BK309; have hfz29_0 := blk_frozen BK309.out 0; have hfz29_1 := blk_frozen BK309.out 1; have hfz29_2 := blk_frozen BK309.out 2; obtain ⟨hcz30_0, hcz30_1, hcz30_2⟩ := c3_ BK315; have hfz30_0 := blk_frozen BK315.out 0; have hfz30_1 := blk_frozen BK315.out 1; have hfz30_2 := blk_frozen BK315.out 2; have p21 : 0 ≤ ((ji16) : Int) := od_; have q21 : ((ji16) : Int) < ((x3_1.length : Int) : Int) := od_; obtain ⟨hx21_0, hf21_0⟩ := Kd.R_celln 0 HO_3.out ((ji16) : Int) p21 q21; replace p21 := eq_true p21; replace q21 := eq_true q21; obtain ⟨hy31_, hz31_⟩ := Kd.R_celln 0 HO_3.out ((ji16) : Int) (od_) (od_); have HP31 := Kd.R_putg HO_3.out ((ji16) : Int) 2) | ((with_reducible refine gate_store (t := 3) (p := 37) rfl ?_); refine store_event (t := 3) (p := 37) (v := ?vo_w32) (w1 := (w28.setCell ⟨go19, ((ji16) : Int).toNat, none⟩ (.int .i64 2))) ?hg ?ho ?hn ?hr ?_; (case ho => rfl); (case hg => rfl); (case hn => rfl); (case hr => first | (go_simp; done) | (go_simp; rfl)); intro w32 hw; have hg : w28.grownBy w32 (some go19) := (by rw [hw]; exact HP31.2); have hp_ : Kd.R (Kd.int .i64) 3 w32 w.heap.size (fun _ => True) (.slice (some ⟨go19, 0, none⟩) x3_1.length co19) y317 := (by rw [hw, Ny317.out]; exact HP31.1); clear HP31; replace BK309 := Aside0.mk (blk_grown (g := gb309) (o := .cells #[.int .i64 a0_0, .slice (some ad314) l0_1.length c0_1, .int .i64 a0_2] 90 (0, 0)) (up_ BK309.out) hg (Kd.R_ne HO_3.out BK309.out (by decide))); replace BK315 := Aside0.mk (blk_grown (g := gb315) (o := .cells #[.int .i64 ((rd_T166 l0_1 x15_1).f0), .int .i64 ((rd_T166 l0_1 x15_1).f1), .int .i64 ((rd_T166 l0_1 x15_1).f2)] 166 (0, 0)) (up_ BK315.out) hg (Kd.R_ne HO_3.out BK315.out (by decide))); replace HO_3 := Aside0.mk (hp_); replace HB := Aside0.mk ((by rw [hw]; exact below_set (HB.out) GB19.out : Below w.heap.size w w32)); clear hg hw hp_))
        go_roundg k1
        case measure => have := HK1.out; omega
        case rel => exact ⟨(y317), (wrap64 (x15_1 + 1)), rs_, H', ⟨by have := HK1.out; omega⟩, ⟨up_ HO_3.out⟩, ⟨up_ BK309.out⟩, ⟨up_ HB.out⟩⟩
       ·have H' := Aside0.mk H
        clear H
        have p314 : 0 ≤ (x15_1 : Int) := od_
        have q314 : x15_1 < (l0_1.length : Int) := od_
        obtain ⟨ad314, e314, hx314_0, hx314_1, hx314_2⟩ := at_T166 HR0_1.out x15_1 p314 q314
        cases e314
        replace hx314_0 := bh_ HB hx314_0
        replace hx314_1 := bh_ HB hx314_1
        replace hx314_2 := bh_ HB hx314_2
        replace p314 := eq_true p314
        replace q314 := eq_true q314
        go_wp2_with (first | ((with_reducible refine gd_ 5 ?_); refine bx_ 5 #[.int .i64 0, .int .i64 0, .int .i64 0] 166 ?_; intro gb315 hg w33 hbox hb; replace HO_3 := Aside0.mk (Kd.R_below (up_ HO_3.out) hb); have BK315 := Aside0.mk (hbox); have GW315 := gw_ HB hg; have GE315 := gw_ HB hg; replace HB := bs_ HB hb; have NB309_315 := Aside0.mk ((by rw [hg]; exact Nat.ne_of_lt (blk_lt (g := gb309) (o := .cells #[.int .i64 a0_0, .slice (some ad314) l0_1.length c0_1, .int .i64 a0_2] 90 (0, 0)) (up_ BK309.out)) : gb309 ≠ gb315)); have NB315_309 := Aside0.mk ((by rw [hg]; exact Nat.ne_of_gt (blk_lt (g := gb309) (o := .cells #[.int .i64 a0_0, .slice (some ad314) l0_1.length c0_1, .int .i64 a0_2] 90 (0, 0)) (up_ BK309.out)) : gb315 ≠ gb309)); replace BK309 := bb_ BK309 hb; clear hb hbox hg; have hnb34 := NB315_309.out; have hnc34 := NB309_315.out; obtain ⟨hcz35_0, hcz35_1, hcz35_2⟩ := c3_ BK315; have hfz35_0 := blk_frozen BK315.out 0; have hfz35_1 := blk_frozen BK315.out 1; have hfz35_2 := blk_frozen BK315.out 2) | ((with_reducible refine gate_store (t := 166) (p := 5) rfl ?_); refine store_event (t := 166) (p := 5) (v := ?vo_w36) (w1 := (((w33.setCell ⟨gb315, 0, none⟩ (.int .i64 ((rd_T166 l0_1 x15_1).f0))).setCell ⟨gb315, 1, none⟩ (.int .i64 ((rd_T166 l0_1 x15_1).f1))).setCell ⟨gb315, 2, none⟩ (.int .i64 ((rd_T166 l0_1 x15_1).f2)))) ?hg ?ho ?hn ?hr ?_; (case ho => rfl); (case hg => rfl); (case hn => rfl); (case hr => first | (go_simp; done) | (go_simp; rfl)); intro w36 hw; have n0_ : Aside0 (Kd.R (Kd.int .i64) 3 w36 w.heap.size (fun _ => True) v312 x3_1) := ⟨(by rw [hw]; exact (by (with_reducible repeat (first | apply Kd.R_alloc | apply Kd.R_drewN | apply Kd.R_drew)); exact Kd.R_mono (Kd.R_far (p := ⟨gb315, 2, none⟩) (Kd.R_far (p := ⟨gb315, 1, none⟩) (Kd.R_far (p := ⟨gb315, 0, none⟩) (Kd.R_types HO_3.out BK315.out (by decide)) (fun _ hk => hk.2) (.int .i64 ((rd_T166 l0_1 x15_1).f0))) (fun _ hk => hk.2) (.int .i64 ((rd_T166 l0_1 x15_1).f1))) (fun _ hk => hk.2) (.int .i64 ((rd_T166 l0_1 x15_1).f2))) (fun _ hk => trivial)))⟩; have n1_ : Aside0 (w36.heap[gb309]? = some (.cells #[.int .i64 a0_0, .slice (some ad314) l0_1.length c0_1, .int .i64 a0_2] 90 (0, 0))) := ⟨(by rw [hw]; exact (by (with_reducible repeat (first | refine blk_drewN ?_ _ | refine blk_drew ?_ | refine blk_alloc ?_ _)); refine blk_far ?_ NB309_315.out _; (with_reducible repeat (first | refine blk_drewN ?_ _ | refine blk_drew ?_ | refine blk_alloc ?_ _)); refine blk_far ?_ NB309_315.out _; (with_reducible repeat (first | refine blk_drewN ?_ _ | refine blk_drew ?_ | refine blk_alloc ?_ _)); refine blk_far ?_ NB309_315.out _; (with_reducible repeat (first | refine blk_drewN ?_ _ | refine blk_drew ?_ | refine blk_alloc ?_ _)); exact BK309.out))⟩; have n2_ : Aside0 (w36.heap[gb315]? = some (.cells #[.int .i64 ((rd_T166 l0_1 x15_1).f0), .int .i64 ((rd_T166 l0_1 x15_1).f1), .int .i64 ((rd_T166 l0_1 x15_1).f2)] 166 (0, 0))) := ⟨(by rw [hw]; exact (by (with_reducible repeat (first | refine blk_drewN ?_ _ | refine blk_drew ?_ | refine blk_alloc ?_ _)); refine blk_put (cs := #[.int .i64 ((rd_T166 l0_1 x15_1).f0), .int .i64 ((rd_T166 l0_1 x15_1).f1), .int .i64 0]) ?_ 2 _ rfl; (with_reducible repeat (first | refine blk_drewN ?_ _ | refine blk_drew ?_ | refine blk_alloc ?_ _)); refine blk_put (cs := #[.int .i64 ((rd_T166 l0_1 x15_1).f0), .int .i64 0, .int .i64 0]) ?_ 1 _ rfl; (with_reducible repeat (first | refine blk_drewN ?_ _ | refine blk_drew ?_ | refine blk_alloc ?_ _)); refine blk_put (cs := #[.int .i64 0, .int .i64 0, .int .i64 0]) ?_ 0 _ rfl; (with_reducible repeat (first | refine blk_drewN ?_ _ | refine blk_drew ?_ | refine blk_alloc ?_ _)); exact BK315.out))⟩; have n3_ : Aside0 (Below w.heap.size w w36) := ⟨(by rw [hw]; exact (up_ HB.out))⟩; clear hw; clear HO_3; clear BK309; clear BK315; clear HB; have HO_3 := n0_; have BK309 := n1_; have BK315 := n2_; have HB := n3_; clear n0_ n1_ n2_ n3_; obtain ⟨hcz37_0, hcz37_1, hcz37_2⟩ := c3_ BK315; have hfz37_0 := blk_frozen BK315.out 0; have hfz37_1 := blk_frozen BK315.out 1; have hfz37_2 := blk_frozen BK315.out 2; have p19 : 0 ≤ ((ji16) : Int) := od_; have q19 : ((ji16) : Int) < ((x3_1.length : Int) : Int) := od_; obtain ⟨go19, co19, eo19, gb19, gl19, cl19, HG19⟩ := Kd.R_form HO_3.out (by omega); (first | cases eo19 | (injection eo19 with ea_ en_ ec_; (first | subst ea_ | (injection ea_ with ea_; subst ea_)); subst ec_; clear en_)); have GB19 := Aside0.mk gb19; have GG19 := Aside0.mk HG19; clear gb19 gl19 HG19; obtain ⟨hx19_0, hf19_0⟩ := Kd.R_celln 0 HO_3.out ((ji16) : Int) p19 q19; replace p19 := eq_true p19; replace q19 := eq_true q19; obtain ⟨hy38_, hz38_⟩ := Kd.R_celln 0 HO_3.out ((ji16) : Int) (od_) (od_); have HP38 := Kd.R_putg HO_3.out ((ji16) : Int) 1) | ((with_reducible refine gate_store (t := 3) (p := 26) rfl ?_); refine store_event (t := 3) (p := 26) (v := ?vo_w39) (w1 := (w36.setCell ⟨go19, ((ji16) : Int).toNat, none⟩ (.int .i64 1))) ?hg ?ho ?hn ?hr ?_; (case ho => rfl); (case hg => rfl); (case hn => rfl); (case hr => first | (go_simp; done) | (go_simp; rfl)); intro w39 hw; have hg : w36.grownBy w39 (some go19) := (by rw [hw]; exact HP38.2); have hp_ : Kd.R (Kd.int .i64) 3 w39 w.heap.size (fun _ => True) (.slice (some ⟨go19, 0, none⟩) x3_1.length co19) y316 := (by rw [hw, Ny316.out]; exact HP38.1); clear HP38; replace BK309 := Aside0.mk (blk_grown (g := gb309) (o := .cells #[.int .i64 a0_0, .slice (some ad314) l0_1.length c0_1, .int .i64 a0_2] 90 (0, 0)) (up_ BK309.out) hg (Kd.R_ne HO_3.out BK309.out (by decide))); replace BK315 := Aside0.mk (blk_grown (g := gb315) (o := .cells #[.int .i64 ((rd_T166 l0_1 x15_1).f0), .int .i64 ((rd_T166 l0_1 x15_1).f1), .int .i64 ((rd_T166 l0_1 x15_1).f2)] 166 (0, 0)) (up_ BK315.out) hg (Kd.R_ne HO_3.out BK315.out (by decide))); replace HO_3 := Aside0.mk (hp_); replace HB := Aside0.mk ((by rw [hw]; exact below_set (HB.out) GB19.out : Below w.heap.size w w39)); clear hg hw hp_; obtain ⟨hcz40_0, hcz40_1, hcz40_2⟩ := c3_ BK309; have hfz40_0 := blk_frozen BK309.out 0; have hfz40_1 := blk_frozen BK309.out 1; have hfz40_2 := blk_frozen BK309.out 2))
        go_roundg k1
        case measure => have := HK1.out; omega
        case rel => exact ⟨(y316), (wrap64 (x15_1 + 1)), rs_, H', ⟨by have := HK1.out; omega⟩, ⟨up_ HO_3.out⟩, ⟨up_ BK309.out⟩, ⟨up_ HB.out⟩⟩
      ·obtain rfl := Option.some.inj H
       go_wp2
       go_ret
       exact ⟨_, re_, by (with_reducible repeat (first | apply Kd.R_alloc | apply Kd.R_drewN | apply Kd.R_drew)); exact HO_3.out, up_ HB.out⟩
   ·rw [if_neg c5] at H
    exact absurd H (by simp)
  ·rw [if_neg c4] at H
   exact absurd H (by simp)
 ·obtain rfl := Option.some.inj H
  go_enter Try.func130, Try.ntmps130
  go_wp2_with (first | ((with_reducible refine gd_ 1 ?_); refine bx_ 1 #[.int .i64 a0_0, .slice A0_1 l0_1.length c0_1, .int .i64 a0_2] 90 ?_; intro gb309 hg w41 hbox hb; have BK309 := Aside0.mk (hbox); have GW309 := gw_ HB hg; have GE309 := gw_ HB hg; replace HB := bs_ HB hb; clear hb hbox hg; obtain ⟨hcz42_0, hcz42_1, hcz42_2⟩ := c3_ BK309; have hfz42_0 := blk_frozen BK309.out 0; have hfz42_1 := blk_frozen BK309.out 1; have hfz42_2 := blk_frozen BK309.out 2) | ((with_reducible refine gc_ 128 ?_); refine gl_ (some 7) Try.func128 (impl_IsFooting.calls k a0_0 _ _ l0_1 a0_2 false _ (Kd.C_below HR0_1.out (up_ HB.out)) HC0_1.out A2.out) ?_; rintro e w43 ⟨rfl, hb⟩; refine ⟨_, rfl, ?_⟩; replace BK309 := bb_ BK309 hb; replace HB := bs_ HB hb; (try clear hb); (try clear hb2); (try clear hk); (try clear hi)))
  go_ret
  exact ⟨_, re_, by first | exact Kd.R_nil _ _ _ _ _ | exact Kd.N_nil _ _ _ _ _ | exact Kd.V_nil _ _ _ _ _ | exact Kd.Q_nil _ _ _ _ _ | exact Kd.S_nil _ _ _ _ _, up_ HB.out⟩

/-! ### impl_RowOf: function 175 -/
mutual
def impl_RowOf.j0 : Nat → List Int → List Int → Bool → Option (List Int × Bool)
 | 0, _, _, _ => none
 | k + 1, x0, x1, x19 => if x19 = true then (some (([] : List Int), false)) else (impl_RowOf.l0 k x0 x1 (x0.length : Int) 0 ([] : List Int))
def impl_RowOf.l0 : Nat → List Int → List Int → Int → Int → List Int → Option (List Int × Bool)
 | 0, _, _, _, _, _ => none
 | k + 1, x0, x1, x23, x24, x321000 => if x24 < x23 then (if 0 ≤ x24 then (if x24 < (x0.length : Int) then (if x24 < (x1.length : Int) then (if (rd x0 x24) < (rd x1 x24) then (if x321000.length < 17592186044416 then (impl_RowOf.l0 k x0 x1 x23 (wrap64 (x24 + 1)) (x321000 ++ [1])) else (none)) else (if (rd x0 x24) > (rd x1 x24) then (if x321000.length < 17592186044416 then (impl_RowOf.l0 k x0 x1 x23 (wrap64 (x24 + 1)) (x321000 ++ [(-1)])) else (none)) else (if x321000.length < 17592186044416 then (impl_RowOf.l0 k x0 x1 x23 (wrap64 (x24 + 1)) (x321000 ++ [0])) else (none)))) else (none)) else (none)) else (none)) else (some (x321000, true))
end
def impl_RowOf.f (k : Nat) (l0 : List Int) (l1 : List Int) : Option (List Int × Bool) := if (l0.length : Int) = (l1.length : Int) then ((impl_within.f (l0.length : Int) 1 5).bind fun t319 => (impl_RowOf.j0 k l0 l1 (!t319))) else (impl_RowOf.j0 k l0 l1 true)
set_option maxHeartbeats 8000000 in
set_option maxRecDepth 100000 in
theorem impl_RowOf.calls (k : Nat) (A0 : Option Addr) (c0 : Nat) (l0 : List Int) (A1 : Option Addr) (c1 : Nat) (l1 : List Int) (r1 : List Int) (r2 : Bool) (w : World) (hr0 : Kd.C (Kd.int .i64) w A0 l0.length l0) (hc0 : l0.length ≤ c0) (hr1 : Kd.C (Kd.int .i64) w A1 l1.length l1) (hc1 : l1.length ≤ c1) (h : impl_RowOf.f k l0 l1 = some (r1, r2)) :
  Calls Try.prog 175 #[.slice A0 l0.length c0, .slice A1 l1.length c1] w fun e w' => ∃ v0_ : Value, e = .returned (.tuple #[.agg #[v0_], .bool r2]) ∧ Kd.R (Kd.int .i64) 3 w' w.heap.size (fun _ => True) v0_ r1 ∧ Below w.heap.size w w' := by
 have hu34 := Try.underlying34
 have HR0 := Aside0.mk hr0
 have HC0 := Aside0.mk hc0
 clear hr0 hc0
 have HR1 := Aside0.mk hr1
 have HC1 := Aside0.mk hc1
 clear hr1 hc1
 have HB := Aside0.mk (Below.refl w.heap.size w)
 have H : (if (l0.length : Int) = (l1.length : Int) then ((impl_within.f (l0.length : Int) 1 5).bind fun t319 => (impl_RowOf.j0 k l0 l1 (!t319))) else (impl_RowOf.j0 k l0 l1 true)) = some (r1, r2) := h
 clear h
 have HC3 := Aside0.mk H
 clear H
 go_enter Try.func175, Try.ntmps175
 go_upto_region 1 with (first | ((with_reducible refine gd_ 4 ?_); (try (refine gate_guard (by rfl) ?_; dsimp only)); refine bx_ 4 #[.slice none 0 0] 34 ?_; intro gb318 hg w4 hbox hb; have BK318 := Aside0.mk (hbox); have GW318 := gw_ HB hg; have GE318 := gw_ HB hg; replace HB := bs_ HB hb; clear hb hbox hg))
 repeat (go_quiet (first | ((with_reducible refine gd_ 4 ?_); (try (refine gate_guard (by rfl) ?_; dsimp only)); refine bx_ 4 #[.slice none 0 0] 34 ?_; intro gb318 hg w4 hbox hb; have BK318 := Aside0.mk (hbox); have GW318 := gw_ HB hg; have GE318 := gw_ HB hg; replace HB := bs_ HB hb; clear hb hbox hg)); go_upto_region 1 with (first | ((with_reducible refine gd_ 4 ?_); (try (refine gate_guard (by rfl) ?_; dsimp only)); refine bx_ 4 #[.slice none 0 0] 34 ?_; intro gb318 hg w4 hbox hb; have BK318 := Aside0.mk (hbox); have GW318 := gw_ HB hg; have GE318 := gw_ HB hg; replace HB := bs_ HB hb; clear hb hbox hg)))
 (try simp only [Act.put, List.setIfInBounds_toArray, List.set_cons_zero, List.set_cons_succ])
 go_cut [19] (fun v19 wc => ∃ (kq : Nat) (x19_2 : Bool), v19 = .bool x19_2 ∧ Aside0 (impl_RowOf.j0 kq l0 l1 x19_2 = some (r1, r2)) ∧ Aside0 (kq ≤ k) ∧ Aside0 (wc.heap[gb318]? = some (.cells #[(.slice none 0 0)] 34 (0, 0))) ∧ Aside0 (Below w.heap.size w wc))
 case first =>
  have H := HC3.out
  clear HC3
  replace H := ieq_ H; rcases H with ⟨c5, c5b0, c5b1, H⟩ | ⟨c5, c5b0, c5b1, H⟩
  ·have c5b2 : (l0.length == l1.length) = true := by first | simpa using c5 | (simp at c5 ⊢; omega)
   clear c5
   (first | rw [c5b0] | (simp only [i64_w, i32_w]; rw [c5b0]) | skip)
   replace H := Option.bind_eq_some_iff.mp H
   obtain ⟨t319, A60, H⟩ := H
   replace H : (impl_RowOf.j0 k l0 l1 (!t319)) = some (r1, r2) := H
   have A6 := Aside0.mk A60
   clear A60
   have H' := Aside0.mk H
   clear H
   go_wp2_with (first | (go_at_call 98; (with_reducible refine (impl_within.calls (l0.length : Int) 1 5 t319 _ A6.out).mono ?_); rintro e w' ⟨rfl, ⟨nd, rfl⟩⟩; (try first | exact ⟨rfl, _, World.drewN_drewN _ _ _⟩ | exact ⟨rfl, _, Eq.trans (World.drewN_drewN _ _ _) (congrArg (World.drewN _) (Nat.add_assoc _ _ _))⟩)))
   repeat (go_quiet (first | (go_at_call 98; (with_reducible refine (impl_within.calls (l0.length : Int) 1 5 t319 _ A6.out).mono ?_); rintro e w' ⟨rfl, ⟨nd, rfl⟩⟩; (try first | exact ⟨rfl, _, World.drewN_drewN _ _ _⟩ | exact ⟨rfl, _, Eq.trans (World.drewN_drewN _ _ _) (congrArg (World.drewN _) (Nat.add_assoc _ _ _))⟩))); try go_wp2_with (first | (go_at_call 98; (with_reducible refine (impl_within.calls (l0.length : Int) 1 5 t319 _ A6.out).mono ?_); rintro e w' ⟨rfl, ⟨nd, rfl⟩⟩; (try first | exact ⟨rfl, _, World.drewN_drewN _ _ _⟩ | exact ⟨rfl, _, Eq.trans (World.drewN_drewN _ _ _) (congrArg (World.drewN _) (Nat.add_assoc _ _ _))⟩))))
   go_meet
   case rel => exact ⟨_, (!t319), rs_, H', ⟨by first | omega | exact Nat.le_refl _⟩, ⟨up_ BK318.out⟩, ⟨up_ HB.out⟩⟩
  ·have c5b2 : (l0.length == l1.length) = false := by first | simpa using c5 | (simp at c5 ⊢; omega)
   (first | rw [c5b0] | (simp only [i64_w, i32_w]; rw [c5b0]) | skip)
   have H' := Aside0.mk H
   clear H
   go_wp2
   repeat (go_quiet (fail); try go_wp2)
   go_meet
   case rel => exact ⟨_, (true), rs_, H', ⟨by first | omega | exact Nat.le_refl _⟩, ⟨up_ BK318.out⟩, ⟨up_ HB.out⟩⟩
 case rest =>
  clear HC3
  try clear c1
  try clear p2
  try clear c5
  try clear c5b0
  try clear c5b1
  try clear c5b2
  obtain ⟨kq, x19_2, rfl, HA, HJ2, BK318, HB⟩ := hcut
  cases kq with
  | zero => exact absurd HA.out (by simp [impl_RowOf.j0])
  | succ kj2 =>
   have H := HA.out
   clear HA
   simp only [impl_RowOf.j0] at H
   replace H := itb_ H; rcases H with ⟨rfl, H⟩ | ⟨rfl, H⟩
   ·simp only [Option.some.injEq, Prod.mk.injEq] at H
    obtain ⟨rfl, rfl⟩ := H
    have hcz8_0 := c1_ BK318
    have hfz8_0 := blk_frozen BK318.out 0
    go_wp2
    repeat (go_quiet (fail); try go_wp2)
    refine bodyPost_ret (results_ct rfl _ _ gb318 34 #[.slice none 0 0] (0, 0) _ rfl (by (with_reducible repeat (first | refine blk_drewN ?_ _ | refine blk_drew ?_ | refine blk_alloc ?_ _)); refine blk_put (cs := #[.slice none 0 0]) ?_ 0 _ rfl; (with_reducible repeat (first | refine blk_drewN ?_ _ | refine blk_drew ?_ | refine blk_alloc ?_ _)); exact BK318.out) Try.underlying34 rfl (by kernel_rfl)) rfl ?_
    exact ⟨_, re_, by first | exact Kd.R_nil _ _ _ _ _ | exact Kd.N_nil _ _ _ _ _ | exact Kd.V_nil _ _ _ _ _ | exact Kd.Q_nil _ _ _ _ _ | exact Kd.S_nil _ _ _ _ _, up_ HB.out⟩
   ·have H' := Aside0.mk H
    clear H
    go_wp2_with (first | ((with_reducible refine gd_ 6 ?_); (try (refine gate_guard (by rfl) ?_; dsimp only)); refine bx_ 6 #[.slice none 0 0] 34 ?_; intro gb320 hg w9 hbox hb; have BK320 := Aside0.mk (hbox); have GW320 := gw_ HB hg; have GE320 := gw_ HB hg; replace HB := bs_ HB hb; have NB318_320 := Aside0.mk ((by rw [hg]; exact Nat.ne_of_lt (blk_lt (g := gb318) (o := .cells #[.slice none 0 0] 34 (0, 0)) (up_ BK318.out)) : gb318 ≠ gb320)); have NB320_318 := Aside0.mk ((by rw [hg]; exact Nat.ne_of_gt (blk_lt (g := gb318) (o := .cells #[.slice none 0 0] 34 (0, 0)) (up_ BK318.out)) : gb320 ≠ gb318)); replace BK318 := bb_ BK318 hb; clear hb hbox hg; have hnb10 := NB320_318.out; have hnc10 := NB318_320.out; have hcz11_0 := c1_ BK320; have hfz11_0 := blk_frozen BK320.out 0))
    repeat (go_quiet (first | ((with_reducible refine gd_ 6 ?_); (try (refine gate_guard (by rfl) ?_; dsimp only)); refine bx_ 6 #[.slice none 0 0] 34 ?_; intro gb320 hg w9 hbox hb; have BK320 := Aside0.mk (hbox); have GW320 := gw_ HB hg; have GE320 := gw_ HB hg; replace HB := bs_ HB hb; have NB318_320 := Aside0.mk ((by rw [hg]; exact Nat.ne_of_lt (blk_lt (g := gb318) (o := .cells #[.slice none 0 0] 34 (0, 0)) (up_ BK318.out)) : gb318 ≠ gb320)); have NB320_318 := Aside0.mk ((by rw [hg]; exact Nat.ne_of_gt (blk_lt (g := gb318) (o := .cells #[.slice none 0 0] 34 (0, 0)) (up_ BK318.out)) : gb320 ≠ gb318)); replace BK318 := bb_ BK318 hb; clear hb hbox hg; have hnb10 := NB320_318.out; have hnc10 := NB318_320.out; have hcz11_0 := c1_ BK320; have hfz11_0 := blk_frozen BK320.out 0)); try go_wp2_with (first | ((with_reducible refine gd_ 6 ?_); (try (refine gate_guard (by rfl) ?_; dsimp only)); refine bx_ 6 #[.slice none 0 0] 34 ?_; intro gb320 hg w9 hbox hb; have BK320 := Aside0.mk (hbox); have GW320 := gw_ HB hg; have GE320 := gw_ HB hg; replace HB := bs_ HB hb; have NB318_320 := Aside0.mk ((by rw [hg]; exact Nat.ne_of_lt (blk_lt (g := gb318) (o := .cells #[.slice none 0 0] 34 (0, 0)) (up_ BK318.out)) : gb318 ≠ gb320)); have NB320_318 := Aside0.mk ((by rw [hg]; exact Nat.ne_of_gt (blk_lt (g := gb318) (o := .cells #[.slice none 0 0] 34 (0, 0)) (up_ BK318.out)) : gb320 ≠ gb318)); replace BK318 := bb_ BK318 hb; clear hb hbox hg; have hnb10 := NB320_318.out; have hnc10 := NB318_320.out; have hcz11_0 := c1_ BK320; have hfz11_0 := blk_frozen BK320.out 0)))
    go_loopg [24] kj2 (fun kq v24 w' => ∃ (x24_2 : Int) (x321000_2 : List Int) (u321000 : Value), v24 = .int .i64 x24_2 ∧ Aside0 (impl_RowOf.l0 kq l0 l1 (l0.length : Int) x24_2 x321000_2 = some (r1, r2)) ∧ Aside0 (kq ≤ kj2) ∧ Aside0 (Kd.R (Kd.int .i64) 3 w' w.heap.size (fun _ => True) u321000 x321000_2) ∧ Aside0 (w'.heap[gb318]? = some (.cells #[(.slice none 0 0)] 34 (0, 0))) ∧ Aside0 (w'.heap[gb320]? = some (.cells #[u321000] 34 (0, 0))) ∧ Aside0 (Below w.heap.size w w'))
    case atStart => exact ⟨(0), (([] : List Int)), (.slice none 0 0), rs_, H', ⟨Nat.le_refl _⟩, ⟨by first | exact Kd.R_nil _ _ _ _ _ | exact Kd.N_nil _ _ _ _ _ | exact Kd.V_nil _ _ _ _ _ | exact Kd.Q_nil _ _ _ _ _ | exact Kd.S_nil _ _ _ _ _⟩, ⟨by (with_reducible repeat (first | refine blk_drewN ?_ _ | refine blk_drew ?_ | refine blk_alloc ?_ _)); refine blk_far ?_ NB318_320.out _; (with_reducible repeat (first | refine blk_drewN ?_ _ | refine blk_drew ?_ | refine blk_alloc ?_ _)); exact BK318.out⟩, ⟨by (with_reducible repeat (first | refine blk_drewN ?_ _ | refine blk_drew ?_ | refine blk_alloc ?_ _)); refine blk_put (cs := #[.slice none 0 0]) ?_ 0 _ rfl; (with_reducible repeat (first | refine blk_drewN ?_ _ | refine blk_drew ?_ | refine blk_alloc ?_ _)); exact BK320.out⟩, ⟨up_ HB.out⟩⟩
    case round =>
     clear H'
     try clear c1
     try clear p2
     try clear c5
     try clear c5b0
     try clear c5b1
     try clear c5b2
     try clear c7
     try clear c10
     try clear hcz11_0
     try clear hcz8_0
     try clear hfz11_0
     try clear hfz8_0
     try clear p2
     obtain ⟨x24_2, x321000_2, u321000, rfl, HA, HK2, HO_321000, BK318, BK320, HB⟩ := hrel
     cases gk with
     | zero => exact absurd HA.out (by simp [impl_RowOf.l0])
     | succ k2 =>
      have H := HA.out
      clear HA
      simp only [impl_RowOf.l0] at H
      replace H := its_ H; rcases H with ⟨c12b0, H⟩ | ⟨c12b0, H⟩
      ·replace H := its_ H; rcases H with ⟨c13b0, H⟩ | ⟨_, ⟨⟩⟩
       replace H := its_ H; rcases H with ⟨c14b0, H⟩ | ⟨_, ⟨⟩⟩
       replace H := its_ H; rcases H with ⟨c15b0, H⟩ | ⟨_, ⟨⟩⟩
       replace H := its_ H; rcases H with ⟨c16b0, H⟩ | ⟨c16b0, H⟩
       ·by_cases c17 : x321000_2.length < 17592186044416
        ·rw [if_pos c17] at H
         have LMc17 := Aside0.mk c17
         clear c17
         obtain ⟨y323, hy323⟩ : ∃ y_ : List Int, y_ = (x321000_2 ++ [1]) := ⟨_, rfl⟩
         replace H : (impl_RowOf.l0 k2 l0 l1 (l0.length : Int) (wrap64 (x24_2 + 1)) y323) = some (r1, r2) := rh_ hy323 H
         have Ny323 := Aside0.mk hy323
         clear hy323
         have H' := Aside0.mk H
         clear H
         have p321 : 0 ≤ (x24_2 : Int) := od_
         have q321 : x24_2 < (l0.length : Int) := od_
         obtain ⟨ad321, e321, hx321_0⟩ := Kd.at_int HR0.out x24_2 p321 q321
         cases e321
         replace hx321_0 := bh_ HB hx321_0
         replace p321 := eq_true p321
         replace q321 := eq_true q321
         have p322 : 0 ≤ (x24_2 : Int) := od_
         have q322 : x24_2 < (l1.length : Int) := od_
         obtain ⟨ad322, e322, hx322_0⟩ := Kd.at_int HR1.out x24_2 p322 q322
         cases e322
         replace hx322_0 := bh_ HB hx322_0
         replace p322 := eq_true p322
         replace q322 := eq_true q322
         have hnb18 := NB320_318.out
         have hnc18 := NB318_320.out
         have hcz19_0 := c1_ BK320
         have hfz19_0 := blk_frozen BK320.out 0
         go_wp2_with (first | ((with_reducible refine gate_builtin (b := .append) (xs := #[.tmp 46, .tmp 48]) rfl ?_); (try (refine gate_guard (by rfl) ?_; dsimp only)); at_builtin; refine Kd.R_append (Kd.int .i64) (w0 := w) w.heap.size rfl (.tmp 46) (.tmp 48) 25 3 (.int .i64 0) 8 rfl Try.underlying25 info3 rfl (by decide) (by omega) u321000 x321000_2 1 [.int .i64 1] (fun _ => True) (fun _ => False) rfl rfl ?aP (fun _ hk => hk.elim) ?aF ?aO ?aB ?aS ?aL ?_; (case aP => exact rfl); (case aB => exact (up_ HB.out)); (case aF => exact (fun _ _ => trivial)); (case aO => exact (up_ HO_321000.out)); (case aS => exact (below_size (up_ HB.out))); (case aL => have := LMc17.out; omega); intro v324 w20 ho hb hg hat; rw [← Ny323.out] at ho; have n0_ := Aside0.mk (blk_grown (g := gb318) (o := .cells #[.slice none 0 0] 34 (0, 0)) (up_ BK318.out) hg (Kd.R_ne HO_321000.out BK318.out (by decide))); have n1_ := Aside0.mk (blk_grown (g := gb320) (o := .cells #[u321000] 34 (0, 0)) (up_ BK320.out) hg (Kd.R_ne HO_321000.out BK320.out (by decide))); have n2_ := Aside0.mk (hb); have n3_ := Aside0.mk (ho); clear BK318; clear BK320; clear HB; clear HO_321000; have BK318 := n0_; have BK320 := n1_; have HB := n2_; have HO325 := n3_; clear n0_ n1_ n2_ n3_; clear ho hb hg hat; obtain ⟨Ao21, co21, eo21⟩ := Kd.R_slice HO325.out; subst eo21; have hcz22_0 := c1_ BK320; have hfz22_0 := blk_frozen BK320.out 0))
         repeat (go_quiet (first | ((with_reducible refine gate_builtin (b := .append) (xs := #[.tmp 46, .tmp 48]) rfl ?_); (try (refine gate_guard (by rfl) ?_; dsimp only)); at_builtin; refine Kd.R_append (Kd.int .i64) (w0 := w) w.heap.size rfl (.tmp 46) (.tmp 48) 25 3 (.int .i64 0) 8 rfl Try.underlying25 info3 rfl (by decide) (by omega) u321000 x321000_2 1 [.int .i64 1] (fun _ => True) (fun _ => False) rfl rfl ?aP (fun _ hk => hk.elim) ?aF ?aO ?aB ?aS ?aL ?_; (case aP => exact rfl); (case aB => exact (up_ HB.out)); (case aF => exact (fun _ _ => trivial)); (case aO => exact (up_ HO_321000.out)); (case aS => exact (below_size (up_ HB.out))); (case aL => have := LMc17.out; omega); intro v324 w20 ho hb hg hat; rw [← Ny323.out] at ho; have n0_ := Aside0.mk (blk_grown (g := gb318) (o := .cells #[.slice none 0 0] 34 (0, 0)) (up_ BK318.out) hg (Kd.R_ne HO_321000.out BK318.out (by decide))); have n1_ := Aside0.mk (blk_grown (g := gb320) (o := .cells #[u321000] 34 (0, 0)) (up_ BK320.out) hg (Kd.R_ne HO_321000.out BK320.out (by decide))); have n2_ := Aside0.mk (hb); have n3_ := Aside0.mk (ho); clear BK318; clear BK320; clear HB; clear HO_321000; have BK318 := n0_; have BK320 := n1_; have HB := n2_; have HO325 := n3_; clear n0_ n1_ n2_ n3_; clear ho hb hg hat; obtain ⟨Ao21, co21, eo21⟩ := Kd.R_slice HO325.out; subst eo21; have hcz22_0 := c1_ BK320; have hfz22_0 := blk_frozen BK320.out 0)); try go_wp2_with (first | ((with_reducible refine gate_builtin (b := .append) (xs := #[.tmp 46, .tmp 48]) rfl ?_); (try (refine gate_guard (by rfl) ?_; dsimp only)); at_builtin; refine Kd.R_append (Kd.int .i64) (w0 := w) w.heap.size rfl (.tmp 46) (.tmp 48) 25 3 (.int .i64 0) 8 rfl Try.underlying25 info3 rfl (by decide) (by omega) u321000 x321000_2 1 [.int .i64 1] (fun _ => True) (fun _ => False) rfl rfl ?aP (fun _ hk => hk.elim) ?aF ?aO ?aB ?aS ?aL ?_; (case aP => exact rfl); (case aB => exact (up_ HB.out)); (case aF => exact (fun _ _ => trivial)); (case aO => exact (up_ HO_321000.out)); (case aS => exact (below_size (up_ HB.out))); (case aL => have := LMc17.out; omega); intro v324 w20 ho hb hg hat; rw [← Ny323.out] at ho; have n0_ := Aside0.mk (blk_grown (g := gb318) (o := .cells #[.slice none 0 0] 34 (0, 0)) (up_ BK318.out) hg (Kd.R_ne HO_321000.out BK318.out (by decide))); have n1_ := Aside0.mk (blk_grown (g := gb320) (o := .cells #[u321000] 34 (0, 0)) (up_ BK320.out) hg (Kd.R_ne HO_321000.out BK320.out (by decide))); have n2_ := Aside0.mk (hb); have n3_ := Aside0.mk (ho); clear BK318; clear BK320; clear HB; clear HO_321000; have BK318 := n0_; have BK320 := n1_; have HB := n2_; have HO325 := n3_; clear n0_ n1_ n2_ n3_; clear ho hb hg hat; obtain ⟨Ao21, co21, eo21⟩ := Kd.R_slice HO325.out; subst eo21; have hcz22_0 := c1_ BK320; have hfz22_0 := blk_frozen BK320.out 0)))
         go_roundg k2
         case measure => have := HJ2.out; have := HK2.out; omega
         case rel => exact ⟨(wrap64 (x24_2 + 1)), (y323), (.slice Ao21 y323.length co21), rs_, H', ⟨by have := HJ2.out; have := HK2.out; omega⟩, ⟨by (with_reducible repeat (first | apply Kd.R_alloc | apply Kd.R_drewN | apply Kd.R_drew)); exact Kd.R_mono (Kd.R_far (p := ⟨gb320, 0, none⟩) (Kd.R_types HO325.out BK320.out (by decide)) (fun _ hk => hk.2) (.slice Ao21 y323.length co21)) (fun _ hk => trivial)⟩, ⟨by (with_reducible repeat (first | refine blk_drewN ?_ _ | refine blk_drew ?_ | refine blk_alloc ?_ _)); refine blk_far ?_ NB318_320.out _; (with_reducible repeat (first | refine blk_drewN ?_ _ | refine blk_drew ?_ | refine blk_alloc ?_ _)); exact BK318.out⟩, ⟨by (with_reducible repeat (first | refine blk_drewN ?_ _ | refine blk_drew ?_ | refine blk_alloc ?_ _)); refine blk_put (cs := #[u321000]) ?_ 0 _ rfl; (with_reducible repeat (first | refine blk_drewN ?_ _ | refine blk_drew ?_ | refine blk_alloc ?_ _)); exact BK320.out⟩, ⟨up_ HB.out⟩⟩
        ·rw [if_neg c17] at H
         exact absurd H (by simp)
       ·by_cases c23 : (rd l0 x24_2) > (rd l1 x24_2)
        ·rw [if_pos c23] at H
         have c23b0 : decide ((rd l1 x24_2) < (rd l0 x24_2)) = true := decide_eq_true c23
         clear c23
         by_cases c24 : x321000_2.length < 17592186044416
         ·rw [if_pos c24] at H
          have LMc24 := Aside0.mk c24
          clear c24
          obtain ⟨y328, hy328⟩ : ∃ y_ : List Int, y_ = (x321000_2 ++ [(-1)]) := ⟨_, rfl⟩
          replace H : (impl_RowOf.l0 k2 l0 l1 (l0.length : Int) (wrap64 (x24_2 + 1)) y328) = some (r1, r2) := rh_ hy328 H
          have Ny328 := Aside0.mk hy328
          clear hy328
          have H' := Aside0.mk H
          clear H
          have p321 : 0 ≤ (x24_2 : Int) := od_
          have q321 : x24_2 < (l0.length : Int) := od_
          obtain ⟨ad321, e321, hx321_0⟩ := Kd.at_int HR0.out x24_2 p321 q321
          cases e321
          replace hx321_0 := bh_ HB hx321_0
          replace p321 := eq_true p321
          replace q321 := eq_true q321
          have p322 : 0 ≤ (x24_2 : Int) := od_
          have q322 : x24_2 < (l1.length : Int) := od_
          obtain ⟨ad322, e322, hx322_0⟩ := Kd.at_int HR1.out x24_2 p322 q322
          cases e322
          replace hx322_0 := bh_ HB hx322_0
          replace p322 := eq_true p322
          replace q322 := eq_true q322
          have p326 : 0 ≤ (x24_2 : Int) := od_
          have q326 : x24_2 < (l0.length : Int) := od_
          obtain ⟨ad326, e326, hx326_0⟩ := Kd.at_int HR0.out x24_2 p326 q326
          obtain rfl : ad321 = ad326 := (by injection e326)
          replace hx326_0 := bh_ HB hx326_0
          replace p326 := eq_true p326
          replace q326 := eq_true q326
          have p327 : 0 ≤ (x24_2 : Int) := od_
          have q327 : x24_2 < (l1.length : Int) := od_
          obtain ⟨ad327, e327, hx327_0⟩ := Kd.at_int HR1.out x24_2 p327 q327
          obtain rfl : ad322 = ad327 := (by injection e327)
          replace hx327_0 := bh_ HB hx327_0
          replace p327 := eq_true p327
          replace q327 := eq_true q327
          have hnb25 := NB320_318.out
          have hnc25 := NB318_320.out
          have hcz26_0 := c1_ BK320
          have hfz26_0 := blk_frozen BK320.out 0
          go_wp2_with (first | ((with_reducible refine gate_builtin (b := .append) (xs := #[.tmp 46, .tmp 48]) rfl ?_); (try (refine gate_guard (by rfl) ?_; dsimp only)); at_builtin; refine Kd.R_append (Kd.int .i64) (w0 := w) w.heap.size rfl (.tmp 46) (.tmp 48) 25 3 (.int .i64 0) 8 rfl Try.underlying25 info3 rfl (by decide) (by omega) u321000 x321000_2 (-1) [.int .i64 (-1)] (fun _ => True) (fun _ => False) rfl rfl ?aP (fun _ hk => hk.elim) ?aF ?aO ?aB ?aS ?aL ?_; (case aP => exact rfl); (case aB => exact (up_ HB.out)); (case aF => exact (fun _ _ => trivial)); (case aO => exact (up_ HO_321000.out)); (case aS => exact (below_size (up_ HB.out))); (case aL => have := LMc24.out; omega); intro v329 w27 ho hb hg hat; rw [← Ny328.out] at ho; have n0_ := Aside0.mk (blk_grown (g := gb318) (o := .cells #[.slice none 0 0] 34 (0, 0)) (up_ BK318.out) hg (Kd.R_ne HO_321000.out BK318.out (by decide))); have n1_ := Aside0.mk (blk_grown (g := gb320) (o := .cells #[u321000] 34 (0, 0)) (up_ BK320.out) hg (Kd.R_ne HO_321000.out BK320.out (by decide))); have n2_ := Aside0.mk (hb); have n3_ := Aside0.mk (ho); clear BK318; clear BK320; clear HB; clear HO_321000; have BK318 := n0_; have BK320 := n1_; have HB := n2_; have HO330 := n3_; clear n0_ n1_ n2_ n3_; clear ho hb hg hat; obtain ⟨Ao28, co28, eo28⟩ := Kd.R_slice HO330.out; subst eo28; have hcz29_0 := c1_ BK320; have hfz29_0 := blk_frozen BK320.out 0))
          repeat (go_quiet (first | ((with_reducible refine gate_builtin (b := .append) (xs := #[.tmp 46, .tmp 48]) rfl ?_); (try (refine gate_guard (by rfl) ?_; dsimp only)); at_builtin; refine Kd.R_append (Kd.int .i64) (w0 := w) w.heap.size rfl (.tmp 46) (.tmp 48) 25 3 (.int .i64 0) 8 rfl Try.underlying25 info3 rfl (by decide) (by omega) u321000 x321000_2 (-1) [.int .i64 (-1)] (fun _ => True) (fun _ => False) rfl rfl ?aP (fun _ hk => hk.elim) ?aF ?aO ?aB ?aS ?aL ?_; (case aP => exact rfl); (case aB => exact (up_ HB.out)); (case aF => exact (fun _ _ => trivial)); (case aO => exact (up_ HO_321000.out)); (case aS => exact (below_size (up_ HB.out))); (case aL => have := LMc24.out; omega); intro v329 w27 ho hb hg hat; rw [← Ny328.out] at ho; have n0_ := Aside0.mk (blk_grown (g := gb318) (o := .cells #[.slice none 0 0] 34 (0, 0)) (up_ BK318.out) hg (Kd.R_ne HO_321000.out BK318.out (by decide))); have n1_ := Aside0.mk (blk_grown (g := gb320) (o := .cells #[u321000] 34 (0, 0)) (up_ BK320.out) hg (Kd.R_ne HO_321000.out BK320.out (by decide))); have n2_ := Aside0.mk (hb); have n3_ := Aside0.mk (ho); clear BK318; clear BK320; clear HB; clear HO_321000; have BK318 := n0_; have BK320 := n1_; have HB := n2_; have HO330 := n3_; clear n0_ n1_ n2_ n3_; clear ho hb hg hat; obtain ⟨Ao28, co28, eo28⟩ := Kd.R_slice HO330.out; subst eo28; have hcz29_0 := c1_ BK320; have hfz29_0 := blk_frozen BK320.out 0)); try go_wp2_with (first | ((with_reducible refine gate_builtin (b := .append) (xs := #[.tmp 46, .tmp 48]) rfl ?_); (try (refine gate_guard (by rfl) ?_; dsimp only)); at_builtin; refine Kd.R_append (Kd.int .i64) (w0 := w) w.heap.size rfl (.tmp 46) (.tmp 48) 25 3 (.int .i64 0) 8 rfl Try.underlying25 info3 rfl (by decide) (by omega) u321000 x321000_2 (-1) [.int .i64 (-1)] (fun _ => True) (fun _ => False) rfl rfl ?aP (fun _ hk => hk.elim) ?aF ?aO ?aB ?aS ?aL ?_; (case aP => exact rfl); (case aB => exact (up_ HB.out)); (case aF => exact (fun _ _ => trivial)); (case aO => exact (up_ HO_321000.out)); (case aS => exact (below_size (up_ HB.out))); (case aL => have := LMc24.out; omega); intro v329 w27 ho hb hg hat; rw [← Ny328.out] at ho; have n0_ := Aside0.mk (blk_grown (g := gb318) (o := .cells #[.slice none 0 0] 34 (0, 0)) (up_ BK318.out) hg (Kd.R_ne HO_321000.out BK318.out (by decide))); have n1_ := Aside0.mk (blk_grown (g := gb320) (o := .cells #[u321000] 34 (0, 0)) (up_ BK320.out) hg (Kd.R_ne HO_321000.out BK320.out (by decide))); have n2_ := Aside0.mk (hb); have n3_ := Aside0.mk (ho); clear BK318; clear BK320; clear HB; clear HO_321000; have BK318 := n0_; have BK320 := n1_; have HB := n2_; have HO330 := n3_; clear n0_ n1_ n2_ n3_; clear ho hb hg hat; obtain ⟨Ao28, co28, eo28⟩ := Kd.R_slice HO330.out; subst eo28; have hcz29_0 := c1_ BK320; have hfz29_0 := blk_frozen BK320.out 0)))
          go_roundg k2
          case measure => have := HJ2.out; have := HK2.out; omega
          case rel => exact ⟨(wrap64 (x24_2 + 1)), (y328), (.slice Ao28 y328.length co28), rs_, H', ⟨by have := HJ2.out; have := HK2.out; omega⟩, ⟨by (with_reducible repeat (first | apply Kd.R_alloc | apply Kd.R_drewN | apply Kd.R_drew)); exact Kd.R_mono (Kd.R_far (p := ⟨gb320, 0, none⟩) (Kd.R_types HO330.out BK320.out (by decide)) (fun _ hk => hk.2) (.slice Ao28 y328.length co28)) (fun _ hk => trivial)⟩, ⟨by (with_reducible repeat (first | refine blk_drewN ?_ _ | refine blk_drew ?_ | refine blk_alloc ?_ _)); refine blk_far ?_ NB318_320.out _; (with_reducible repeat (first | refine blk_drewN ?_ _ | refine blk_drew ?_ | refine blk_alloc ?_ _)); exact BK318.out⟩, ⟨by (with_reducible repeat (first | refine blk_drewN ?_ _ | refine blk_drew ?_ | refine blk_alloc ?_ _)); refine blk_put (cs := #[u321000]) ?_ 0 _ rfl; (with_reducible repeat (first | refine blk_drewN ?_ _ | refine blk_drew ?_ | refine blk_alloc ?_ _)); exact BK320.out⟩, ⟨up_ HB.out⟩⟩
         ·rw [if_neg c24] at H
          exact absurd H (by simp)
        ·rw [if_neg c23] at H
         have c23b0 : decide ((rd l1 x24_2) < (rd l0 x24_2)) = false := decide_eq_false c23
         clear c23
         by_cases c30 : x321000_2.length < 17592186044416
         ·rw [if_pos c30] at H
          have LMc30 := Aside0.mk c30
          clear c30
          obtain ⟨y331, hy331⟩ : ∃ y_ : List Int, y_ = (x321000_2 ++ [0]) := ⟨_, rfl⟩
          replace H : (impl_RowOf.l0 k2 l0 l1 (l0.length : Int) (wrap64 (x24_2 + 1)) y331) = some (r1, r2) := rh_ hy331 H
          have Ny331 := Aside0.mk hy331
          clear hy331
          have H' := Aside0.mk H
          clear H
          have p321 : 0 ≤ (x24_2 : Int) := od_
          have q321 : x24_2 < (l0.length : Int) := od_
          obtain ⟨ad321, e321, hx321_0⟩ := Kd.at_int HR0.out x24_2 p321 q321
          cases e321
          replace hx321_0 := bh_ HB hx321_0
          replace p321 := eq_true p321
          replace q321 := eq_true q321
          have p322 : 0 ≤ (x24_2 : Int) := od_
          have q322 : x24_2 < (l1.length : Int) := od_
          obtain ⟨ad322, e322, hx322_0⟩ := Kd.at_int HR1.out x24_2 p322 q322
          cases e322
          replace hx322_0 := bh_ HB hx322_0
          replace p322 := eq_true p322
          replace q322 := eq_true q322
          have p326 : 0 ≤ (x24_2 : Int) := od_
          have q326 : x24_2 < (l0.length : Int) := od_
          obtain ⟨ad326, e326, hx326_0⟩ := Kd.at_int HR0.out x24_2 p326 q326
          obtain rfl : ad321 = ad326 := (by injection e326)
          replace hx326_0 := bh_ HB hx326_0
          replace p326 := eq_true p326
          replace q326 := eq_true q326
          have p327 : 0 ≤ (x24_2 : Int) := od_
          have q327 : x24_2 < (l1.length : Int) := od_
          obtain ⟨ad327, e327, hx327_0⟩ := Kd.at_int HR1.out x24_2 p327 q327
          obtain rfl : ad322 = ad327 := (by injection e327)
          replace hx327_0 := bh_ HB hx327_0
          replace p327 := eq_true p327
          replace q327 := eq_true q327
          have hnb31 := NB320_318.out
          have hnc31 := NB318_320.out
          have hcz32_0 := c1_ BK320
          have hfz32_0 := blk_frozen BK320.out 0
          go_wp2_with (first | ((with_reducible refine gate_builtin (b := .append) (xs := #[.tmp 46, .tmp 48]) rfl ?_); (try (refine gate_guard (by rfl) ?_; dsimp only)); at_builtin; refine Kd.R_append (Kd.int .i64) (w0 := w) w.heap.size rfl (.tmp 46) (.tmp 48) 25 3 (.int .i64 0) 8 rfl Try.underlying25 info3 rfl (by decide) (by omega) u321000 x321000_2 0 [.int .i64 0] (fun _ => True) (fun _ => False) rfl rfl ?aP (fun _ hk => hk.elim) ?aF ?aO ?aB ?aS ?aL ?_; (case aP => exact rfl); (case aB => exact (up_ HB.out)); (case aF => exact (fun _ _ => trivial)); (case aO => exact (up_ HO_321000.out)); (case aS => exact (below_size (up_ HB.out))); (case aL => have := LMc30.out; omega); intro v332 w33 ho hb hg hat; rw [← Ny331.out] at ho; have n0_ := Aside0.mk (blk_grown (g := gb318) (o := .cells #[.slice none 0 0] 34 (0, 0)) (up_ BK318.out) hg (Kd.R_ne HO_321000.out BK318.out (by decide))); have n1_ := Aside0.mk (blk_grown (g := gb320) (o := .cells #[u321000] 34 (0, 0)) (up_ BK320.out) hg (Kd.R_ne HO_321000.out BK320.out (by decide))); have n2_ := Aside0.mk (hb); have n3_ := Aside0.mk (ho); clear BK318; clear BK320; clear HB; clear HO_321000; have BK318 := n0_; have BK320 := n1_; have HB := n2_; have HO333 := n3_; clear n0_ n1_ n2_ n3_; clear ho hb hg hat; obtain ⟨Ao34, co34, eo34⟩ := Kd.R_slice HO333.out; subst eo34; have hcz35_0 := c1_ BK320; have hfz35_0 := blk_frozen BK320.out 0))
          repeat (go_quiet (first | ((with_reducible refine gate_builtin (b := .append) (xs := #[.tmp 46, .tmp 48]) rfl ?_); (try (refine gate_guard (by rfl) ?_; dsimp only)); at_builtin; refine Kd.R_append (Kd.int .i64) (w0 := w) w.heap.size rfl (.tmp 46) (.tmp 48) 25 3 (.int .i64 0) 8 rfl Try.underlying25 info3 rfl (by decide) (by omega) u321000 x321000_2 0 [.int .i64 0] (fun _ => True) (fun _ => False) rfl rfl ?aP (fun _ hk => hk.elim) ?aF ?aO ?aB ?aS ?aL ?_; (case aP => exact rfl); (case aB => exact (up_ HB.out)); (case aF => exact (fun _ _ => trivial)); (case aO => exact (up_ HO_321000.out)); (case aS => exact (below_size (up_ HB.out))); (case aL => have := LMc30.out; omega); intro v332 w33 ho hb hg hat; rw [← Ny331.out] at ho; have n0_ := Aside0.mk (blk_grown (g := gb318) (o := .cells #[.slice none 0 0] 34 (0, 0)) (up_ BK318.out) hg (Kd.R_ne HO_321000.out BK318.out (by decide))); have n1_ := Aside0.mk (blk_grown (g := gb320) (o := .cells #[u321000] 34 (0, 0)) (up_ BK320.out) hg (Kd.R_ne HO_321000.out BK320.out (by decide))); have n2_ := Aside0.mk (hb); have n3_ := Aside0.mk (ho); clear BK318; clear BK320; clear HB; clear HO_321000; have BK318 := n0_; have BK320 := n1_; have HB := n2_; have HO333 := n3_; clear n0_ n1_ n2_ n3_; clear ho hb hg hat; obtain ⟨Ao34, co34, eo34⟩ := Kd.R_slice HO333.out; subst eo34; have hcz35_0 := c1_ BK320; have hfz35_0 := blk_frozen BK320.out 0)); try go_wp2_with (first | ((with_reducible refine gate_builtin (b := .append) (xs := #[.tmp 46, .tmp 48]) rfl ?_); (try (refine gate_guard (by rfl) ?_; dsimp only)); at_builtin; refine Kd.R_append (Kd.int .i64) (w0 := w) w.heap.size rfl (.tmp 46) (.tmp 48) 25 3 (.int .i64 0) 8 rfl Try.underlying25 info3 rfl (by decide) (by omega) u321000 x321000_2 0 [.int .i64 0] (fun _ => True) (fun _ => False) rfl rfl ?aP (fun _ hk => hk.elim) ?aF ?aO ?aB ?aS ?aL ?_; (case aP => exact rfl); (case aB => exact (up_ HB.out)); (case aF => exact (fun _ _ => trivial)); (case aO => exact (up_ HO_321000.out)); (case aS => exact (below_size (up_ HB.out))); (case aL => have := LMc30.out; omega); intro v332 w33 ho hb hg hat; rw [← Ny331.out] at ho; have n0_ := Aside0.mk (blk_grown (g := gb318) (o := .cells #[.slice none 0 0] 34 (0, 0)) (up_ BK318.out) hg (Kd.R_ne HO_321000.out BK318.out (by decide))); have n1_ := Aside0.mk (blk_grown (g := gb320) (o := .cells #[u321000] 34 (0, 0)) (up_ BK320.out) hg (Kd.R_ne HO_321000.out BK320.out (by decide))); have n2_ := Aside0.mk (hb); have n3_ := Aside0.mk (ho); clear BK318; clear BK320; clear HB; clear HO_321000; have BK318 := n0_; have BK320 := n1_; have HB := n2_; have HO333 := n3_; clear n0_ n1_ n2_ n3_; clear ho hb hg hat; obtain ⟨Ao34, co34, eo34⟩ := Kd.R_slice HO333.out; subst eo34; have hcz35_0 := c1_ BK320; have hfz35_0 := blk_frozen BK320.out 0)))
          go_roundg k2
          case measure => have := HJ2.out; have := HK2.out; omega
          case rel => exact ⟨(wrap64 (x24_2 + 1)), (y331), (.slice Ao34 y331.length co34), rs_, H', ⟨by have := HJ2.out; have := HK2.out; omega⟩, ⟨by (with_reducible repeat (first | apply Kd.R_alloc | apply Kd.R_drewN | apply Kd.R_drew)); exact Kd.R_mono (Kd.R_far (p := ⟨gb320, 0, none⟩) (Kd.R_types HO333.out BK320.out (by decide)) (fun _ hk => hk.2) (.slice Ao34 y331.length co34)) (fun _ hk => trivial)⟩, ⟨by (with_reducible repeat (first | refine blk_drewN ?_ _ | refine blk_drew ?_ | refine blk_alloc ?_ _)); refine blk_far ?_ NB318_320.out _; (with_reducible repeat (first | refine blk_drewN ?_ _ | refine blk_drew ?_ | refine blk_alloc ?_ _)); exact BK318.out⟩, ⟨by (with_reducible repeat (first | refine blk_drewN ?_ _ | refine blk_drew ?_ | refine blk_alloc ?_ _)); refine blk_put (cs := #[u321000]) ?_ 0 _ rfl; (with_reducible repeat (first | refine blk_drewN ?_ _ | refine blk_drew ?_ | refine blk_alloc ?_ _)); exact BK320.out⟩, ⟨up_ HB.out⟩⟩
         ·rw [if_neg c30] at H
          exact absurd H (by simp)
      ·simp only [Option.some.injEq, Prod.mk.injEq] at H
       obtain ⟨rfl, rfl⟩ := H
       have hnb36 := NB320_318.out
       have hnc36 := NB318_320.out
       have hcz37_0 := c1_ BK320
       have hfz37_0 := blk_frozen BK320.out 0
       obtain ⟨Ao38, co38, eo38⟩ := Kd.R_slice HO_321000.out
       subst eo38
       have hcz39_0 := c1_ BK318
       have hfz39_0 := blk_frozen BK318.out 0
       go_wp2
       repeat (go_quiet (fail); try go_wp2)
       refine bodyPost_ret (results_ct rfl _ _ gb318 34 #[.slice Ao38 x321000_2.length co38] (0, 0) _ rfl (by (with_reducible repeat (first | refine blk_drewN ?_ _ | refine blk_drew ?_ | refine blk_alloc ?_ _)); refine blk_put (cs := #[.slice none 0 0]) ?_ 0 _ rfl; (with_reducible repeat (first | refine blk_drewN ?_ _ | refine blk_drew ?_ | refine blk_alloc ?_ _)); exact BK318.out) Try.underlying34 rfl (by kernel_rfl)) rfl ?_
       exact ⟨_, re_, by (with_reducible repeat (first | apply Kd.R_alloc | apply Kd.R_drewN | apply Kd.R_drew)); exact Kd.R_mono (Kd.R_far (p := ⟨gb318, 0, none⟩) (Kd.R_types HO_321000.out BK318.out (by decide)) (fun _ hk => hk.2) (.slice Ao38 x321000_2.length co38)) (fun _ hk => trivial), up_ HB.out⟩

/-! ### slices_Index_int_int: function 150 -/
def slices_Index_int_int.l0 : Nat → List Int → Int → Int → Int → Option (Int)
 | 0, _, _, _, _ => none
 | k + 1, x0, x1, x7, x8 => if x8 < x7 then (if 0 ≤ x8 then (if x8 < (x0.length : Int) then (if x1 = (rd x0 x8) then (some x8) else (slices_Index_int_int.l0 k x0 x1 x7 (wrap64 (x8 + 1)))) else (none)) else (none)) else (some (-1))
def slices_Index_int_int.f (k : Nat) (l0 : List Int) (a1 : Int) : Option (Int) := slices_Index_int_int.l0 k l0 a1 (l0.length : Int) 0
set_option maxHeartbeats 8000000 in
set_option maxRecDepth 100000 in
theorem slices_Index_int_int.calls (k : Nat) (A0 : Option Addr) (c0 : Nat) (l0 : List Int) (a1 : Int) (r : Int) (w : World) (hr0 : Kd.C (Kd.int .i64) w A0 l0.length l0) (hc0 : l0.length ≤ c0) (h : slices_Index_int_int.f k l0 a1 = some r) :
  Calls Try.prog 150 #[.slice A0 l0.length c0, .int .i64 a1] w fun e w' => e = .returned (.int .i64 r) ∧ Drawn0 w w' := by
 have HR0 := Aside0.mk hr0
 have HC0 := Aside0.mk hc0
 clear hr0 hc0
 have H : (slices_Index_int_int.l0 k l0 a1 (l0.length : Int) 0) = some r := h
 clear h
 have H' := Aside0.mk H
 clear H
 go_enter Try.func150, Try.ntmps150
 go_wp2
 go_loopg [8] k (fun kq v8 w' => ∃ (x8_1 : Int), v8 = .int .i64 x8_1 ∧ Aside0 (slices_Index_int_int.l0 kq l0 a1 (l0.length : Int) x8_1 = some r) ∧ Aside0 (kq ≤ k) ∧ Drawn0 w w')
 case atStart => exact ⟨(0), rs_, H', ⟨Nat.le_refl _⟩, dn_⟩
 case round =>
  clear H'
  try clear c1
  try clear p2
  obtain ⟨x8_1, rfl, HA, HK1, ⟨m1, rfl⟩⟩ := hrel
  cases gk with
  | zero => exact absurd HA.out (by simp [slices_Index_int_int.l0])
  | succ k1 =>
   have H := HA.out
   clear HA
   simp only [slices_Index_int_int.l0] at H
   replace H := its_ H; rcases H with ⟨c3b0, H⟩ | ⟨c3b0, H⟩
   ·replace H := its_ H; rcases H with ⟨c4b0, H⟩ | ⟨_, ⟨⟩⟩
    replace H := its_ H; rcases H with ⟨c5b0, H⟩ | ⟨_, ⟨⟩⟩
    replace H := ieq_ H; rcases H with ⟨-, c6b0, c6b1, H⟩ | ⟨c6, c6b0, c6b1, H⟩
    ·obtain rfl := Option.some.inj H
     have p334 : 0 ≤ (x8_1 : Int) := od_
     have q334 : x8_1 < (l0.length : Int) := od_
     obtain ⟨ad334, e334, hx334_0⟩ := Kd.at_int HR0.out x8_1 p334 q334
     cases e334
     replace p334 := eq_true p334
     replace q334 := eq_true q334
     go_wp2
     go_ret
     exact ⟨rs_, dn_⟩
    ·have H' := Aside0.mk H
     clear H
     have p334 : 0 ≤ (x8_1 : Int) := od_
     have q334 : x8_1 < (l0.length : Int) := od_
     obtain ⟨ad334, e334, hx334_0⟩ := Kd.at_int HR0.out x8_1 p334 q334
     cases e334
     replace p334 := eq_true p334
     replace q334 := eq_true q334
     go_wp2
     go_roundg k1
     case measure => have := HK1.out; omega
     case rel => exact ⟨(wrap64 (x8_1 + 1)), rs_, H', ⟨by have := HK1.out; omega⟩, dn_⟩
   ·obtain rfl := Option.some.inj H
    go_wp2
    go_ret
    exact ⟨rs_, dn_⟩

/-! ### slices_Contains_int_int: function 85 -/
def slices_Contains_int_int.f (k : Nat) (l0 : List Int) (a1 : Int) : Option (Bool) := (slices_Index_int_int.f k l0 a1).bind fun t335 => (some (decide (t335 ≥ 0)))
set_option maxHeartbeats 8000000 in
set_option maxRecDepth 100000 in
theorem slices_Contains_int_int.calls (k : Nat) (A0 : Option Addr) (c0 : Nat) (l0 : List Int) (a1 : Int) (r : Bool) (w : World) (hr0 : Kd.C (Kd.int .i64) w A0 l0.length l0) (hc0 : l0.length ≤ c0) (h : slices_Contains_int_int.f k l0 a1 = some r) :
  Calls Try.prog 85 #[.slice A0 l0.length c0, .int .i64 a1] w fun e w' => e = .returned (.bool r) ∧ Drawn0 w w' := by
 have HR0 := Aside0.mk hr0
 have HC0 := Aside0.mk hc0
 clear hr0 hc0
 have H : ((slices_Index_int_int.f k l0 a1).bind fun t335 => (some (decide (t335 ≥ 0)))) = some r := h
 clear h
 replace H := bnd_ H; obtain ⟨t335, A3, H⟩ := H
 obtain rfl := Option.some.inj H
 go_enter Try.func85, Try.ntmps85
 go_wp2_with (first | ((with_reducible refine gc_ 150 ?_); refine goesL_ (some 7) rfl rfl Try.func150 (by kernel_rfl) rfl #[.slice A0 l0.length c0, .int .i64 a1] rfl am_ ?_; (with_reducible refine (slices_Index_int_int.calls k _ _ l0 a1 t335 _ ?side1 ?side2 A3.out).mono ?_); (case side1 => repeat (first | exact HR0.out | (with_reducible refine Kd.C_alloc ?_ _) | (with_reducible refine Kd.C_drewN ?_ _) | (with_reducible refine Kd.C_drew ?_))); (case side2 => exact HC0.out); rintro e w' ⟨rfl, ⟨nd, rfl⟩⟩; refine ⟨_, rfl, ?_⟩))
 go_ret
 exact ⟨rs_, dn_⟩

/-! ### impl_IsRow: function 83 -/
def impl_IsRow.l0 : Nat → Int → List Int → Int → Int → List Int → Option (Bool)
 | 0, _, _, _, _, _ => none
 | k + 1, x1, x8, x9, x10, x337000 => if x10 < x9 then (if 0 ≤ x10 then (if x10 < (x8.length : Int) then ((impl_within.f (rd x8 x10) (-1) 1).bind fun t338 => (if t338 = true then (impl_IsRow.l0 k x1 x8 x9 (wrap64 (x10 + 1)) x337000) else (some false))) else (none)) else (none)) else ((impl_within.f x1 1 5).bind fun t339 => (if t339 = true then (some ((x337000.length : Int) == x1)) else (some false)))
def impl_IsRow.f (k : Nat) (l0_0 : List Int) (a1 : Int) : Option (Bool) := impl_IsRow.l0 k a1 l0_0 (l0_0.length : Int) 0 l0_0
set_option maxHeartbeats 8000000 in
set_option maxRecDepth 100000 in
theorem impl_IsRow.calls (k : Nat) (A0_0 : Option Addr) (c0_0 : Nat) (l0_0 : List Int) (a1 : Int) (r : Bool) (w : World) (hr0_0 : Kd.C (Kd.int .i64) w A0_0 l0_0.length l0_0) (hc0_0 : l0_0.length ≤ c0_0) (h : impl_IsRow.f k l0_0 a1 = some r) :
  Calls Try.prog 83 #[.agg #[.slice A0_0 l0_0.length c0_0], .int .i64 a1] w fun e w' => e = .returned (.bool r) ∧ Below w.heap.size w w' := by
 have hu34 := Try.underlying34
 have HR0_0 := Aside0.mk hr0_0
 have HC0_0 := Aside0.mk hc0_0
 clear hr0_0 hc0_0
 have HB := Aside0.mk (Below.refl w.heap.size w)
 have H : (impl_IsRow.l0 k a1 l0_0 (l0_0.length : Int) 0 l0_0) = some r := h
 clear h
 have H' := Aside0.mk H
 clear H
 go_enter Try.func83, Try.ntmps83
 go_wp2_with (first | ((with_reducible refine gd_ 2 ?_); (try (refine gate_guard (by rfl) ?_; dsimp only)); refine bx_ 2 #[.slice A0_0 l0_0.length c0_0] 34 ?_; intro gb336 hg w3 hbox hb; have BK336 := Aside0.mk (hbox); have GW336 := gw_ HB hg; have GE336 := gw_ HB hg; replace HB := bs_ HB hb; clear hb hbox hg; have hcz4_0 := c1_ BK336; have hfz4_0 := blk_frozen BK336.out 0))
 go_loopg [10] k (fun kq v10 w' => ∃ (x10_1 : Int), v10 = .int .i64 x10_1 ∧ Aside0 (impl_IsRow.l0 kq a1 l0_0 (l0_0.length : Int) x10_1 l0_0 = some r) ∧ Aside0 (kq ≤ k) ∧ Aside0 (w'.heap[gb336]? = some (.cells #[(.slice A0_0 l0_0.length c0_0)] 34 (0, 0))) ∧ Aside0 (Below w.heap.size w w'))
 case atStart => exact ⟨(0), rs_, H', ⟨Nat.le_refl _⟩, ⟨up_ BK336.out⟩, ⟨up_ HB.out⟩⟩
 case round =>
  clear H'
  try clear p2
  try clear hcz4_0
  try clear hfz4_0
  obtain ⟨x10_1, rfl, HA, HK1, BK336, HB⟩ := hrel
  cases gk with
  | zero => exact absurd HA.out (by simp [impl_IsRow.l0])
  | succ k1 =>
   have H := HA.out
   clear HA
   simp only [impl_IsRow.l0] at H
   replace H := its_ H; rcases H with ⟨c5b0, H⟩ | ⟨c5b0, H⟩
   ·replace H := its_ H; rcases H with ⟨c6b0, H⟩ | ⟨_, ⟨⟩⟩
    replace H := its_ H; rcases H with ⟨c7b0, H⟩ | ⟨_, ⟨⟩⟩
    replace H := bnd_ H; obtain ⟨t338, A8, H⟩ := H
    replace H := itb_ H; rcases H with ⟨rfl, H⟩ | ⟨rfl, H⟩
    ·have H' := Aside0.mk H
     clear H
     have p337 : 0 ≤ (x10_1 : Int) := od_
     have q337 : x10_1 < (l0_0.length : Int) := od_
     obtain ⟨ad337, e337, hx337_0⟩ := Kd.at_int HR0_0.out x10_1 p337 q337
     cases e337
     replace hx337_0 := bh_ HB hx337_0
     replace p337 := eq_true p337
     replace q337 := eq_true q337
     go_wp2_with (first | ((with_reducible refine gc_ 98 ?_); refine gq_ (some 15) Try.func98 (impl_within.calls (rd l0_0 x10_1) (-1) 1 true _ A8.out) (fun nd => ?_)))
     go_roundg k1
     case measure => have := HK1.out; omega
     case rel => exact ⟨(wrap64 (x10_1 + 1)), rs_, H', ⟨by have := HK1.out; omega⟩, ⟨up_ BK336.out⟩, ⟨up_ HB.out⟩⟩
    ·obtain rfl := Option.some.inj H
     have p337 : 0 ≤ (x10_1 : Int) := od_
     have q337 : x10_1 < (l0_0.length : Int) := od_
     obtain ⟨ad337, e337, hx337_0⟩ := Kd.at_int HR0_0.out x10_1 p337 q337
     cases e337
     replace hx337_0 := bh_ HB hx337_0
     replace p337 := eq_true p337
     replace q337 := eq_true q337
     go_wp2_with (first | ((with_reducible refine gc_ 98 ?_); refine gq_ (some 15) Try.func98 (impl_within.calls (rd l0_0 x10_1) (-1) 1 false _ A8.out) (fun nd => ?_)))
     go_ret
     exact ⟨re_, up_ HB.out⟩
   ·replace H := bnd_ H; obtain ⟨t339, A10, H⟩ := H
    replace H := itb_ H; rcases H with ⟨rfl, H⟩ | ⟨rfl, H⟩
    ·obtain rfl := Option.some.inj H
     go_wp2_with (first | ((with_reducible refine gc_ 98 ?_); refine gq_ (some 19) Try.func98 (impl_within.calls a1 1 5 true _ A10.out) (fun nd => ?_); have hcz12_0 := c1_ BK336; have hfz12_0 := blk_frozen BK336.out 0))
     go_ret
     exact ⟨re_, up_ HB.out⟩
    ·obtain rfl := Option.some.inj H
     go_wp2_with (first | ((with_reducible refine gc_ 98 ?_); refine gq_ (some 19) Try.func98 (impl_within.calls a1 1 5 false _ A10.out) (fun nd => ?_)))
     go_ret
     exact ⟨re_, up_ HB.out⟩

end Go.Proofs.Ytkddpilambnicaa.PFnExactFootRows
