/- Walks of Go functions that the law FnExactDifferencesFor uses: written by this session's program out of the kit's printer; each shows that a call comes to the answers of the Lean function beside it. Conditions: each contract's own. -/
import Derived.Test.YtkddpilambnicaaGreatPFnExactDifferencesForx0
import Derived.Test.YtkddpilambnicaaGreatPFnExactDifferencesForx20
namespace Go.Proofs.YtkddpilambnicaaGreat.PFnExactDifferencesFor
open Go.RowKit Go.Proofs.YtkddpilambnicaaGreatW.PrintWords Go.Proofs.YtkddpilambnicaaGreatW.PrintLast Go.Proofs.YtkddpilambnicaaGreatW.PrintMore Go.Proofs.YtkddpilambnicaaGreat.Mac Go.Proofs.YtkddpilambnicaaGreat.Law
attribute [local go_sem] max2_int min2_int max_two min_two max_three min_three max_four min_four   -- for this text's walks alone
set_option linter.unusedVariables false
set_option linter.unusedSimpArgs false

/-! ### impl_DifferencesFor: function 16 -/
mutual
def impl_DifferencesFor.l0 : Nat → Int → List (List Int) → List (List Int) → Int → Int → ByteArray → List ByteArray → List (S50) → List (List Int) → Option ((List (List Int)))
 | 0, _, _, _, _, _, _, _, _, _ => none
 | k + 1, x1, x5, x18, x19, x20, x485000, x485001, x485002, x485003 => if x20 < x19 then (if 0 ≤ x20 then (if x20 < (x18.length : Int) then (impl_DifferencesFor.l1 k x1 x5 true x18 x19 x20 (rd_L6 x18 x20) ((rd_L6 x18 x20).length : Int) 0 x485000 x485001 x485002 x485003 (([] : List Int))) else (none)) else (none)) else (some x5)
def impl_DifferencesFor.l1 : Nat → Int → List (List Int) → Bool → List (List Int) → Int → Int → List Int → Int → Int → ByteArray → List ByteArray → List (S50) → List (List Int) → List Int → Option ((List (List Int)))
 | 0, _, _, _, _, _, _, _, _, _, _, _, _, _, _ => none
 | k + 1, x1, x5, x9, x18, x19, x20, x25, x26, x27, x485000, x485001, x485002, x485003, x494000 => if x27 < x26 then (if 0 ≤ x27 then (if x27 < (x25.length : Int) then (if 0 ≤ x1 then (if x1 < (x485003.length : Int) then (if x27 < ((rd_L6 x485003 x1).length : Int) then (if x494000.length < 17592186044416 then ((some (x494000 ++ [wrap64 ((rd x25 x27) - (rd (rd_L6 x485003 x1) x27))] : List Int)).bind fun y497 => (if x9 = true then (if x27 < (y497.length : Int) then (impl_DifferencesFor.l1 k x1 x5 ((rd y497 x27) == 0) x18 x19 x20 x25 x26 (wrap64 (x27 + 1)) x485000 x485001 x485002 x485003 y497) else (none)) else (impl_DifferencesFor.l1 k x1 x5 false x18 x19 x20 x25 x26 (wrap64 (x27 + 1)) x485000 x485001 x485002 x485003 y497))) else (none)) else (none)) else (none)) else (none)) else (none)) else (none)) else (if x9 = true then (impl_DifferencesFor.l0 k x1 x5 x18 x19 (wrap64 (x20 + 1)) x485000 x485001 x485002 x485003) else ((v_slices_ContainsFunc__DifferencesFor_1.f k x5 [x494000]).bind fun t501 => (if t501 = true then (impl_DifferencesFor.l0 k x1 x5 x18 x19 (wrap64 (x20 + 1)) x485000 x485001 x485002 x485003) else (if x5.length < 5864062014805 then (impl_DifferencesFor.l0 k x1 (x5 ++ [x494000]) x18 x19 (wrap64 (x20 + 1)) x485000 x485001 x485002 x485003) else (none)))))
end
def impl_DifferencesFor.f (k : Nat) (a0_0 : ByteArray) (l0_1 : List ByteArray) (l0_2 : List (S50)) (l0_3 : List (List Int)) (a1 : Int) : Option ((List (List Int))) := (impl_isRowOf.f k a0_0 l0_1 l0_2 l0_3 a1).bind fun t485 => (if t485 = true then (impl_DifferencesFor.l0 k a1 (([] : List (List Int))) l0_3 (l0_3.length : Int) 0 a0_0 l0_1 l0_2 l0_3) else (some ([] : List (List Int))))
def impl_DifferencesFor.T11 : Bool × List (List Nat × List Nat) := (true, [([], []), ([], []), ([], []), ([2], [2]), ([], []), ([3, 4], [3, 4]), ([5], [5]), ([], []), ([6, 7], [6, 7]), ([8], [8]), ([1, 9], [1, 9]), ([10], [10]), ([0, 11], [0, 11]), ([12, 12, 0, 1, 2, 3, 4, 5, 6, 7, 8, 9, 10, 11, 12], [12])])
def impl_DifferencesFor.B11 : List Nat := [0, 0, 0, 4, 0, 28, 60, 0, 252, 508, 1022, 2046, 4095, 8191]
theorem impl_DifferencesFor.tab11 : rtab .any (opsOf Tryz.f16 11) = impl_DifferencesFor.T11 := by kernel_rfl
theorem impl_DifferencesFor.bits11 : waitsOk impl_DifferencesFor.T11.2 impl_DifferencesFor.B11 = true := by kernel_rfl
set_option maxHeartbeats 8000000 in
set_option maxRecDepth 100000 in
theorem impl_DifferencesFor.calls (k : Nat) (a0_0 : ByteArray) (A0_1 : Option Addr) (c0_1 : Nat) (l0_1 : List ByteArray) (A0_2 : Option Addr) (c0_2 : Nat) (l0_2 : List (S50)) (A0_3 : Option Addr) (c0_3 : Nat) (l0_3 : List (List Int)) (a1 : Int) (r : List (List Int)) (w : World) (hr0_1 : Kd.C Kd.string w A0_1 l0_1.length l0_1) (hc0_1 : l0_1.length ≤ c0_1) (hr0_2 : Kd.C k50 w A0_2 l0_2.length l0_2) (hc0_2 : l0_2.length ≤ c0_2) (hr0_3 : Kd.C (Kd.slice 3 (Kd.int .i64)) w A0_3 l0_3.length l0_3) (hc0_3 : l0_3.length ≤ c0_3) (h : impl_DifferencesFor.f k a0_0 l0_1 l0_2 l0_3 a1 = some r) :
  Calls Tryz.prog 16 #[.agg #[.string a0_0, .slice A0_1 l0_1.length c0_1, .slice A0_2 l0_2.length c0_2, .slice A0_3 l0_3.length c0_3], .int .i64 a1] w fun e w' => ∃ v0_ : Value, e = .returned (v0_) ∧ Kd.S (Kd.slice 3 (Kd.int .i64)) 23 w' w.heap.size (fun _ => True) v0_ r ∧ Below w.heap.size w w' := by
 have hu38 := Tryz.underlying38
 have HR0_1 := Aside0.mk hr0_1
 have HC0_1 := Aside0.mk hc0_1
 clear hr0_1 hc0_1
 have HR0_2 := Aside0.mk hr0_2
 have HC0_2 := Aside0.mk hc0_2
 clear hr0_2 hc0_2
 have HR0_3 := Aside0.mk hr0_3
 have HC0_3 := Aside0.mk hc0_3
 clear hr0_3 hc0_3
 have HB := Aside0.mk (Below.refl w.heap.size w)
 have H : ((impl_isRowOf.f k a0_0 l0_1 l0_2 l0_3 a1).bind fun t485 => (if t485 = true then (impl_DifferencesFor.l0 k a1 (([] : List (List Int))) l0_3 (l0_3.length : Int) 0 a0_0 l0_1 l0_2 l0_3) else (some ([] : List (List Int))))) = some r := h
 clear h
 replace H := bnd_ H; obtain ⟨t485, A3, H⟩ := H
 replace H := itb_ H; rcases H with ⟨rfl, H⟩ | ⟨rfl, H⟩
 ·obtain ⟨y486, hy486⟩ : ∃ y_ : List (List Int), y_ = (([] : List (List Int))) := ⟨_, rfl⟩
  replace H : (impl_DifferencesFor.l0 k a1 y486 l0_3 (l0_3.length : Int) 0 a0_0 l0_1 l0_2 l0_3) = some r := rh_ hy486 H
  have Ny486 := Aside0.mk hy486
  clear hy486
  have H' := Aside0.mk H
  clear H
  go_enter Tryz.func16, Tryz.ntmps16
  go_wp2_with (first | ((refine gd_ 2 ?_); refine bx_ 2 #[.string a0_0, .slice A0_1 l0_1.length c0_1, .slice A0_2 l0_2.length c0_2, .slice A0_3 l0_3.length c0_3] 38 ?_; intro gb484 hg w5 hbox hb; have BK484 := Aside0.mk (hbox); have GW484 := gw_ HB hg; have GE484 := gw_ HB hg; replace HB := bs_ HB hb; clear hb hbox hg; obtain ⟨hcz6_0, hcz6_1, hcz6_2, hcz6_3⟩ := c4_ BK484; have hfz6_0 := blk_frozen BK484.out 0; have hfz6_1 := blk_frozen BK484.out 1; have hfz6_2 := blk_frozen BK484.out 2; have hfz6_3 := blk_frozen BK484.out 3) | ((refine gc_ 36 ?_); refine gl_ (some 14) Tryz.func36 (impl_isRowOf.calls k a0_0 _ _ l0_1 _ _ l0_2 _ _ l0_3 a1 true _ (Kd.C_below HR0_1.out (up_ HB.out)) HC0_1.out (Kd.C_below HR0_2.out (up_ HB.out)) HC0_2.out (Kd.C_below HR0_3.out (up_ HB.out)) HC0_3.out A3.out) ?_; rintro e w7 ⟨rfl, hb⟩; refine ⟨_, rfl, ?_⟩; replace BK484 := bb_ BK484 hb; replace HB := bs_ HB hb; (try clear hb); (try clear hb2); (try clear hk); (try clear hi)) | ((refine gd_ 16 ?_); refine Kd.S_lit (Kd.slice 3 (Kd.int .i64)) _ 23 ?hg (N := 16) ?hd (xs := ([] : List (List Int))) (inner := []) (ok := fun _ => True) (okp := fun _ => True) ?hr ?hp (fun _ hk => hk) trivial (Below.refl _ _) (Nat.le_refl _) (by simp) ?_; (case hd => rfl); (case hg => rfl); (case hr => first | (go_simp; done) | (go_simp; rfl)); (case hp => exact (Reps.none _ _)); intro v487 w8 ho9 hb hg_ hnew_; clear hg_ hnew_; (first | rw [← Ny486.out] at ho9 | (simp only [Int.reduceToNat] at ho9; rw [← Ny486.out] at ho9)); have HO488 := Aside0.mk (Kd.S_lower ho9 (below_size (up_ HB.out))); replace BK484 := bb_ BK484 hb; replace HB := bs_ HB hb; clear hb ho9; obtain ⟨hcz10_0, hcz10_1, hcz10_2, hcz10_3⟩ := c4_ BK484; have hfz10_0 := blk_frozen BK484.out 0; have hfz10_1 := blk_frozen BK484.out 1; have hfz10_2 := blk_frozen BK484.out 2; have hfz10_3 := blk_frozen BK484.out 3))
  go_loopg [5, 20] k (fun kq v5 v20 w' => ∃ (x5_1 : List (List Int)) (x20_1 : Int), v20 = .int .i64 x20_1 ∧ Aside0 (impl_DifferencesFor.l0 kq a1 x5_1 l0_3 (l0_3.length : Int) x20_1 a0_0 l0_1 l0_2 l0_3 = some r) ∧ Aside0 (kq ≤ k) ∧ Aside0 (Kd.S (Kd.slice 3 (Kd.int .i64)) 23 w' w.heap.size (fun _ => True) v5 x5_1) ∧ Aside0 (w'.heap[gb484]? = some (.cells #[.string a0_0, (.slice A0_1 l0_1.length c0_1), (.slice A0_2 l0_2.length c0_2), (.slice A0_3 l0_3.length c0_3)] 38 (0, 0))) ∧ Aside0 (Below w.heap.size w w'))
  case atStart => exact ⟨(y486), (0), rs_, H', ⟨Nat.le_refl _⟩, ⟨up_ HO488.out⟩, ⟨up_ BK484.out⟩, ⟨up_ HB.out⟩⟩
  case round =>
   clear H'
   try clear c1
   try clear p2
   try clear c3
   try clear c4
   try clear hcz10_0
   try clear hcz10_1
   try clear hcz10_2
   try clear hcz10_3
   try clear hcz6_0
   try clear hcz6_1
   try clear hcz6_2
   try clear hcz6_3
   try clear hfz10_0
   try clear hfz10_1
   try clear hfz10_2
   try clear hfz10_3
   try clear hfz6_0
   try clear hfz6_1
   try clear hfz6_2
   try clear hfz6_3
   obtain ⟨x5_1, x20_1, rfl, HA, HK1, HO_5, BK484, HB⟩ := hrel
   cases gk with
   | zero => exact absurd HA.out (by simp [impl_DifferencesFor.l0])
   | succ k1 =>
    have H := HA.out
    clear HA
    simp only [impl_DifferencesFor.l0] at H
    replace H := its_ H; rcases H with ⟨c11b0, H⟩ | ⟨c11b0, H⟩
    ·replace H := its_ H; rcases H with ⟨c12b0, H⟩ | ⟨_, ⟨⟩⟩
     replace H := its_ H; rcases H with ⟨c13b0, H⟩ | ⟨_, ⟨⟩⟩
     obtain ⟨y490, hy490⟩ : ∃ y_ : List Int, y_ = (([] : List Int)) := ⟨_, rfl⟩
     replace H : (impl_DifferencesFor.l1 k1 a1 x5_1 true l0_3 (l0_3.length : Int) x20_1 (rd_L6 l0_3 x20_1) ((rd_L6 l0_3 x20_1).length : Int) 0 a0_0 l0_1 l0_2 l0_3 y490) = some r := rh_ hy490 H
     have Ny490 := Aside0.mk hy490
     clear hy490
     have H' := Aside0.mk H
     clear H
     have p489 : 0 ≤ (x20_1 : Int) := od_
     have q489 : x20_1 < (l0_3.length : Int) := od_
     obtain ⟨ad489, A489_0, c489_0, e489, hx489_0, hl489_0, hi489_0⟩ := at_L6 HR0_3.out x20_1 p489 q489
     cases e489
     replace hx489_0 := bh_ HB hx489_0
     have HR489_0 := Aside0.mk hi489_0
     have HC489_0 := Aside0.mk hl489_0
     clear hi489_0 hl489_0
     replace p489 := eq_true p489
     replace q489 := eq_true q489
     go_wp2_with (first | ((refine gd_ 24 ?_); refine Kd.R_lit (Kd.int .i64) _ 3 ?hg (N := 24) ?hd (xs := ([] : List Int)) (inner := []) (ok := fun _ => True) (okp := fun _ => True) ?hr ?hp (fun _ hk => hk) trivial (Below.refl _ _) (Nat.le_refl _) (by simp) ?_; (case hd => rfl); (case hg => rfl); (case hr => first | (go_simp; done) | (go_simp; rfl)); (case hp => exact (Reps.none _ _)); intro v491 w14 ho15 hb hg_ hnew_; clear hg_ hnew_; (first | rw [← Ny490.out] at ho15 | (simp only [Int.reduceToNat] at ho15; rw [← Ny490.out] at ho15)); replace HO_5 := Aside0.mk (Kd.S_elder' (up_ HO_5.out) (Kd.R_base ho15) hb); have HO492 := Aside0.mk (Kd.R_lower ho15 (below_size (up_ HB.out))); replace BK484 := bb_ BK484 hb; replace HB := bs_ HB hb; clear hb ho15) | ((refine gd_ 8 ?_); refine bx_ 8 #[.slice none 0 0] 23 ?_; intro gb493 hg w16 hbox hb; replace HO_5 := Aside0.mk (Kd.S_below (Kd.S_elderB (up_ HO_5.out) gb493 (Nat.le_of_eq hg.symm)) hb); replace HO492 := Aside0.mk (Kd.R_below (up_ HO492.out) hb); have BK493 := Aside0.mk (hbox); have GW493 := gw_ HB hg; have GE493 := gw_ HB hg; replace HB := bs_ HB hb; have NB484_493 := Aside0.mk ((by rw [hg]; exact Nat.ne_of_lt (blk_lt (g := gb484) (o := .cells #[.string a0_0, .slice A0_1 l0_1.length c0_1, .slice A0_2 l0_2.length c0_2, .slice (some ad489) l0_3.length c0_3] 38 (0, 0)) (up_ BK484.out)) : gb484 ≠ gb493)); have NB493_484 := Aside0.mk ((by rw [hg]; exact Nat.ne_of_gt (blk_lt (g := gb484) (o := .cells #[.string a0_0, .slice A0_1 l0_1.length c0_1, .slice A0_2 l0_2.length c0_2, .slice (some ad489) l0_3.length c0_3] 38 (0, 0)) (up_ BK484.out)) : gb493 ≠ gb484)); replace BK484 := bb_ BK484 hb; clear hb hbox hg; obtain ⟨Ao17, co17, eo17⟩ := Kd.R_slice HO492.out; subst eo17; have hnb18 := NB493_484.out; have hnc18 := NB484_493.out; have hcz19_0 := c1_ BK493; have hfz19_0 := blk_frozen BK493.out 0))
     go_loopg [9, 27] k1 (fun kq v9 v27 w' => ∃ (z_y : List Int) (z_A : Option Addr) (z_c : Nat) (x9_2 : Bool) (x27_2 : Int), v9 = .bool x9_2 ∧ v27 = .int .i64 x27_2 ∧ Aside0 (impl_DifferencesFor.l1 kq a1 x5_1 x9_2 l0_3 (l0_3.length : Int) x20_1 (rd_L6 l0_3 x20_1) ((rd_L6 l0_3 x20_1).length : Int) x27_2 a0_0 l0_1 l0_2 l0_3 z_y = some r) ∧ Aside0 (kq ≤ k1) ∧ Aside0 (Kd.S (Kd.slice 3 (Kd.int .i64)) 23 w' w.heap.size (fun k_ => some k_ ≠ ((.slice z_A z_y.length z_c) : Value).ownBlock ∧ k_ ≠ gb493) u5 x5_1) ∧ Aside0 (Kd.R (Kd.int .i64) 3 w' w.heap.size (fun _ => True) (.slice z_A z_y.length z_c) z_y) ∧ Aside0 (w'.heap[gb484]? = some (.cells #[.string a0_0, (.slice A0_1 l0_1.length c0_1), (.slice A0_2 l0_2.length c0_2), (.slice (some ad489) l0_3.length c0_3)] 38 (0, 0))) ∧ Aside0 (w'.heap[gb493]? = some (.cells #[(.slice z_A z_y.length z_c)] 23 (0, 0))) ∧ Aside0 (Below w.heap.size w w'))
     case atStart => exact ⟨y490, Ao17, co17, (true), (0), rs_, rs_, H', ⟨Nat.le_refl _⟩, ⟨by (with_reducible repeat (first | apply Kd.S_alloc | apply Kd.S_drewN | apply Kd.S_drew)); exact Kd.S_mono (Kd.S_far (p := ⟨gb493, 0, none⟩) (Kd.S_mono HO_5.out (fun k_ hk => (⟨hk, hk.2⟩ : _ ∧ k_ ≠ gb493))) (fun _ hk => hk.2) (.slice Ao17 y490.length co17)) (fun _ hk => ⟨hk.1.1.2, hk.1.2⟩)⟩, ⟨by (with_reducible repeat (first | apply Kd.R_alloc | apply Kd.R_drewN | apply Kd.R_drew)); exact Kd.R_mono (Kd.R_far (p := ⟨gb493, 0, none⟩) (Kd.R_types HO492.out BK493.out (by decide)) (fun _ hk => hk.2) (.slice Ao17 y490.length co17)) (fun _ hk => trivial)⟩, ⟨by (with_reducible repeat (first | refine blk_drewN ?_ _ | refine blk_drew ?_ | refine blk_alloc ?_ _)); refine blk_far ?_ NB484_493.out _; (with_reducible repeat (first | refine blk_drewN ?_ _ | refine blk_drew ?_ | refine blk_alloc ?_ _)); exact BK484.out⟩, ⟨by (with_reducible repeat (first | refine blk_drewN ?_ _ | refine blk_drew ?_ | refine blk_alloc ?_ _)); refine blk_put (cs := #[.slice none 0 0]) ?_ 0 _ rfl; (with_reducible repeat (first | refine blk_drewN ?_ _ | refine blk_drew ?_ | refine blk_alloc ?_ _)); exact BK493.out⟩, ⟨up_ HB.out⟩⟩
     case round =>
      clear H'
      try clear c1
      try clear p2
      try clear c3
      try clear c4
      try clear p4
      try clear q4
      try clear hx4
      try clear c11
      try clear c11b0
      try clear c12
      try clear c12b0
      try clear c13
      try clear c13b0
      try clear c16
      try clear c18
      try clear hcz10_0
      try clear hcz10_1
      try clear hcz10_2
      try clear hcz10_3
      try clear hcz19_0
      try clear hcz6_0
      try clear hcz6_1
      try clear hcz6_2
      try clear hcz6_3
      try clear hfz10_0
      try clear hfz10_1
      try clear hfz10_2
      try clear hfz10_3
      try clear hfz19_0
      try clear hfz6_0
      try clear hfz6_1
      try clear hfz6_2
      try clear hfz6_3
      try clear hx489_0
      try clear p2
      try clear p489
      try clear q489
      obtain ⟨y490, Ao17, co17, x9_2, x27_2, rfl, rfl, HA, HK2, HO_5, HO_494000, BK484, BK493, HB⟩ := hrel
      cases gk with
      | zero => exact absurd HA.out (by simp [impl_DifferencesFor.l1])
      | succ k2 =>
       have H := HA.out
       clear HA
       simp only [impl_DifferencesFor.l1] at H
       replace H := its_ H; rcases H with ⟨c20b0, H⟩ | ⟨c20b0, H⟩
       ·replace H := its_ H; rcases H with ⟨c21b0, H⟩ | ⟨_, ⟨⟩⟩
        replace H := its_ H; rcases H with ⟨c22b0, H⟩ | ⟨_, ⟨⟩⟩
        replace H := its_ H; rcases H with ⟨c23b0, H⟩ | ⟨_, ⟨⟩⟩
        replace H := its_ H; rcases H with ⟨c24b0, H⟩ | ⟨_, ⟨⟩⟩
        replace H := its_ H; rcases H with ⟨c25b0, H⟩ | ⟨_, ⟨⟩⟩
        by_cases c26 : y490.length < 17592186044416
        ·rw [if_pos c26] at H
         have LMc26 := Aside0.mk c26
         clear c26
         obtain ⟨y497, hy497⟩ : ∃ y_ : List Int, y_ = (y490 ++ [wrap64 ((rd (rd_L6 l0_3 x20_1) x27_2) - (rd (rd_L6 l0_3 a1) x27_2))]) := ⟨_, rfl⟩
         replace H : (if x9_2 = true then (if x27_2 < (y497.length : Int) then (impl_DifferencesFor.l1 k2 a1 x5_1 ((rd y497 x27_2) == 0) l0_3 (l0_3.length : Int) x20_1 (rd_L6 l0_3 x20_1) ((rd_L6 l0_3 x20_1).length : Int) (wrap64 (x27_2 + 1)) a0_0 l0_1 l0_2 l0_3 y497) else (none)) else (impl_DifferencesFor.l1 k2 a1 x5_1 false l0_3 (l0_3.length : Int) x20_1 (rd_L6 l0_3 x20_1) ((rd_L6 l0_3 x20_1).length : Int) (wrap64 (x27_2 + 1)) a0_0 l0_1 l0_2 l0_3 y497)) = some r := rh_ hy497 H
         have Ny497 := Aside0.mk hy497
         clear hy497
         replace H := itb_ H; rcases H with ⟨rfl, H⟩ | ⟨rfl, H⟩
         ·replace H := its_ H; rcases H with ⟨c28b0, H⟩ | ⟨_, ⟨⟩⟩
          have H' := Aside0.mk H
          clear H
          have p494 : 0 ≤ (x27_2 : Int) := od_
          have q494 : x27_2 < ((rd_L6 l0_3 x20_1).length : Int) := od_
          obtain ⟨ad494, e494, hx494_0⟩ := Kd.at_int HR489_0.out x27_2 p494 q494
          cases e494
          replace hx494_0 := bh_ HB hx494_0
          replace p494 := eq_true p494
          replace q494 := eq_true q494
          try go_wp2
          have n0_ := Aside0.mk (Kd.S_drew HO_5.out)
          have n1_ := Aside0.mk (Kd.R_drew HO_494000.out)
          have n2_ := Aside0.mk (blk_drew BK484.out)
          have n3_ := Aside0.mk (blk_drew BK493.out)
          have n4_ := Aside0.mk (below_drew1 HB.out)
          clear HO_5
          clear HO_494000
          clear BK484
          clear BK493
          clear HB
          have HO_5 := n0_
          have HO_494000 := n1_
          have BK484 := n2_
          have BK493 := n3_
          have HB := n4_
          clear n0_ n1_ n2_ n3_ n4_
          have p495 : 0 ≤ (a1 : Int) := od_
          have q495 : a1 < (l0_3.length : Int) := od_
          obtain ⟨ad495, A495_0, c495_0, e495, hx495_0, hl495_0, hi495_0⟩ := at_L6 HR0_3.out a1 p495 q495
          have hw495_0 := hx495_0
          obtain rfl : ad489 = ad495 := (by injection e495)
          replace hx495_0 := bh_ HB hx495_0
          have HR495_0 := Aside0.mk hi495_0
          have HC495_0 := Aside0.mk hl495_0
          clear hi495_0 hl495_0
          replace p495 := eq_true p495
          replace q495 := eq_true q495
          have p496 : 0 ≤ (x27_2 : Int) := od_
          have q496 : x27_2 < ((rd_L6 l0_3 a1).length : Int) := od_
          obtain ⟨ad496, e496, hx496_0⟩ := Kd.at_int HR495_0.out x27_2 p496 q496
          have hw496_0 := hx496_0
          cases e496
          replace hx496_0 := bh_ HB hx496_0
          replace p496 := eq_true p496
          replace q496 := eq_true q496
          refine start_ (n := 14) (S := fun w' => w'.cell? ⟨gb493, 0, none⟩ = some (.slice Ao17 y490.length co17) ∧ w'.cell? ⟨gb484, 0, none⟩ = some (.string a0_0) ∧ w'.cell? ⟨gb484, 1, none⟩ = some (.slice A0_1 l0_1.length c0_1) ∧ w'.cell? ⟨gb484, 2, none⟩ = some (.slice A0_2 l0_2.length c0_2) ∧ w'.cell? ⟨gb484, 3, none⟩ = some (.slice (some ad489) l0_3.length c0_3) ∧ w'.cell? (ad489.add (a1).toNat) = some (.slice (some ad496) (rd_L6 l0_3 a1).length c495_0) ∧ w'.cell? (ad496.add (x27_2).toNat) = some (.int .i64 (rd (rd_L6 l0_3 a1) x27_2))) (ds := [13]) #[false, false, false, false, false, false, false, false, false, false, false, false, false, false] (by kernel_rfl) rfl rfl ⟨(blk_cell BK493.out 0).trans rfl, (blk_cell BK484.out 0).trans rfl, (blk_cell BK484.out 1).trans rfl, (blk_cell BK484.out 2).trans rfl, (blk_cell BK484.out 3).trans rfl, (bh_ HB hw495_0 :), (bh_ HB hw496_0 :)⟩ (fun hHeld => ?_); refine with_tabW impl_DifferencesFor.tab11 impl_DifferencesFor.bits11 (fun HT_ HW_ => ?_)
          generalize wr.drew = w29 at HO_5 HO_494000 BK484 BK493 HB HR495_0 hx495_0 hx496_0 hHeld ⊢
          refine pu_ 1 (some 33) ?_
          refine pu_ 2 (some 34) ?_
          refine pu_ 4 (some 36) ?_
          refine pu_ 7 (some 39) ?_
          refine tk_ 0 (some 32) hHeld ?_
          refine tk_ 3 (some 35) hHeld ?_
          refine pu_ 5 (some 37) ?_
          refine tk_ 6 (some 38) hHeld ?_
          refine pu_ 8 (some 40) ?_
          refine tk_ 9 (some 41) hHeld ?_
          refine pu_ 10 (some 42) ?_
          refine one_ (i := 11) (N := some 43) #[true, true, true, true, true, true, true, true, true, true, true, true, false, false] rfl rfl (one_of HT_.out (by kernel_rfl)) (by decide) (fun K hK => ?_)
          refine value_ (w1 := ?_) (v := ?_) (by rfl) rfl ?_ ?_
          rotate_left 2
          ·go_simp
           constructor
           ·rfl
           ·rfl
          refine hK.out _ _ ⟨(blk_cell (blk_alloc BK493.out _) 0).trans rfl, (blk_cell (blk_alloc BK484.out _) 0).trans rfl, (blk_cell (blk_alloc BK484.out _) 1).trans rfl, (blk_cell (blk_alloc BK484.out _) 2).trans rfl, (blk_cell (blk_alloc BK484.out _) 3).trans rfl, (World.cell?_alloc_lt _ _ _ (World.block_lt_of_cell? _ _ ((bh_ HB hw495_0 :)))).trans ((bh_ HB hw495_0 :)), (World.cell?_alloc_lt _ _ _ (World.block_lt_of_cell? _ _ ((bh_ HB hw496_0 :)))).trans ((bh_ HB hw496_0 :))⟩ (fun hHeld => ?_)
          clear hK K
          refine nm_ ?_
          refine one_ (i := 12) (N := some 44) #[true, true, true, true, true, true, true, true, true, true, true, true, true, false] rfl rfl (one_of HT_.out (by kernel_rfl)) (by decide) (fun K hK => ?_)
          refine Kd.R_append_step (Kd.int .i64) (w0 := w) w.heap.size (by rfl) (.tmp 32) (.tmp 43) 23 3 (.int .i64 0) 8 rfl Tryz.underlying23 info3 rfl (by decide) (by omega) (.slice Ao17 y490.length co17) y490 (wrap64 ((rd (rd_L6 l0_3 x20_1) x27_2) - (rd (rd_L6 l0_3 a1) x27_2))) [.int .i64 (wrap64 ((rd (rd_L6 l0_3 x20_1) x27_2) - (rd (rd_L6 l0_3 a1) x27_2)))] (fun _ => True) (fun _ => False) rfl rfl ?aP (fun _ hk => hk.elim) ?aF ?aO ?aB ?aS ?aL ?_
          (case aP => exact rfl)
          (case aB => exact (up_ HB.out))
          (case aF => exact (fun _ _ => trivial))
          (case aO => exact (up_ HO_494000.out))
          (case aS => exact (below_size (up_ HB.out)))
          (case aL => have := LMc26.out; omega)
          intro v498 w30 ho hb hg hat
          rw [← Ny497.out] at ho
          have n0_ := Aside0.mk (Kd.S_after (ok := (fun k_ => k_ ≠ gb493)) (by (with_reducible repeat (first | apply Kd.S_alloc | apply Kd.S_drewN | apply Kd.S_drew)); exact Kd.S_mono HO_5.out (fun _ hk => ⟨hk.2, hk.1⟩)) hg hat)
          have n1_ := Aside0.mk (blk_grown (g := gb484) (o := .cells #[.string a0_0, .slice A0_1 l0_1.length c0_1, .slice A0_2 l0_2.length c0_2, .slice (some ad489) l0_3.length c0_3] 38 (0, 0)) (up_ BK484.out) hg (Kd.R_ne HO_494000.out BK484.out (by decide)))
          have n2_ := Aside0.mk (blk_grown (g := gb493) (o := .cells #[.slice Ao17 y490.length co17] 23 (0, 0)) (up_ BK493.out) hg (Kd.R_ne HO_494000.out BK493.out (by decide)))
          have n3_ := Aside0.mk (hb)
          have n4_ := Aside0.mk (ho)
          clear HO_5
          clear BK484
          clear BK493
          clear HB
          clear HO_494000
          have HO_5 := n0_
          have BK484 := n1_
          have BK493 := n2_
          have HB := n3_
          have HO499 := n4_
          clear n0_ n1_ n2_ n3_ n4_
          clear ho hb hg hat
          obtain ⟨Ao31, co31, eo31⟩ := Kd.R_slice HO499.out
          (first | subst eo31 | (injection eo31 with f1_ f2_ f3_; have f4_ := f1_.symm; have f5_ := f3_.symm; clear f1_ f2_ f3_; subst f4_; subst f5_))
          refine hK.out _ _ ⟨(blk_cell BK493.out 0).trans rfl, (blk_cell BK484.out 0).trans rfl, (blk_cell BK484.out 1).trans rfl, (blk_cell BK484.out 2).trans rfl, (blk_cell BK484.out 3).trans rfl, (bh_ HB hw495_0 :), (bh_ HB hw496_0 :)⟩ (fun hHeld => ?_)
          clear hK K
          refine nm_ ?_
          refine last_ (i := 13) (N := none) #[true, true, true, true, true, true, true, true, true, true, true, true, true, true] rfl rfl (one_of HT_.out (by kernel_rfl)) (by decide) (fun K hK => ?_)
          have hs32 : w30.cell? ⟨gb493, 0, none⟩ = some (.slice Ao17 y490.length co17) := (blk_cell BK493.out 0).trans rfl
          have hfs32 := blk_frozen BK493.out 0
          have hns32_0 := NB484_493.out
          have hms32_0 := NB493_484.out
          refine skip_ (w1 := ?_) (by rfl) rfl ?_ ?_
          rotate_left
          ·go_simp
           rfl
          refine hK.out _ _ ?_
          clear hK K
          refine done_ (done_of HT_.out (by kernel_rfl)) ?_
          have hnb33 := NB493_484.out
          have hnc33 := NB484_493.out
          have hcz34_0 := c1_ BK493
          have hfz34_0 := blk_frozen BK493.out 0
          have p500 : 0 ≤ (x27_2 : Int) := od_
          have q500 : x27_2 < (y497.length : Int) := od_
          obtain ⟨ad500, e500, hx500_0⟩ := Kd.at_int (Kd.R_reads' HO499.out).2.2 x27_2 p500 q500
          cases e500
          have hn500_0 : ad500.block ≠ gb493 := Kd.own_blk (Kd.R_ne HO499.out BK493.out (by decide))
          replace hx500_0 := (cell_far (p := ⟨gb493, 0, none⟩) (by first | (rw [add_block]; exact hn500_0) | (show (Addr.add _ _).block ≠ _; rw [add_block]; exact hn500_0) | exact hn500_0) (.slice (some ad500) y497.length co31)).trans hx500_0
          clear hn500_0
          replace p500 := eq_true p500
          replace q500 := eq_true q500
          try go_wp2
          go_roundg k2
          case measure => have := HK1.out; have := HK2.out; omega
          case rel => exact ⟨_, _, _, (((rd y497 x27_2) == 0)), (wrap64 (x27_2 + 1)), rs_, rs_, H', ⟨by have := HK1.out; have := HK2.out; omega⟩, ⟨by (with_reducible repeat (first | apply Kd.S_alloc | apply Kd.S_drewN | apply Kd.S_drew)); exact Kd.S_mono (Kd.S_far (p := ⟨gb493, 0, none⟩) (Kd.S_mono HO_5.out (fun k_ hk => (⟨hk, hk.1⟩ : _ ∧ k_ ≠ gb493))) (fun _ hk => hk.2) (.slice (some ad500) y497.length co31)) (fun _ hk => ⟨hk.1.2, hk.1.1⟩)⟩, ⟨by (with_reducible repeat (first | apply Kd.R_alloc | apply Kd.R_drewN | apply Kd.R_drew)); exact Kd.R_mono (Kd.R_far (p := ⟨gb493, 0, none⟩) (Kd.R_types HO499.out BK493.out (by decide)) (fun _ hk => hk.2) (.slice (some ad500) y497.length co31)) (fun _ hk => trivial)⟩, ⟨by (with_reducible repeat (first | refine blk_drewN ?_ _ | refine blk_drew ?_ | refine blk_alloc ?_ _)); refine blk_far ?_ NB484_493.out _; (with_reducible repeat (first | refine blk_drewN ?_ _ | refine blk_drew ?_ | refine blk_alloc ?_ _)); exact BK484.out⟩, ⟨by (with_reducible repeat (first | refine blk_drewN ?_ _ | refine blk_drew ?_ | refine blk_alloc ?_ _)); refine blk_put (cs := #[.slice Ao17 y490.length co17]) ?_ 0 _ rfl; (with_reducible repeat (first | refine blk_drewN ?_ _ | refine blk_drew ?_ | refine blk_alloc ?_ _)); exact BK493.out⟩, ⟨up_ HB.out⟩⟩
         ·have H' := Aside0.mk H
          clear H
          have p494 : 0 ≤ (x27_2 : Int) := od_
          have q494 : x27_2 < ((rd_L6 l0_3 x20_1).length : Int) := od_
          obtain ⟨ad494, e494, hx494_0⟩ := Kd.at_int HR489_0.out x27_2 p494 q494
          cases e494
          replace hx494_0 := bh_ HB hx494_0
          replace p494 := eq_true p494
          replace q494 := eq_true q494
          try go_wp2
          have n0_ := Aside0.mk (Kd.S_drew HO_5.out)
          have n1_ := Aside0.mk (Kd.R_drew HO_494000.out)
          have n2_ := Aside0.mk (blk_drew BK484.out)
          have n3_ := Aside0.mk (blk_drew BK493.out)
          have n4_ := Aside0.mk (below_drew1 HB.out)
          clear HO_5
          clear HO_494000
          clear BK484
          clear BK493
          clear HB
          have HO_5 := n0_
          have HO_494000 := n1_
          have BK484 := n2_
          have BK493 := n3_
          have HB := n4_
          clear n0_ n1_ n2_ n3_ n4_
          have p495 : 0 ≤ (a1 : Int) := od_
          have q495 : a1 < (l0_3.length : Int) := od_
          obtain ⟨ad495, A495_0, c495_0, e495, hx495_0, hl495_0, hi495_0⟩ := at_L6 HR0_3.out a1 p495 q495
          have hw495_0 := hx495_0
          obtain rfl : ad489 = ad495 := (by injection e495)
          replace hx495_0 := bh_ HB hx495_0
          have HR495_0 := Aside0.mk hi495_0
          have HC495_0 := Aside0.mk hl495_0
          clear hi495_0 hl495_0
          replace p495 := eq_true p495
          replace q495 := eq_true q495
          have p496 : 0 ≤ (x27_2 : Int) := od_
          have q496 : x27_2 < ((rd_L6 l0_3 a1).length : Int) := od_
          obtain ⟨ad496, e496, hx496_0⟩ := Kd.at_int HR495_0.out x27_2 p496 q496
          have hw496_0 := hx496_0
          cases e496
          replace hx496_0 := bh_ HB hx496_0
          replace p496 := eq_true p496
          replace q496 := eq_true q496
          refine start_ (n := 14) (S := fun w' => w'.cell? ⟨gb493, 0, none⟩ = some (.slice Ao17 y490.length co17) ∧ w'.cell? ⟨gb484, 0, none⟩ = some (.string a0_0) ∧ w'.cell? ⟨gb484, 1, none⟩ = some (.slice A0_1 l0_1.length c0_1) ∧ w'.cell? ⟨gb484, 2, none⟩ = some (.slice A0_2 l0_2.length c0_2) ∧ w'.cell? ⟨gb484, 3, none⟩ = some (.slice (some ad489) l0_3.length c0_3) ∧ w'.cell? (ad489.add (a1).toNat) = some (.slice (some ad496) (rd_L6 l0_3 a1).length c495_0) ∧ w'.cell? (ad496.add (x27_2).toNat) = some (.int .i64 (rd (rd_L6 l0_3 a1) x27_2))) (ds := [13]) #[false, false, false, false, false, false, false, false, false, false, false, false, false, false] (by kernel_rfl) rfl rfl ⟨(blk_cell BK493.out 0).trans rfl, (blk_cell BK484.out 0).trans rfl, (blk_cell BK484.out 1).trans rfl, (blk_cell BK484.out 2).trans rfl, (blk_cell BK484.out 3).trans rfl, (bh_ HB hw495_0 :), (bh_ HB hw496_0 :)⟩ (fun hHeld => ?_); refine with_tabW impl_DifferencesFor.tab11 impl_DifferencesFor.bits11 (fun HT_ HW_ => ?_)
          generalize wr.drew = w35 at HO_5 HO_494000 BK484 BK493 HB HR495_0 hx495_0 hx496_0 hHeld ⊢
          refine pu_ 1 (some 33) ?_
          refine pu_ 2 (some 34) ?_
          refine pu_ 4 (some 36) ?_
          refine pu_ 7 (some 39) ?_
          refine tk_ 0 (some 32) hHeld ?_
          refine tk_ 3 (some 35) hHeld ?_
          refine pu_ 5 (some 37) ?_
          refine tk_ 6 (some 38) hHeld ?_
          refine pu_ 8 (some 40) ?_
          refine tk_ 9 (some 41) hHeld ?_
          refine pu_ 10 (some 42) ?_
          refine one_ (i := 11) (N := some 43) #[true, true, true, true, true, true, true, true, true, true, true, true, false, false] rfl rfl (one_of HT_.out (by kernel_rfl)) (by decide) (fun K hK => ?_)
          refine value_ (w1 := ?_) (v := ?_) (by rfl) rfl ?_ ?_
          rotate_left 2
          ·go_simp
           constructor
           ·rfl
           ·rfl
          refine hK.out _ _ ⟨(blk_cell (blk_alloc BK493.out _) 0).trans rfl, (blk_cell (blk_alloc BK484.out _) 0).trans rfl, (blk_cell (blk_alloc BK484.out _) 1).trans rfl, (blk_cell (blk_alloc BK484.out _) 2).trans rfl, (blk_cell (blk_alloc BK484.out _) 3).trans rfl, (World.cell?_alloc_lt _ _ _ (World.block_lt_of_cell? _ _ ((bh_ HB hw495_0 :)))).trans ((bh_ HB hw495_0 :)), (World.cell?_alloc_lt _ _ _ (World.block_lt_of_cell? _ _ ((bh_ HB hw496_0 :)))).trans ((bh_ HB hw496_0 :))⟩ (fun hHeld => ?_)
          clear hK K
          refine nm_ ?_
          refine one_ (i := 12) (N := some 44) #[true, true, true, true, true, true, true, true, true, true, true, true, true, false] rfl rfl (one_of HT_.out (by kernel_rfl)) (by decide) (fun K hK => ?_)
          refine Kd.R_append_step (Kd.int .i64) (w0 := w) w.heap.size (by rfl) (.tmp 32) (.tmp 43) 23 3 (.int .i64 0) 8 rfl Tryz.underlying23 info3 rfl (by decide) (by omega) (.slice Ao17 y490.length co17) y490 (wrap64 ((rd (rd_L6 l0_3 x20_1) x27_2) - (rd (rd_L6 l0_3 a1) x27_2))) [.int .i64 (wrap64 ((rd (rd_L6 l0_3 x20_1) x27_2) - (rd (rd_L6 l0_3 a1) x27_2)))] (fun _ => True) (fun _ => False) rfl rfl ?aP (fun _ hk => hk.elim) ?aF ?aO ?aB ?aS ?aL ?_
          (case aP => exact rfl)
          (case aB => exact (up_ HB.out))
          (case aF => exact (fun _ _ => trivial))
          (case aO => exact (up_ HO_494000.out))
          (case aS => exact (below_size (up_ HB.out)))
          (case aL => have := LMc26.out; omega)
          intro v498 w36 ho hb hg hat
          rw [← Ny497.out] at ho
          have n0_ := Aside0.mk (Kd.S_after (ok := (fun k_ => k_ ≠ gb493)) (by (with_reducible repeat (first | apply Kd.S_alloc | apply Kd.S_drewN | apply Kd.S_drew)); exact Kd.S_mono HO_5.out (fun _ hk => ⟨hk.2, hk.1⟩)) hg hat)
          have n1_ := Aside0.mk (blk_grown (g := gb484) (o := .cells #[.string a0_0, .slice A0_1 l0_1.length c0_1, .slice A0_2 l0_2.length c0_2, .slice (some ad489) l0_3.length c0_3] 38 (0, 0)) (up_ BK484.out) hg (Kd.R_ne HO_494000.out BK484.out (by decide)))
          have n2_ := Aside0.mk (blk_grown (g := gb493) (o := .cells #[.slice Ao17 y490.length co17] 23 (0, 0)) (up_ BK493.out) hg (Kd.R_ne HO_494000.out BK493.out (by decide)))
          have n3_ := Aside0.mk (hb)
          have n4_ := Aside0.mk (ho)
          clear HO_5
          clear BK484
          clear BK493
          clear HB
          clear HO_494000
          have HO_5 := n0_
          have BK484 := n1_
          have BK493 := n2_
          have HB := n3_
          have HO499 := n4_
          clear n0_ n1_ n2_ n3_ n4_
          clear ho hb hg hat
          obtain ⟨Ao37, co37, eo37⟩ := Kd.R_slice HO499.out
          (first | subst eo37 | (injection eo37 with f1_ f2_ f3_; have f4_ := f1_.symm; have f5_ := f3_.symm; clear f1_ f2_ f3_; subst f4_; subst f5_))
          refine hK.out _ _ ⟨(blk_cell BK493.out 0).trans rfl, (blk_cell BK484.out 0).trans rfl, (blk_cell BK484.out 1).trans rfl, (blk_cell BK484.out 2).trans rfl, (blk_cell BK484.out 3).trans rfl, (bh_ HB hw495_0 :), (bh_ HB hw496_0 :)⟩ (fun hHeld => ?_)
          clear hK K
          refine nm_ ?_
          refine last_ (i := 13) (N := none) #[true, true, true, true, true, true, true, true, true, true, true, true, true, true] rfl rfl (one_of HT_.out (by kernel_rfl)) (by decide) (fun K hK => ?_)
          have hs38 : w36.cell? ⟨gb493, 0, none⟩ = some (.slice Ao17 y490.length co17) := (blk_cell BK493.out 0).trans rfl
          have hfs38 := blk_frozen BK493.out 0
          have hns38_0 := NB484_493.out
          have hms38_0 := NB493_484.out
          refine skip_ (w1 := ?_) (by rfl) rfl ?_ ?_
          rotate_left
          ·go_simp
           rfl
          refine hK.out _ _ ?_
          clear hK K
          refine done_ (done_of HT_.out (by kernel_rfl)) ?_
          try go_wp2
          go_roundg k2
          case measure => have := HK1.out; have := HK2.out; omega
          case rel => exact ⟨_, _, _, (false), (wrap64 (x27_2 + 1)), rs_, rs_, H', ⟨by have := HK1.out; have := HK2.out; omega⟩, ⟨by (with_reducible repeat (first | apply Kd.S_alloc | apply Kd.S_drewN | apply Kd.S_drew)); exact Kd.S_mono (Kd.S_far (p := ⟨gb493, 0, none⟩) (Kd.S_mono HO_5.out (fun k_ hk => (⟨hk, hk.1⟩ : _ ∧ k_ ≠ gb493))) (fun _ hk => hk.2) (.slice Ao37 y497.length co37)) (fun _ hk => ⟨hk.1.2, hk.1.1⟩)⟩, ⟨by (with_reducible repeat (first | apply Kd.R_alloc | apply Kd.R_drewN | apply Kd.R_drew)); exact Kd.R_mono (Kd.R_far (p := ⟨gb493, 0, none⟩) (Kd.R_types HO499.out BK493.out (by decide)) (fun _ hk => hk.2) (.slice Ao37 y497.length co37)) (fun _ hk => trivial)⟩, ⟨by (with_reducible repeat (first | refine blk_drewN ?_ _ | refine blk_drew ?_ | refine blk_alloc ?_ _)); refine blk_far ?_ NB484_493.out _; (with_reducible repeat (first | refine blk_drewN ?_ _ | refine blk_drew ?_ | refine blk_alloc ?_ _)); exact BK484.out⟩, ⟨by (with_reducible repeat (first | refine blk_drewN ?_ _ | refine blk_drew ?_ | refine blk_alloc ?_ _)); refine blk_put (cs := #[.slice Ao17 y490.length co17]) ?_ 0 _ rfl; (with_reducible repeat (first | refine blk_drewN ?_ _ | refine blk_drew ?_ | refine blk_alloc ?_ _)); exact BK493.out⟩, ⟨up_ HB.out⟩⟩
        ·rw [if_neg c26] at H
         exact absurd H (by simp)
       ·replace H := itb_ H; rcases H with ⟨rfl, H⟩ | ⟨rfl, H⟩
        ·have H' := Aside0.mk H
         clear H
         go_wp2
         go_roundg k2
         case measure => have := HK1.out; have := HK2.out; omega
         case rel => exact ⟨(x5_1), (wrap64 (x20_1 + 1)), rs_, H', ⟨by have := HK1.out; have := HK2.out; omega⟩, ⟨by (with_reducible repeat (first | apply Kd.S_alloc | apply Kd.S_drewN | apply Kd.S_drew)); exact Kd.S_mono HO_5.out (fun _ hk => trivial)⟩, ⟨up_ BK484.out⟩, ⟨up_ HB.out⟩⟩
        ·replace H := bnd_ H; obtain ⟨t501, A40, H⟩ := H
         replace H := itb_ H; rcases H with ⟨rfl, H⟩ | ⟨rfl, H⟩
         ·have H' := Aside0.mk H
          clear H
          obtain ⟨Ao42, co42, eo42⟩ := Kd.S_slice HO_5.out
          subst eo42
          go_wp2_with (first | (go_at_call 37; (with_reducible refine (v_slices_ContainsFunc__DifferencesFor_1.calls k2 _ _ x5_1 _ 1 [y490] true _ ?side1 ?side2 ?side3 ?side4 A40.out).mono ?_); (case side1 => repeat (first | exact (Kd.S_reads' HO_5.out).2.2 | (with_reducible refine Kd.C_alloc ?_ _) | (with_reducible refine Kd.C_drewN ?_ _) | (with_reducible refine Kd.C_drew ?_))); (case side2 => exact (Kd.S_reads' HO_5.out).2.1); (case side3 => exact Go.Proofs.YtkddpilambnicaaGreat.Step.C_cap (T := 23) (d := (Kd.slice 3 (Kd.int .i64))) (cs := #[.slice Ao17 y490.length co17]) (up_ BK493.out) (Exists.intro _ (Exists.intro _ (And.intro rfl (And.intro (by exact (Kd.R_reads' HO_494000.out).2.1) (by repeat (first | exact (Kd.R_reads' HO_494000.out).2.2 | (with_reducible refine Kd.C_alloc ?_ _) | (with_reducible refine Kd.C_drewN ?_ _) | (with_reducible refine Kd.C_drew ?_)))))))); (case side4 => exact Nat.le_refl _); rintro e w' ⟨rfl, ⟨nd, rfl⟩⟩))
          go_roundg k2
          case measure => have := HK1.out; have := HK2.out; omega
          case rel => exact ⟨(x5_1), (wrap64 (x20_1 + 1)), rs_, H', ⟨by have := HK1.out; have := HK2.out; omega⟩, ⟨by (with_reducible repeat (first | apply Kd.S_alloc | apply Kd.S_drewN | apply Kd.S_drew)); exact Kd.S_mono HO_5.out (fun _ hk => trivial)⟩, ⟨up_ BK484.out⟩, ⟨up_ HB.out⟩⟩
         ·by_cases c43 : x5_1.length < 5864062014805
          ·rw [if_pos c43] at H
           have LMc43 := Aside0.mk c43
           clear c43
           obtain ⟨y502, hy502⟩ : ∃ y_ : List (List Int), y_ = (x5_1 ++ [y490]) := ⟨_, rfl⟩
           replace H : (impl_DifferencesFor.l0 k2 a1 y502 l0_3 (l0_3.length : Int) (wrap64 (x20_1 + 1)) a0_0 l0_1 l0_2 l0_3) = some r := rh_ hy502 H
           have Ny502 := Aside0.mk hy502
           clear hy502
           have H' := Aside0.mk H
           clear H
           obtain ⟨Ao44, co44, eo44⟩ := Kd.S_slice HO_5.out
           subst eo44
           go_wp2_with (first | (go_at_call 37; (with_reducible refine (v_slices_ContainsFunc__DifferencesFor_1.calls k2 _ _ x5_1 _ 1 [y490] false _ ?side1 ?side2 ?side3 ?side4 A40.out).mono ?_); (case side1 => repeat (first | exact (Kd.S_reads' HO_5.out).2.2 | (with_reducible refine Kd.C_alloc ?_ _) | (with_reducible refine Kd.C_drewN ?_ _) | (with_reducible refine Kd.C_drew ?_))); (case side2 => exact (Kd.S_reads' HO_5.out).2.1); (case side3 => exact Go.Proofs.YtkddpilambnicaaGreat.Step.C_cap (T := 23) (d := (Kd.slice 3 (Kd.int .i64))) (cs := #[.slice Ao17 y490.length co17]) (up_ BK493.out) (Exists.intro _ (Exists.intro _ (And.intro rfl (And.intro (by exact (Kd.R_reads' HO_494000.out).2.1) (by repeat (first | exact (Kd.R_reads' HO_494000.out).2.2 | (with_reducible refine Kd.C_alloc ?_ _) | (with_reducible refine Kd.C_drewN ?_ _) | (with_reducible refine Kd.C_drew ?_)))))))); (case side4 => exact Nat.le_refl _); rintro e w' ⟨rfl, ⟨nd, rfl⟩⟩; have hnb45 := NB493_484.out; have hnc45 := NB484_493.out; have hcz46_0 := c1_ BK493; have hfz46_0 := blk_frozen BK493.out 0) | ((with_reducible refine gate_builtin (b := .append) (xs := #[.tmp 62, .tmp 64]) rfl ?_); at_builtin; refine Kd.S_append (Kd.slice 3 (Kd.int .i64)) (w0 := w) w.heap.size rfl (.tmp 62) (.tmp 64) 31 23 (.slice none 0 0) 24 rfl Tryz.underlying31 info23 rfl (by decide) (by omega) (.slice Ao44 x5_1.length co44) x5_1 y490 [.slice Ao17 y490.length co17] (fun k_ => k_ ≠ gb493) (fun k_ => some k_ = (.slice Ao17 y490.length co17 : Value).ownBlock) rfl rfl ?aP (fun k_ hk_ => ((Kd.R_mono (ok' := fun k_ => ((fun k_ => k_ ≠ gb493)) k_ ∧ some k_ ≠ (.slice Ao44 x5_1.length co44 : Value).ownBlock) (Kd.R_types (Kd.R_apart' (HO_494000.out) (Kd.S_typed HO_5.out) (by decide)) BK493.out (by decide)) (fun k_ hk => ⟨hk.2, hk.1.2⟩))).1 k_ hk_.symm) ?aF ?aO ?aB ?aS ?aL ?_; (case aP => exact Kd.M_row (Kd.R_mono (Kd.R_tight rfl (Kd.R_mono (ok' := fun k_ => ((fun k_ => k_ ≠ gb493)) k_ ∧ some k_ ≠ (.slice Ao44 x5_1.length co44 : Value).ownBlock) (Kd.R_types (Kd.R_apart' (HO_494000.out) (Kd.S_typed HO_5.out) (by decide)) BK493.out (by decide)) (fun k_ hk => ⟨hk.2, hk.1.2⟩))) (fun _ h_ => h_))); (case aB => exact (up_ HB.out)); (case aF => exact (fun k_ hk => Kd.freshB (g := gb493) (o := .cells #[.slice Ao17 y490.length co17] 23 (0, 0)) (up_ BK493.out) k_ hk)); (case aO => exact (by (with_reducible repeat (first | apply Kd.S_alloc | apply Kd.S_drewN | apply Kd.S_drew)); exact Kd.S_mono HO_5.out (fun k_ hk => ⟨hk.2, fun e_ => hk.1 e_⟩))); (case aS => exact (below_size (up_ HB.out))); (case aL => have := LMc43.out; omega); intro v503 w47 ho hb hg hat; rw [← Ny502.out] at ho; have n0_ := Aside0.mk (blk_grown (g := gb484) (o := .cells #[.string a0_0, .slice A0_1 l0_1.length c0_1, .slice A0_2 l0_2.length c0_2, .slice (some ad489) l0_3.length c0_3] 38 (0, 0)) (up_ BK484.out) hg (Kd.S_ne HO_5.out BK484.out (by decide))); have n1_ := Aside0.mk (blk_grown (g := gb493) (o := .cells #[.slice Ao17 y490.length co17] 23 (0, 0)) (up_ BK493.out) hg (Kd.S_away HO_5.out (fun _ hk => hk.2))); have n2_ := Aside0.mk (hb); have n3_ := Aside0.mk (ho); clear BK484; clear BK493; clear HB; clear HO_5; clear HO_494000; have BK484 := n0_; have BK493 := n1_; have HB := n2_; have HO504 := n3_; clear n0_ n1_ n2_ n3_; clear ho hb hg hat))
           go_roundg k2
           case measure => have := HK1.out; have := HK2.out; omega
           case rel => exact ⟨(y502), (wrap64 (x20_1 + 1)), rs_, H', ⟨by have := HK1.out; have := HK2.out; omega⟩, ⟨by (with_reducible repeat (first | apply Kd.S_alloc | apply Kd.S_drewN | apply Kd.S_drew)); exact Kd.S_mono HO504.out (fun _ hk => trivial)⟩, ⟨up_ BK484.out⟩, ⟨up_ HB.out⟩⟩
          ·rw [if_neg c43] at H
           exact absurd H (by simp)
    ·obtain rfl := Option.some.inj H
     go_wp2
     go_ret
     exact ⟨_, re_, by (with_reducible repeat (first | apply Kd.S_alloc | apply Kd.S_drewN | apply Kd.S_drew)); exact HO_5.out, up_ HB.out⟩
 ·obtain rfl := Option.some.inj H
  go_enter Tryz.func16, Tryz.ntmps16
  go_wp2_with (first | ((refine gd_ 2 ?_); refine bx_ 2 #[.string a0_0, .slice A0_1 l0_1.length c0_1, .slice A0_2 l0_2.length c0_2, .slice A0_3 l0_3.length c0_3] 38 ?_; intro gb484 hg w48 hbox hb; have BK484 := Aside0.mk (hbox); have GW484 := gw_ HB hg; have GE484 := gw_ HB hg; replace HB := bs_ HB hb; clear hb hbox hg; obtain ⟨hcz49_0, hcz49_1, hcz49_2, hcz49_3⟩ := c4_ BK484; have hfz49_0 := blk_frozen BK484.out 0; have hfz49_1 := blk_frozen BK484.out 1; have hfz49_2 := blk_frozen BK484.out 2; have hfz49_3 := blk_frozen BK484.out 3) | ((refine gc_ 36 ?_); refine gl_ (some 14) Tryz.func36 (impl_isRowOf.calls k a0_0 _ _ l0_1 _ _ l0_2 _ _ l0_3 a1 false _ (Kd.C_below HR0_1.out (up_ HB.out)) HC0_1.out (Kd.C_below HR0_2.out (up_ HB.out)) HC0_2.out (Kd.C_below HR0_3.out (up_ HB.out)) HC0_3.out A3.out) ?_; rintro e w50 ⟨rfl, hb⟩; refine ⟨_, rfl, ?_⟩; replace BK484 := bb_ BK484 hb; replace HB := bs_ HB hb; (try clear hb); (try clear hb2); (try clear hk); (try clear hi)))
  go_ret
  exact ⟨_, re_, by first | exact Kd.S_nil _ _ _ _ _ | exact Kd.N_nil _ _ _ _ _ | exact Kd.V_nil _ _ _ _ _ | exact Kd.Q_nil _ _ _ _ _ | exact Kd.R_nil _ _ _ _ _, up_ HB.out⟩

end Go.Proofs.YtkddpilambnicaaGreat.PFnExactDifferencesFor
