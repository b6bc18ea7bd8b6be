/- Walks of Go functions that the law FnExactFootRows uses: written by this session's program out of the kit's printer; each shows that a call comes to the answers of the Lean function beside it. Conditions: each contract's own. -/
import Derived.Test.YtkddpilambnicaaPFnExactFootRowsx0
import Derived.Test.YtkddpilambnicaaPFnExactFootRowsx2
namespace Go.Proofs.Ytkddpilambnicaa.PFnExactFootRows
open Go.RowKit Go.Proofs.YtkddpilambnicaaW.PrintWords Go.Proofs.YtkddpilambnicaaW.PrintLast Go.Proofs.YtkddpilambnicaaW.PrintMore Go.Proofs.Ytkddpilambnicaa.Mac Go.Proofs.Ytkddpilambnicaa.Law
attribute [local go_sem] max2_int min2_int max_two min_two max_three min_three max_four min_four   -- for this text's walks alone
set_option linter.unusedVariables false
set_option linter.unusedSimpArgs false

/-! ### spec_l5Feet: function 171 -/
mutual
def spec_l5Feet.l0 : Nat → Int → Int → List (List (S166)) → List (List (S166)) → Int → Option ((List (List (S166))))
 | 0, _, _, _, _, _ => none
 | k + 1, x0, x1, x5, x6, x7 => if x7 < (x6.length : Int) then (if 0 ≤ x7 then (if x5.length < 5864062014805 then (spec_l5Feet.l0 k x0 x1 (x5 ++ [rd_L6 x6 x7]) x6 (wrap64 (x7 + 1))) else (none)) else (none)) else (spec_l5Feet.l1 k x0 x1 x5 1)
def spec_l5Feet.l1 : Nat → Int → Int → List (List (S166)) → Int → Option ((List (List (S166))))
 | 0, _, _, _, _ => none
 | k + 1, x0, x1, x5, x8 => if x8 ≤ 2 then (spec_l5Feet.j2 k x0 x1 x5 x8 (decide ((wrap64 (x1 + x8)) ≤ x0))) else (spec_l5Feet.j2 k x0 x1 x5 x8 false)
def spec_l5Feet.j2 : Nat → Int → Int → List (List (S166)) → Int → Bool → Option ((List (List (S166))))
 | 0, _, _, _, _, _ => none
 | k + 1, x0, x1, x5, x8, x42 => if x42 = true then ((spec_l5Feet.f k x0 (wrap64 (x1 + x8))).bind fun t153 => (spec_l5Feet.l2 k x0 x1 x5 t153 x8 0)) else (some x5)
def spec_l5Feet.l2 : Nat → Int → Int → List (List (S166)) → List (List (S166)) → Int → Int → Option ((List (List (S166))))
 | 0, _, _, _, _, _, _ => none
 | k + 1, x0, x1, x5, x6, x8, x9 => if x9 < x8 then (spec_l5Feet.l3 k x0 x1 x5 x6 x8 x9 0) else (spec_l5Feet.l1 k x0 x1 x5 (wrap64 (x8 + 1)))
def spec_l5Feet.l3 : Nat → Int → Int → List (List (S166)) → List (List (S166)) → Int → Int → Int → Option ((List (List (S166))))
 | 0, _, _, _, _, _, _, _ => none
 | k + 1, x0, x1, x5, x6, x8, x9, x10 => if x10 < (x6.length : Int) then ((some (([(⟨x1, x8, x9⟩ : S166)] : List (S166)) : List (S166))).bind fun y156 => (if 0 ≤ x10 then (if y156.length + (rd_L6 x6 x10).length < 5864062014805 then (if x5.length < 5864062014805 then (spec_l5Feet.l3 k x0 x1 (x5 ++ [(y156 ++ (rd_L6 x6 x10))]) x6 x8 x9 (wrap64 (x10 + 1))) else (none)) else (none)) else (none))) else (spec_l5Feet.l2 k x0 x1 x5 x6 x8 (wrap64 (x9 + 1)))
def spec_l5Feet.f : Nat → Int → Int → Option ((List (List (S166))))
 | 0, _, _ => none
 | k + 1, a0, a1 => if a1 ≥ a0 then (some (([(([] : List (S166)))] : List (List (S166))))) else ((spec_l5Feet.f k a0 (wrap64 (a1 + 1))).bind fun t146 => (spec_l5Feet.l0 k a0 a1 (([] : List (List (S166)))) t146 0))
end
theorem spec_l5Feet.mono_l : ∀ k, (∀ y0 y1, LeO (spec_l5Feet.f k y0 y1) (spec_l5Feet.f (k + 1) y0 y1)) ∧ (∀ y0 y1 y2 y3 y4, LeO (spec_l5Feet.l0 k y0 y1 y2 y3 y4) (spec_l5Feet.l0 (k + 1) y0 y1 y2 y3 y4)) ∧ (∀ y0 y1 y2 y3, LeO (spec_l5Feet.l1 k y0 y1 y2 y3) (spec_l5Feet.l1 (k + 1) y0 y1 y2 y3)) ∧ (∀ y0 y1 y2 y3 y4, LeO (spec_l5Feet.j2 k y0 y1 y2 y3 y4) (spec_l5Feet.j2 (k + 1) y0 y1 y2 y3 y4)) ∧ (∀ y0 y1 y2 y3 y4 y5, LeO (spec_l5Feet.l2 k y0 y1 y2 y3 y4 y5) (spec_l5Feet.l2 (k + 1) y0 y1 y2 y3 y4 y5)) ∧ (∀ y0 y1 y2 y3 y4 y5 y6, LeO (spec_l5Feet.l3 k y0 y1 y2 y3 y4 y5 y6) (spec_l5Feet.l3 (k + 1) y0 y1 y2 y3 y4 y5 y6))
 | 0 => ⟨fun _ _ r h => by simp [spec_l5Feet.f] at h, fun _ _ _ _ _ r h => by simp [spec_l5Feet.l0] at h, fun _ _ _ _ r h => by simp [spec_l5Feet.l1] at h, fun _ _ _ _ _ r h => by simp [spec_l5Feet.j2] at h, fun _ _ _ _ _ _ r h => by simp [spec_l5Feet.l2] at h, fun _ _ _ _ _ _ _ r h => by simp [spec_l5Feet.l3] at h⟩
 | k + 1 => by
  obtain ⟨ih0, ih1, ih2, ih3, ih4, ih5⟩ := spec_l5Feet.mono_l k
  refine ⟨?_, ?_, ?_, ?_, ?_, ?_⟩
  ·intro y0 y1
   unfold spec_l5Feet.f
   exact mn_
  ·intro y0 y1 y2 y3 y4
   unfold spec_l5Feet.l0
   exact mn_
  ·intro y0 y1 y2 y3
   unfold spec_l5Feet.l1
   exact mn_
  ·intro y0 y1 y2 y3 y4
   unfold spec_l5Feet.j2
   exact mn_
  ·intro y0 y1 y2 y3 y4 y5
   unfold spec_l5Feet.l2
   exact mn_
  ·intro y0 y1 y2 y3 y4 y5 y6
   unfold spec_l5Feet.l3
   exact mn_
theorem spec_l5Feet.mono : ∀ a0 a1 k, LeO (spec_l5Feet.f k a0 a1) (spec_l5Feet.f (k + 1) a0 a1) := by
 intro a0 a1 k
 obtain ⟨ih0, ih1, ih2, ih3, ih4, ih5⟩ := spec_l5Feet.mono_l k
 exact ih0 a0 a1
set_option maxHeartbeats 8000000 in
set_option maxRecDepth 100000 in
theorem spec_l5Feet.calls (k : Nat) : ∀ (a0 : Int) (a1 : Int) (r : List (List (S166))) (w : World) (h : spec_l5Feet.f k a0 a1 = some r),
  Calls Try.prog 171 #[.int .i64 a0, .int .i64 a1] w fun e w' => ∃ v0_ : Value, e = .returned (v0_) ∧ Kd.N (Kd.slice 166 k166) 88 w' w.heap.size (fun k_ => (w.heap.size ≤ k_)) v0_ r ∧ Below w.heap.size w w' := by
 induction k using Nat.strongRecOn with
 | _ k ih =>
 intro a0 a1 r w h
 cases k with
 | zero => exact absurd h (by simp [spec_l5Feet.f])
 | succ k =>
 simp only [spec_l5Feet.f] at h
 have hu166 := Try.underlying166
 have HB := Aside0.mk (Below.refl w.heap.size w)
 have H : (if a1 ≥ a0 then (some (([(([] : List (S166)))] : List (List (S166))))) else ((spec_l5Feet.f k a0 (wrap64 (a1 + 1))).bind fun t146 => (spec_l5Feet.l0 k a0 a1 (([] : List (List (S166)))) t146 0))) = some r := h
 clear h
 by_cases c3 : a1 ≥ a0
 ·rw [if_pos c3] at H
  have c3b0 : decide (a0 ≤ a1) = true := decide_eq_true c3
  clear c3
  obtain ⟨y137, hy137⟩ : ∃ y_ : List (S166), y_ = (([] : List (S166))) := ⟨_, rfl⟩
  replace H : (some (([y137] : List (List (S166))))) = some r := rh_ hy137 H
  have Ny137 := Aside0.mk hy137
  clear hy137
  obtain ⟨y140, hy140⟩ : ∃ y_ : List (List (S166)), y_ = (([y137] : List (List (S166)))) := ⟨_, rfl⟩
  replace H : (some y140) = some r := rh_ hy140 H
  have Ny140 := Aside0.mk hy140
  clear hy140
  obtain rfl := Option.some.inj H
  go_enter Try.func171, Try.ntmps171
  go_wp2_with (first | ((with_reducible refine gd_ 14 ?_); refine Kd.R_lit k166 _ 166 ?hg (N := 14) ?hd (xs := ([] : List (S166))) (inner := []) (ok := fun _ => True) (okp := fun _ => True) ?hr ?hp (fun _ hk => hk) trivial (Below.refl _ _) (Nat.le_refl _) (by simp) ?_; (case hd => rfl); (case hg => rfl); (case hr => first | (go_simp; done) | (go_simp; rfl)); (case hp => exact (Reps.none _ _)); intro v138 w4 ho5 hb hg_ hnew_; clear hg_ hnew_; (first | rw [← Ny137.out] at ho5 | (simp only [Int.reduceToNat] at ho5; rw [← Ny137.out] at ho5)); have HO139 := Aside0.mk (Kd.R_lower (Kd.R_newM (M := fun k_ => (w.heap.size ≤ k_)) ho5 (below_size (up_ HB.out)) (fun k_ h_ => h_)) (below_size (up_ HB.out))); replace HB := bs_ HB hb; clear hb ho5; obtain ⟨Ao6, co6, eo6⟩ := Kd.R_slice HO139.out; subst eo6) | ((with_reducible refine gd_ 15 ?_); refine Kd.N_lit (Kd.slice 166 k166) _ 88 ?hg (N' := 15) ?hd (xs := ([y137] : List (List (S166)))) (inner := [.slice Ao6 y137.length co6]) (ok := (fun k_ => (w.heap.size ≤ k_))) (okp := (fun k_ => (w.heap.size ≤ k_))) ?hr ?hp (fun _ hk => hk) ((show ∀ k_, w4.heap.size ≤ k_ → (fun k_ => (w.heap.size ≤ k_)) k_ from fun k_ hk => (Nat.le_trans (below_size (up_ HB.out)) hk)) _ (Nat.le_refl _)) (Below.refl _ _) (Nat.le_refl _) (by simp) ?_; (case hd => rfl); (case hg => rfl); (case hr => first | (go_simp; done) | (go_simp; rfl)); (case hp => exact (Reps.one (show Kd.FK (Kd.slice 166 k166) _ _ y137 [.slice Ao6 y137.length co6] from (Kd.FK_slice_mk (Kd.R_reads' (Kd.R_mono (ok' := (fun k_ => (w.heap.size ≤ k_))) (HO139.out) (fun k_ hk => hk.1))).2.1 (Kd.R_F (Kd.R_mono (ok' := (fun k_ => (w.heap.size ≤ k_))) (HO139.out) (fun k_ hk => hk.1))))) (Reps.none _ _))); intro v141 w7 ho8 hb hg_ hnew_; clear hg_ hnew_; (first | rw [← Ny140.out] at ho8 | (simp only [Int.reduceToNat] at ho8; rw [← Ny140.out] at ho8)); have n0_ := Aside0.mk (Kd.N_lower ho8 (below_size (up_ HB.out))); have n1_ := bs_ HB hb; clear HB; clear HO139; have HO142 := n0_; have HB := n1_; clear n0_ n1_; clear hb ho8))
  go_ret
  exact ⟨_, re_, by (with_reducible repeat (first | apply Kd.N_alloc | apply Kd.N_drewN | apply Kd.N_drew)); exact HO142.out, up_ HB.out⟩
 ·rw [if_neg c3] at H
  have c3b0 : decide (a0 ≤ a1) = false := decide_eq_false c3
  clear c3
  obtain ⟨y143, hy143⟩ : ∃ y_ : List (List (S166)), y_ = (([] : List (List (S166)))) := ⟨_, rfl⟩
  replace H : ((spec_l5Feet.f k a0 (wrap64 (a1 + 1))).bind fun t146 => (spec_l5Feet.l0 k a0 a1 y143 t146 0)) = some r := rh_ hy143 H
  have Ny143 := Aside0.mk hy143
  clear hy143
  replace H := bnd_ H; obtain ⟨t146, A9, H⟩ := H
  have H' := Aside0.mk H
  clear H
  go_enter Try.func171, Try.ntmps171
  go_wp2_with (first | ((with_reducible refine gd_ 16 ?_); refine Kd.N_lit (Kd.slice 166 k166) _ 88 ?hg (N' := 16) ?hd (xs := ([] : List (List (S166)))) (inner := []) (ok := (fun k_ => (w.heap.size ≤ k_))) (okp := (fun k_ => (w.heap.size ≤ k_))) ?hr ?hp (fun _ hk => hk) ((show ∀ k_, w.heap.size ≤ k_ → (fun k_ => (w.heap.size ≤ k_)) k_ from fun k_ hk => (Nat.le_trans (below_size (up_ HB.out)) hk)) _ (Nat.le_refl _)) (Below.refl _ _) (Nat.le_refl _) (by simp) ?_; (case hd => rfl); (case hg => rfl); (case hr => first | (go_simp; done) | (go_simp; rfl)); (case hp => exact (Reps.none _ _)); intro v144 w10 ho11 hb hg_ hnew_; clear hg_ hnew_; (first | rw [← Ny143.out] at ho11 | (simp only [Int.reduceToNat] at ho11; rw [← Ny143.out] at ho11)); have HO145 := Aside0.mk (Kd.N_lower ho11 (below_size (up_ HB.out))); replace HB := bs_ HB hb; clear hb ho11) | ((with_reducible refine gc_ 171 ?_); refine gl_ (some 20) Try.func171 (ih k (by omega) a0 (wrap64 (a1 + 1)) t146 _ A9.out) ?_; rintro e w12 ⟨v147, rfl, ho0, hb⟩; refine ⟨_, rfl, ?_⟩; have HO148 := Aside0.mk (Kd.N_lower (Kd.N_mono (ok' := fun k_ => (w.heap.size ≤ k_) ∧ some k_ ≠ (v144 : Value).ownBlock) ho0 (fun k_ hk_ => ⟨(Nat.le_trans (below_size (up_ HB.out)) hk_), (Kd.fresh' (Kd.N_lt (up_ HO145.out)) k_ hk_)⟩)) (below_size (up_ HB.out))); replace HO145 := Aside0.mk (Kd.N_elder' (up_ HO145.out) (Kd.N_base ho0) hb); replace HB := bs_ HB hb; (try clear hb); (try clear hb2); (try clear hk); (try clear hi); (try clear ho0)))
  go_loopg [5, 7] k (fun kq v5 v7 w' => ∃ (x5_1 : List (List (S166))) (x7_1 : Int), v7 = .int .i64 x7_1 ∧ Aside0 (spec_l5Feet.l0 kq a0 a1 x5_1 t146 x7_1 = some r) ∧ Aside0 (kq ≤ k) ∧ Aside0 (Kd.N (Kd.slice 166 k166) 88 w' w.heap.size (fun k_ => (w.heap.size ≤ k_) ∧ some k_ ≠ (v147 : Value).ownBlock) v5 x5_1) ∧ Aside0 (Kd.N (Kd.slice 166 k166) 88 w' w.heap.size (fun k_ => (w.heap.size ≤ k_) ∧ some k_ ≠ (v5 : Value).ownBlock) v147 t146) ∧ Aside0 (Below w.heap.size w w'))
  case atStart => exact ⟨(y143), (0), rs_, H', ⟨Nat.le_refl _⟩, ⟨up_ HO145.out⟩, ⟨up_ HO148.out⟩, ⟨up_ HB.out⟩⟩
  case round =>
   clear H'
   try clear c1
   try clear p2
   try clear c3
   try clear c3b0
   try clear p6
   obtain ⟨x5_1, x7_1, rfl, HA, HK1, HO_5, HO_6, HB⟩ := hrel
   cases gk with
   | zero => exact absurd HA.out (by simp [spec_l5Feet.l0])
   | succ k1 =>
    have H := HA.out
    clear HA
    simp only [spec_l5Feet.l0] at H
    replace H := its_ H; rcases H with ⟨c13b0, H⟩ | ⟨c13b0, H⟩
    ·replace H := its_ H; rcases H with ⟨c14b0, H⟩ | ⟨_, ⟨⟩⟩
     by_cases c15 : x5_1.length < 5864062014805
     ·rw [if_pos c15] at H
      have LMc15 := Aside0.mk c15
      clear c15
      obtain ⟨y150, hy150⟩ : ∃ y_ : List (List (S166)), y_ = (x5_1 ++ [rd_L6 t146 x7_1]) := ⟨_, rfl⟩
      replace H : (spec_l5Feet.l0 k1 a0 a1 y150 t146 (wrap64 (x7_1 + 1))) = some r := rh_ hy150 H
      have Ny150 := Aside0.mk hy150
      clear hy150
      have H' := Aside0.mk H
      clear H
      obtain ⟨Ao16, co16, eo16⟩ := Kd.N_slice HO_6.out
      subst eo16
      have p149 : 0 ≤ (x7_1 : Int) := od_
      have q149 : x7_1 < (t146.length : Int) := od_
      obtain ⟨ad149, A149_0, c149_0, e149, hx149_0, hl149_0, hi149_0⟩ := at_L6 (Kd.N_reads' HO_6.out).2.2 x7_1 p149 q149
      cases e149
      obtain ⟨ce149, hce149, hMe149, hcc149⟩ := Kd.N_get HO_6.out [] x7_1 p149 (by first | exact q149 | exact od_ | (have e_ := (Kd.N_reads' HO_6.out).1; omega))
      obtain ⟨ua149_0, uc149_0, rfl, ul149_0, ge149_0⟩ := Kd.FK_slice_open hMe149
      have hv149_0 := hcc149 0 _ rfl
      rw [Nat.add_zero, show ((Kd.slice 166 k166)).sz = 1 from rfl, Nat.mul_one] at hv149_0
      replace hv149_0 := Option.some.inj (hv149_0.symm.trans hx149_0)
      injection hv149_0 with hva_ hvn_ hvc_
      rw [hva_] at ge149_0
      rw [hvc_] at ul149_0
      have HL149_0 := Aside0.mk (show Kd.V k166 166 _ w.heap.size _ _ (rd_L6 t146 x7_1) from Kd.V_mk ul149_0 ge149_0)
      clear hva_ hvn_ hvc_ ge149_0 ul149_0
      clear hcc149 hce149
      have HR149_0 := Aside0.mk hi149_0
      have HC149_0 := Aside0.mk hl149_0
      clear hi149_0 hl149_0
      replace p149 := eq_true p149
      replace q149 := eq_true q149
      go_wp2_with (first | ((with_reducible refine gate_builtin (b := .append) (xs := #[.tmp 27, .tmp 32]) rfl ?_); at_builtin; refine Kd.N_append (Kd.slice 166 k166) (w0 := w) w.heap.size rfl (.tmp 27) (.tmp 32) 167 88 (.slice none 0 0) 24 rfl Try.underlying167 info88 rfl (by decide) (by omega) u5 x5_1 (rd_L6 t146 x7_1) [.slice A149_0 (rd_L6 t146 x7_1).length c149_0] (fun k_ => (w.heap.size ≤ k_) ∧ some k_ ≠ (.slice (some ad149) t146.length co16 : Value).ownBlock) (fun k_ => ((fun k_ => (w.heap.size ≤ k_) ∧ some k_ ≠ (.slice (some ad149) t146.length co16 : Value).ownBlock)) k_ ∧ some k_ ≠ (u5 : Value).ownBlock) rfl rfl ?aP (fun _ hk => hk) ?aF ?aO ?aB ?aS ?aL ?_; (case aP => first | exact (Kd.FK_slice_mk (Kd.V_reads' (Kd.V_mono (ok' := (fun k_ => ((fun k_ => (w.heap.size ≤ k_) ∧ some k_ ≠ (.slice (some ad149) t146.length co16 : Value).ownBlock)) k_ ∧ some k_ ≠ (u5 : Value).ownBlock)) (HL149_0.out) (fun k_ hk => ⟨⟨hk.1.1, hk.2⟩, hk.1.2⟩))).2.1 (Kd.V_F (Kd.V_mono (ok' := (fun k_ => ((fun k_ => (w.heap.size ≤ k_) ∧ some k_ ≠ (.slice (some ad149) t146.length co16 : Value).ownBlock)) k_ ∧ some k_ ≠ (u5 : Value).ownBlock)) (HL149_0.out) (fun k_ hk => ⟨⟨hk.1.1, hk.2⟩, hk.1.2⟩)))) | (have HL149_0q_ := Kd.V_drewN HL149_0.out nd; exact (Kd.FK_slice_mk (Kd.V_reads' (Kd.V_mono (ok' := (fun k_ => ((fun k_ => (w.heap.size ≤ k_) ∧ some k_ ≠ (.slice (some ad149) t146.length co16 : Value).ownBlock)) k_ ∧ some k_ ≠ (u5 : Value).ownBlock)) HL149_0q_ (fun k_ hk => ⟨⟨hk.1.1, hk.2⟩, hk.1.2⟩))).2.1 (Kd.V_F (Kd.V_mono (ok' := (fun k_ => ((fun k_ => (w.heap.size ≤ k_) ∧ some k_ ≠ (.slice (some ad149) t146.length co16 : Value).ownBlock)) k_ ∧ some k_ ≠ (u5 : Value).ownBlock)) HL149_0q_ (fun k_ hk => ⟨⟨hk.1.1, hk.2⟩, hk.1.2⟩)))))); (case aB => exact (up_ HB.out)); (case aF => exact (fun k_ hk => ⟨(Nat.le_trans (below_size (up_ HB.out)) hk), Kd.fresh' (Kd.N_lt (up_ HO_6.out)) k_ hk⟩)); (case aO => exact (up_ HO_5.out)); (case aS => exact (below_size (up_ HB.out))); (case aL => have := LMc15.out; omega); intro v151 w17 ho hb hg hat; rw [← Ny150.out] at ho; have n0_ := Aside0.mk (Kd.N_afterv (ok := (fun k_ => (w.heap.size ≤ k_))) (up_ HO_6.out) hg hat); have n1_ := Aside0.mk (Kd.V_afterv (ok := (fun k_ => (w.heap.size ≤ k_) ∧ some k_ ≠ (.slice (some ad149) t146.length co16 : Value).ownBlock)) (by (with_reducible repeat (first | apply Kd.V_alloc | apply Kd.V_drewN | apply Kd.V_drew)); exact Kd.V_mono HL149_0.out (fun _ hk => ⟨⟨hk.1.1, hk.2⟩, hk.1.2⟩)) hg hat); have n2_ := Aside0.mk (hb); have n3_ := Aside0.mk (ho); clear HO_6; clear HL149_0; clear HB; clear HO_5; have HO_6 := n0_; have HL149_0 := n1_; have HB := n2_; have HO152 := n3_; clear n0_ n1_ n2_ n3_; clear ho hb hg hat))
      go_roundg k1
      case measure => have := HK1.out; omega
      case rel => exact ⟨(y150), (wrap64 (x7_1 + 1)), rs_, H', ⟨by have := HK1.out; omega⟩, ⟨up_ HO152.out⟩, ⟨up_ HO_6.out⟩, ⟨up_ HB.out⟩⟩
     ·rw [if_neg c15] at H
      exact absurd H (by simp)
    ·have H' := Aside0.mk H
     clear H
     obtain ⟨Ao18, co18, eo18⟩ := Kd.N_slice HO_6.out
     subst eo18
     go_wp2
     go_loopg [5, 8] k1 (fun kq v5 v8 w' => ∃ (x5_2 : List (List (S166))) (x8_2 : Int), v8 = .int .i64 x8_2 ∧ Aside0 (spec_l5Feet.l1 kq a0 a1 x5_2 x8_2 = some r) ∧ Aside0 (kq ≤ k1) ∧ Aside0 (Kd.N (Kd.slice 166 k166) 88 w' w.heap.size (fun k_ => (w.heap.size ≤ k_)) v5 x5_2) ∧ Aside0 (Below w.heap.size w w'))
     case atStart => exact ⟨(x5_1), (1), rs_, H', ⟨Nat.le_refl _⟩, ⟨by (with_reducible repeat (first | apply Kd.N_alloc | apply Kd.N_drewN | apply Kd.N_drew)); exact Kd.N_mono HO_5.out (fun _ hk => hk.1)⟩, ⟨up_ HB.out⟩⟩
     case round =>
      clear H'
      try clear c1
      try clear p1
      try clear q1
      try clear hx1
      try clear p2
      try clear c3
      try clear c3b0
      try clear p6
      try clear c13
      try clear c13b0
      try clear c14
      try clear c14b0
      try clear p14
      try clear q14
      try clear hx14
      try clear c15
      try clear c17
      try clear hx149_0
      try clear p149
      try clear p2
      try clear p6
      try clear q149
      obtain ⟨x5_2, x8_2, rfl, HA, HK2, HO_5, HB⟩ := hrel
      cases gk with
      | zero => exact absurd HA.out (by simp [spec_l5Feet.l1])
      | succ k2 =>
       have H := HA.out
       clear HA
       simp only [spec_l5Feet.l1] at H
       have HC19 := Aside0.mk H
       clear H
       go_upto_region 10 with (fail)
       go_cut [42] (fun v42 wc => ∃ (kq : Nat) (x42_18 : Bool), v42 = .bool x42_18 ∧ Aside0 (spec_l5Feet.j2 kq a0 a1 x5_2 x8_2 x42_18 = some r) ∧ Aside0 (kq ≤ k2) ∧ Aside0 (Kd.N (Kd.slice 166 k166) 88 wc w.heap.size (fun k_ => (w.heap.size ≤ k_)) u5 x5_2) ∧ Aside0 (Below w.heap.size w wc))
       case first =>
        have H := HC19.out
        clear HC19
        replace H := its_ H; rcases H with ⟨c20b0, H⟩ | ⟨c20b0, H⟩
        ·(first | rw [c20b0] | (simp only [i64_w, i32_w]; rw [c20b0]) | skip)
         have H' := Aside0.mk H
         clear H
         go_wp2
         go_meet
         case rel => exact ⟨_, (decide ((wrap64 (a1 + x8_2)) ≤ a0)), rs_, H', ⟨by have := HK1.out; have := HK2.out; first | omega | exact Nat.le_refl _⟩, ⟨up_ HO_5.out⟩, ⟨up_ HB.out⟩⟩
        ·(first | rw [c20b0] | (simp only [i64_w, i32_w]; rw [c20b0]) | skip)
         have H' := Aside0.mk H
         clear H
         go_wp2
         go_meet
         case rel => exact ⟨_, (false), rs_, H', ⟨by have := HK1.out; have := HK2.out; first | omega | exact Nat.le_refl _⟩, ⟨up_ HO_5.out⟩, ⟨up_ HB.out⟩⟩
       case rest =>
        clear HC19
        try clear c1
        try clear p1
        try clear q1
        try clear hx1
        try clear c2
        try clear p2
        try clear c3
        try clear c3b0
        try clear p6
        try clear c13
        try clear c13b0
        try clear c14
        try clear c14b0
        try clear p14
        try clear q14
        try clear hx14
        try clear c15
        try clear c17
        try clear c20
        try clear c20b0
        try clear hx149_0
        try clear p1
        try clear p14
        try clear p149
        try clear p2
        try clear p6
        try clear q1
        try clear q14
        try clear q149
        obtain ⟨kq, x42_18, rfl, HA, HJ18, HO_5, HB⟩ := hcut
        cases kq with
        | zero => exact absurd HA.out (by simp [spec_l5Feet.j2])
        | succ kj18 =>
         have H := HA.out
         clear HA
         simp only [spec_l5Feet.j2] at H
         replace H := itb_ H; rcases H with ⟨rfl, H⟩ | ⟨rfl, H⟩
         ·replace H := bnd_ H; obtain ⟨t153, A22, H⟩ := H
          have H' := Aside0.mk H
          clear H
          go_wp2_with (first | ((with_reducible refine gc_ 171 ?_); refine gl_ (some 49) Try.func171 (ih kj18 (by have := HK1.out; have := HK2.out; have := HJ18.out; omega) a0 (wrap64 (a1 + x8_2)) t153 _ A22.out) ?_; rintro e w23 ⟨v154, rfl, ho0, hb⟩; refine ⟨_, rfl, ?_⟩; have HO155 := Aside0.mk (Kd.N_lower (Kd.N_mono (ok' := fun k_ => (w.heap.size ≤ k_) ∧ some k_ ≠ (u5 : Value).ownBlock) ho0 (fun k_ hk_ => ⟨(Nat.le_trans (below_size (up_ HB.out)) hk_), (Kd.fresh' (Kd.N_lt (up_ HO_5.out)) k_ hk_)⟩)) (below_size (up_ HB.out))); replace HO_5 := Aside0.mk (Kd.N_elder' (up_ HO_5.out) (Kd.N_base ho0) hb); replace HB := bs_ HB hb; (try clear hb); (try clear hb2); (try clear hk); (try clear hi); (try clear ho0)))
          go_loopg [5, 9] kj18 (fun kq v5 v9 w' => ∃ (x5_4 : List (List (S166))) (x9_4 : Int), v9 = .int .i64 x9_4 ∧ Aside0 (spec_l5Feet.l2 kq a0 a1 x5_4 t153 x8_2 x9_4 = some r) ∧ Aside0 (kq ≤ kj18) ∧ Aside0 (Kd.N (Kd.slice 166 k166) 88 w' w.heap.size (fun k_ => (w.heap.size ≤ k_) ∧ some k_ ≠ (v154 : Value).ownBlock) v5 x5_4) ∧ Aside0 (Kd.N (Kd.slice 166 k166) 88 w' w.heap.size (fun k_ => (w.heap.size ≤ k_) ∧ some k_ ≠ (v5 : Value).ownBlock) v154 t153) ∧ Aside0 (Below w.heap.size w w'))
          case atStart => exact ⟨(x5_2), (0), rs_, H', ⟨Nat.le_refl _⟩, ⟨up_ HO_5.out⟩, ⟨up_ HO155.out⟩, ⟨up_ HB.out⟩⟩
          case round =>
           clear H'
           try clear c1
           try clear p1
           try clear q1
           try clear hx1
           try clear c2
           try clear p2
           try clear c3
           try clear c3b0
           try clear p6
           try clear c13
           try clear c13b0
           try clear c14
           try clear c14b0
           try clear p14
           try clear q14
           try clear hx14
           try clear c15
           try clear c17
           try clear c20
           try clear c20b0
           try clear c21
           try clear hx149_0
           try clear p1
           try clear p14
           try clear p149
           try clear p2
           try clear p6
           try clear q1
           try clear q14
           try clear q149
           obtain ⟨x5_4, x9_4, rfl, HA, HK4, HO_5, HO_6, HB⟩ := hrel
           cases gk with
           | zero => exact absurd HA.out (by simp [spec_l5Feet.l2])
           | succ k4 =>
            have H := HA.out
            clear HA
            simp only [spec_l5Feet.l2] at H
            replace H := its_ H; rcases H with ⟨c24b0, H⟩ | ⟨c24b0, H⟩
            ·have H' := Aside0.mk H
             clear H
             go_wp2
             go_loopg [5, 10] k4 (fun kq v5 v10 w' => ∃ (x5_5 : List (List (S166))) (x10_5 : Int), v10 = .int .i64 x10_5 ∧ Aside0 (spec_l5Feet.l3 kq a0 a1 x5_5 t153 x8_2 x9_4 x10_5 = some r) ∧ Aside0 (kq ≤ k4) ∧ Aside0 (Kd.N (Kd.slice 166 k166) 88 w' w.heap.size (fun k_ => (w.heap.size ≤ k_) ∧ some k_ ≠ (v154 : Value).ownBlock) v5 x5_5) ∧ Aside0 (Kd.N (Kd.slice 166 k166) 88 w' w.heap.size (fun k_ => (w.heap.size ≤ k_) ∧ some k_ ≠ (v5 : Value).ownBlock) v154 t153) ∧ Aside0 (Below w.heap.size w w'))
             case atStart => exact ⟨(x5_4), (0), rs_, H', ⟨Nat.le_refl _⟩, ⟨up_ HO_5.out⟩, ⟨up_ HO_6.out⟩, ⟨up_ HB.out⟩⟩
             case round =>
              clear H'
              try clear c1
              try clear p1
              try clear q1
              try clear hx1
              try clear c2
              try clear p2
              try clear c3
              try clear c3b0
              try clear p6
              try clear c13
              try clear c13b0
              try clear c14
              try clear c14b0
              try clear p14
              try clear q14
              try clear hx14
              try clear c15
              try clear c17
              try clear c20
              try clear c20b0
              try clear c21
              try clear c24
              try clear c24b0
              try clear hx149_0
              try clear p1
              try clear p14
              try clear p149
              try clear p2
              try clear p6
              try clear q1
              try clear q14
              try clear q149
              obtain ⟨x5_5, x10_5, rfl, HA, HK5, HO_5, HO_6, HB⟩ := hrel
              cases gk with
              | zero => exact absurd HA.out (by simp [spec_l5Feet.l3])
              | succ k5 =>
               have H := HA.out
               clear HA
               simp only [spec_l5Feet.l3] at H
               replace H := its_ H; rcases H with ⟨c25b0, H⟩ | ⟨c25b0, H⟩
               ·obtain ⟨y156, hy156⟩ : ∃ y_ : List (S166), y_ = (([(⟨a1, x8_2, x9_4⟩ : S166)] : List (S166))) := ⟨_, rfl⟩
                replace H : (if 0 ≤ x10_5 then (if y156.length + (rd_L6 t153 x10_5).length < 5864062014805 then (if x5_5.length < 5864062014805 then (spec_l5Feet.l3 k5 a0 a1 (x5_5 ++ [(y156 ++ (rd_L6 t153 x10_5))]) t153 x8_2 x9_4 (wrap64 (x10_5 + 1))) else (none)) else (none)) else (none)) = some r := rh_ hy156 H
                have Ny156 := Aside0.mk hy156
                clear hy156
                replace H := its_ H; rcases H with ⟨c26b0, H⟩ | ⟨_, ⟨⟩⟩
                by_cases c27 : y156.length + (rd_L6 t153 x10_5).length < 5864062014805
                ·rw [if_pos c27] at H
                 have LMc27 := Aside0.mk c27
                 clear c27
                 obtain ⟨y160, hy160⟩ : ∃ y_ : List (S166), y_ = (y156 ++ (rd_L6 t153 x10_5)) := ⟨_, rfl⟩
                 replace H : (if x5_5.length < 5864062014805 then (spec_l5Feet.l3 k5 a0 a1 (x5_5 ++ [y160]) t153 x8_2 x9_4 (wrap64 (x10_5 + 1))) else (none)) = some r := rh_ hy160 H
                 have Ny160 := Aside0.mk hy160
                 clear hy160
                 by_cases c28 : x5_5.length < 5864062014805
                 ·rw [if_pos c28] at H
                  have LMc28 := Aside0.mk c28
                  clear c28
                  obtain ⟨y163, hy163⟩ : ∃ y_ : List (List (S166)), y_ = (x5_5 ++ [y160]) := ⟨_, rfl⟩
                  replace H : (spec_l5Feet.l3 k5 a0 a1 y163 t153 x8_2 x9_4 (wrap64 (x10_5 + 1))) = some r := rh_ hy163 H
                  have Ny163 := Aside0.mk hy163
                  clear hy163
                  have H' := Aside0.mk H
                  clear H
                  obtain ⟨Ao29, co29, eo29⟩ := Kd.N_slice HO_6.out
                  subst eo29
                  go_wp2_with (first | ((with_reducible refine gd_ 66 ?_); refine Kd.R_lit k166 _ 166 ?hg (N := 66) ?hd (xs := ([(⟨a1, x8_2, x9_4⟩ : S166)] : List (S166))) (inner := [.int .i64 a1, .int .i64 x8_2, .int .i64 x9_4]) (ok := fun _ => True) (okp := fun _ => True) ?hr ?hp (fun _ hk => hk) trivial (Below.refl _ _) (Nat.le_refl _) (by simp) ?_; (case hd => rfl); (case hg => rfl); (case hr => first | (go_simp; done) | (go_simp; rfl)); (case hp => exact (Reps.c3 (show Kd.M k166 _ _ _ (⟨a1, x8_2, x9_4⟩ : S166) [.int .i64 a1, .int .i64 x8_2, .int .i64 x9_4] from (k166_mkM _ _ _ (⟨a1, x8_2, x9_4⟩ : S166) )) (Reps.none _ _))); intro v157 w30 ho31 hb hg_ hnew_; clear hg_ hnew_; (first | rw [← Ny156.out] at ho31 | (simp only [Int.reduceToNat] at ho31; rw [← Ny156.out] at ho31)); replace HO_5 := Aside0.mk (Kd.N_elder' (up_ HO_5.out) (Kd.R_base ho31) hb); replace HO_6 := Aside0.mk (Kd.N_elder' (up_ HO_6.out) (Kd.R_base ho31) hb); have HO158 := Aside0.mk (Kd.R_lower (Kd.R_newM (M := fun k_ => (w.heap.size ≤ k_)) ho31 (below_size (up_ HB.out)) (fun k_ h_ => h_)) (below_size (up_ HB.out))); replace HB := bs_ HB hb; clear hb ho31; have p159 : 0 ≤ (x10_5 : Int) := od_; have q159 : x10_5 < (t153.length : Int) := od_; obtain ⟨ad159, A159_0, c159_0, e159, hx159_0, hl159_0, hi159_0⟩ := at_L6 (Kd.N_reads' HO_6.out).2.2 x10_5 p159 q159; cases e159; obtain ⟨ce159, hce159, hMe159, hcc159⟩ := Kd.N_get HO_6.out [] x10_5 p159 (by first | exact q159 | exact od_ | (have e_ := (Kd.N_reads' HO_6.out).1; omega)); obtain ⟨ua159_0, uc159_0, rfl, ul159_0, ge159_0⟩ := Kd.FK_slice_open hMe159; have hv159_0 := hcc159 0 _ rfl; rw [Nat.add_zero, show ((Kd.slice 166 k166)).sz = 1 from rfl, Nat.mul_one] at hv159_0; replace hv159_0 := Option.some.inj (hv159_0.symm.trans hx159_0); injection hv159_0 with hva_ hvn_ hvc_; rw [hva_] at ge159_0; rw [hvc_] at ul159_0; have HL159_0 := Aside0.mk (show Kd.V k166 166 _ w.heap.size _ _ (rd_L6 t153 x10_5) from Kd.V_mk ul159_0 ge159_0); clear hva_ hvn_ hvc_ ge159_0 ul159_0; clear hcc159 hce159; have HR159_0 := Aside0.mk hi159_0; have HC159_0 := Aside0.mk hl159_0; clear hi159_0 hl159_0; replace p159 := eq_true p159; replace q159 := eq_true q159) | ((with_reducible refine gate_builtin (b := .append) (xs := #[.tmp 66, .tmp 70]) rfl ?_); at_builtin; refine Kd.R_append_rows k166 (w0 := w) w.heap.size rfl (.tmp 66) (.tmp 70) 88 166 (.agg #[(.int .i64 0), (.int .i64 0), (.int .i64 0)]) 24 rfl Try.underlying88 info166 rfl (by decide) (by omega) v157 y156 (rd_L6 t153 x10_5) _ _ _ (fun k_ => (w.heap.size ≤ k_)) (fun _ => False) rfl rfl ?aO ?aR (fun _ _ h => h) (fun _ h => h.elim) ?aF ?aB ?aS ?aL ?_; (case aR => exact up_ HR159_0.out); (case aB => exact (up_ HB.out)); (case aF => exact (fun k_ hk => (Nat.le_trans (below_size (up_ HB.out)) hk))); (case aO => exact (by (with_reducible repeat (first | apply Kd.R_alloc | apply Kd.R_drewN | apply Kd.R_drew)); exact Kd.R_mono HO158.out (fun _ hk => hk.1))); (case aS => exact (below_size (up_ HB.out))); (case aL => have := LMc27.out; omega); intro v161 w32 ho hb hg hat; rw [← Ny160.out] at ho; have n0_ := Aside0.mk (Kd.N_afterv (ok := (fun k_ => (w.heap.size ≤ k_) ∧ some k_ ≠ (.slice (some ad159) t153.length co29 : Value).ownBlock)) (up_ HO_5.out) hg hat); have n1_ := Aside0.mk (Kd.N_afterv (ok := (fun k_ => (w.heap.size ≤ k_) ∧ some k_ ≠ (u5 : Value).ownBlock)) (up_ HO_6.out) hg hat); have n2_ := Aside0.mk (Kd.V_afterv (ok := (fun k_ => (w.heap.size ≤ k_) ∧ some k_ ≠ (u5 : Value).ownBlock ∧ some k_ ≠ (.slice (some ad159) t153.length co29 : Value).ownBlock)) (by (with_reducible repeat (first | apply Kd.V_alloc | apply Kd.V_drewN | apply Kd.V_drew)); exact Kd.V_mono HL159_0.out (fun _ hk => ⟨⟨hk.1.1.1, ⟨hk.1.1.2, hk.2⟩⟩, hk.1.2⟩)) hg hat); have n3_ := Aside0.mk (hb); have n4_ := Aside0.mk (ho); clear HO_5; clear HO_6; clear HL159_0; clear HB; clear HO158; have HO_5 := n0_; have HO_6 := n1_; have HL159_0 := n2_; have HB := n3_; have HO162 := n4_; clear n0_ n1_ n2_ n3_ n4_; clear ho hb hg hat; obtain ⟨Ao34, co34, eo34⟩ := Kd.R_slice HO162.out; subst eo34) | ((with_reducible refine gate_builtin (b := .append) (xs := #[.tmp 61, .tmp 72]) rfl ?_); at_builtin; refine Kd.N_append (Kd.slice 166 k166) (w0 := w) w.heap.size rfl (.tmp 61) (.tmp 72) 167 88 (.slice none 0 0) 24 rfl Try.underlying167 info88 rfl (by decide) (by omega) u5 x5_5 y160 [.slice Ao34 y160.length co34] (fun k_ => (w.heap.size ≤ k_) ∧ some k_ ≠ (.slice (some ad159) t153.length co29 : Value).ownBlock) (fun k_ => ((fun k_ => (w.heap.size ≤ k_) ∧ some k_ ≠ (.slice (some ad159) t153.length co29 : Value).ownBlock)) k_ ∧ some k_ ≠ (u5 : Value).ownBlock) rfl rfl ?aP (fun _ hk => hk) ?aF ?aO ?aB ?aS ?aL ?_; (case aP => exact (Kd.FK_slice_mk (Kd.R_reads' (Kd.R_mono (ok' := (fun k_ => ((fun k_ => (w.heap.size ≤ k_) ∧ some k_ ≠ (.slice (some ad159) t153.length co29 : Value).ownBlock)) k_ ∧ some k_ ≠ (u5 : Value).ownBlock)) (Kd.R_apart' (Kd.R_apart' (HO162.out) (Kd.N_typed HO_6.out) (by decide)) (Kd.N_typed HO_5.out) (by decide)) (fun k_ hk => ⟨⟨hk.1.1, hk.1.2⟩, hk.2⟩))).2.1 (Kd.R_F (Kd.R_mono (ok' := (fun k_ => ((fun k_ => (w.heap.size ≤ k_) ∧ some k_ ≠ (.slice (some ad159) t153.length co29 : Value).ownBlock)) k_ ∧ some k_ ≠ (u5 : Value).ownBlock)) (Kd.R_apart' (Kd.R_apart' (HO162.out) (Kd.N_typed HO_6.out) (by decide)) (Kd.N_typed HO_5.out) (by decide)) (fun k_ hk => ⟨⟨hk.1.1, hk.1.2⟩, hk.2⟩))))); (case aB => exact (up_ HB.out)); (case aF => exact (fun k_ hk => ⟨(Nat.le_trans (below_size (up_ HB.out)) hk), Kd.fresh' (Kd.N_lt (up_ HO_6.out)) k_ hk⟩)); (case aO => exact (by (with_reducible repeat (first | apply Kd.N_alloc | apply Kd.N_drewN | apply Kd.N_drew)); exact Kd.N_mono HO_5.out (fun _ hk => ⟨hk.1.1, hk.1.2⟩))); (case aS => exact (below_size (up_ HB.out))); (case aL => have := LMc28.out; omega); intro v164 w33 ho hb hg hat; rw [← Ny163.out] at ho; have n0_ := Aside0.mk (Kd.N_afterv (ok := (fun k_ => (w.heap.size ≤ k_) ∧ some k_ ≠ (.slice Ao34 y160.length co34 : Value).ownBlock)) (by (with_reducible repeat (first | apply Kd.N_alloc | apply Kd.N_drewN | apply Kd.N_drew)); exact Kd.N_mono HO_6.out (fun _ hk => ⟨⟨hk.1.1, hk.2⟩, hk.1.2⟩)) hg hat); have n1_ := Aside0.mk (Kd.V_afterv (ok := (fun k_ => (w.heap.size ≤ k_) ∧ some k_ ≠ (.slice (some ad159) t153.length co29 : Value).ownBlock ∧ some k_ ≠ (.slice Ao34 y160.length co34 : Value).ownBlock)) (by (with_reducible repeat (first | apply Kd.V_alloc | apply Kd.V_drewN | apply Kd.V_drew)); exact Kd.V_mono HL159_0.out (fun _ hk => ⟨⟨hk.1.1, ⟨hk.1.2.2, hk.2⟩⟩, hk.1.2.1⟩)) hg hat); have n2_ := Aside0.mk (hb); have n3_ := Aside0.mk (ho); clear HO_6; clear HL159_0; clear HB; clear HO_5; clear HO162; have HO_6 := n0_; have HL159_0 := n1_; have HB := n2_; have HO165 := n3_; clear n0_ n1_ n2_ n3_; clear ho hb hg hat))
                  go_roundg k5
                  case measure => have := HK1.out; have := HK2.out; have := HJ18.out; have := HK4.out; have := HK5.out; omega
                  case rel => exact ⟨(y163), (wrap64 (x10_5 + 1)), rs_, H', ⟨by have := HK1.out; have := HK2.out; have := HJ18.out; have := HK4.out; have := HK5.out; omega⟩, ⟨up_ HO165.out⟩, ⟨by (with_reducible repeat (first | apply Kd.N_alloc | apply Kd.N_drewN | apply Kd.N_drew)); exact Kd.N_mono HO_6.out (fun _ hk => ⟨hk.1.1, hk.2⟩)⟩, ⟨up_ HB.out⟩⟩
                 ·rw [if_neg c28] at H
                  exact absurd H (by simp)
                ·rw [if_neg c27] at H
                 exact absurd H (by simp)
               ·have H' := Aside0.mk H
                clear H
                obtain ⟨Ao35, co35, eo35⟩ := Kd.N_slice HO_6.out
                subst eo35
                go_wp2
                go_roundg k5
                case measure => have := HK1.out; have := HK2.out; have := HJ18.out; have := HK4.out; have := HK5.out; omega
                case rel => exact ⟨(x5_5), (wrap64 (x9_4 + 1)), rs_, H', ⟨by have := HK1.out; have := HK2.out; have := HJ18.out; have := HK4.out; have := HK5.out; omega⟩, ⟨up_ HO_5.out⟩, ⟨up_ HO_6.out⟩, ⟨up_ HB.out⟩⟩
            ·have H' := Aside0.mk H
             clear H
             go_wp2
             go_roundg k4
             case measure => have := HK1.out; have := HK2.out; have := HJ18.out; have := HK4.out; omega
             case rel => exact ⟨(x5_4), (wrap64 (x8_2 + 1)), rs_, H', ⟨by have := HK1.out; have := HK2.out; have := HJ18.out; have := HK4.out; omega⟩, ⟨by (with_reducible repeat (first | apply Kd.N_alloc | apply Kd.N_drewN | apply Kd.N_drew)); exact Kd.N_mono HO_5.out (fun _ hk => hk.1)⟩, ⟨up_ HB.out⟩⟩
         ·obtain rfl := Option.some.inj H
          go_wp2
          go_ret
          exact ⟨_, re_, by (with_reducible repeat (first | apply Kd.N_alloc | apply Kd.N_drewN | apply Kd.N_drew)); exact HO_5.out, up_ HB.out⟩

/-! ### spec_FootingsOf: function 122 -/
mutual
def spec_FootingsOf.l0 : Nat → Int → List (S90) → List (List (S166)) → Int → Option ((List (S90)))
 | 0, _, _, _, _ => none
 | k + 1, x0, x3, x4, x5 => if x5 < (x4.length : Int) then (spec_FootingsOf.l1 k x0 x3 x4 x5 0) else (some x3)
def spec_FootingsOf.l1 : Nat → Int → List (S90) → List (List (S166)) → Int → Int → Option ((List (S90)))
 | 0, _, _, _, _, _ => none
 | k + 1, x0, x3, x4, x5, x6 => if 0 ≤ x5 then (if x5 < (x4.length : Int) then (if x6 < ((rd_L6 x4 x5).length : Int) then ((some (([] : List (S166)) : List (S166))).bind fun y174 => (if y174.length + (rd_L6 x4 x5).length < 5864062014805 then (if x3.length < 3518437208883 then (spec_FootingsOf.l1 k x0 (x3 ++ [(⟨x0, (y174 ++ (rd_L6 x4 x5)), x6⟩ : S90)]) x4 x5 (wrap64 (x6 + 1))) else (none)) else (none))) else (spec_FootingsOf.l0 k x0 x3 x4 (wrap64 (x5 + 1)))) else (none)) else (none)
end
def spec_FootingsOf.f (k : Nat) (a0 : Int) : Option ((List (S90))) := (some (([] : List (S90)) : List (S90))).bind fun y166 => ((spec_l1In.f a0 1 4).bind fun t169 => (if t169 = true then ((spec_l5Feet.f k a0 0).bind fun t170 => (spec_FootingsOf.l0 k a0 y166 t170 0)) else (some y166)))
theorem spec_FootingsOf.mono_l : ∀ k, (∀ y0 y1 y2 y3, LeO (spec_FootingsOf.l0 k y0 y1 y2 y3) (spec_FootingsOf.l0 (k + 1) y0 y1 y2 y3)) ∧ (∀ y0 y1 y2 y3 y4, LeO (spec_FootingsOf.l1 k y0 y1 y2 y3 y4) (spec_FootingsOf.l1 (k + 1) y0 y1 y2 y3 y4))
 | 0 => ⟨fun _ _ _ _ r h => by simp [spec_FootingsOf.l0] at h, fun _ _ _ _ _ r h => by simp [spec_FootingsOf.l1] at h⟩
 | k + 1 => by
  obtain ⟨ih0, ih1⟩ := spec_FootingsOf.mono_l k
  refine ⟨?_, ?_⟩
  ·intro y0 y1 y2 y3
   unfold spec_FootingsOf.l0
   have m0 := spec_l5Feet.mono
   exact mn_
  ·intro y0 y1 y2 y3 y4
   unfold spec_FootingsOf.l1
   have m0 := spec_l5Feet.mono
   exact mn_
theorem spec_FootingsOf.mono : ∀ a0 k, LeO (spec_FootingsOf.f k a0) (spec_FootingsOf.f (k + 1) a0) := by
 intro a0 k
 obtain ⟨ih0, ih1⟩ := spec_FootingsOf.mono_l k
 unfold spec_FootingsOf.f
 have m0 := spec_l5Feet.mono
 exact mn_
set_option maxHeartbeats 8000000 in
set_option maxRecDepth 100000 in
theorem spec_FootingsOf.calls (k : Nat) (a0 : Int) (r : List (S90)) (w : World) (h : spec_FootingsOf.f k a0 = some r) :
  Calls Try.prog 122 #[.int .i64 a0] w fun e w' => ∃ v0_ : Value, e = .returned (v0_) ∧ Kd.N k90 90 w' w.heap.size (fun k_ => (w.heap.size ≤ k_)) v0_ r ∧ Below w.heap.size w w' := by
 have hu90 := Try.underlying90
 have HB := Aside0.mk (Below.refl w.heap.size w)
 have H : ((some (([] : List (S90)) : List (S90))).bind fun y166 => ((spec_l1In.f a0 1 4).bind fun t169 => (if t169 = true then ((spec_l5Feet.f k a0 0).bind fun t170 => (spec_FootingsOf.l0 k a0 y166 t170 0)) else (some y166)))) = some r := h
 clear h
 obtain ⟨y166, hy166⟩ : ∃ y_ : List (S90), y_ = (([] : List (S90))) := ⟨_, rfl⟩
 replace H : ((spec_l1In.f a0 1 4).bind fun t169 => (if t169 = true then ((spec_l5Feet.f k a0 0).bind fun t170 => (spec_FootingsOf.l0 k a0 y166 t170 0)) else (some y166))) = some r := rh_ hy166 H
 have Ny166 := Aside0.mk hy166
 clear hy166
 replace H := bnd_ H; obtain ⟨t169, A2, H⟩ := H
 replace H := itb_ H; rcases H with ⟨rfl, H⟩ | ⟨rfl, H⟩
 ·replace H := bnd_ H; obtain ⟨t170, A4, H⟩ := H
  have H' := Aside0.mk H
  clear H
  go_enter Try.func122, Try.ntmps122
  go_wp2_with (first | ((with_reducible refine gd_ 7 ?_); refine Kd.N_lit k90 _ 90 ?hg (N' := 7) ?hd (xs := ([] : List (S90))) (inner := []) (ok := (fun k_ => (w.heap.size ≤ k_))) (okp := (fun k_ => (w.heap.size ≤ k_))) ?hr ?hp (fun _ hk => hk) ((show ∀ k_, w.heap.size ≤ k_ → (fun k_ => (w.heap.size ≤ k_)) k_ from fun k_ hk => (Nat.le_trans (below_size (up_ HB.out)) hk)) _ (Nat.le_refl _)) (Below.refl _ _) (Nat.le_refl _) (by simp) ?_; (case hd => rfl); (case hg => rfl); (case hr => first | (go_simp; done) | (go_simp; rfl)); (case hp => exact (Reps.none _ _)); intro v167 w5 ho6 hb hg_ hnew_; clear hg_ hnew_; (first | rw [← Ny166.out] at ho6 | (simp only [Int.reduceToNat] at ho6; rw [← Ny166.out] at ho6)); have HO168 := Aside0.mk (Kd.N_lower ho6 (below_size (up_ HB.out))); replace HB := bs_ HB hb; clear hb ho6) | ((with_reducible refine gc_ 95 ?_); refine gq_ (some 9) Try.func95 (spec_l1In.calls a0 1 4 true _ A2.out) (fun nd => ?_)) | ((with_reducible refine gc_ 171 ?_); refine gl_ (some 13) Try.func171 (spec_l5Feet.calls k a0 0 t170 _ A4.out) ?_; rintro e w7 ⟨v171, rfl, ho0, hb⟩; refine ⟨_, rfl, ?_⟩; have HO172 := Aside0.mk (Kd.N_lower (Kd.N_mono (ok' := fun k_ => (w.heap.size ≤ k_) ∧ some k_ ≠ (v167 : Value).ownBlock) ho0 (fun k_ hk_ => ⟨(Nat.le_trans (below_size (up_ HB.out)) hk_), (Kd.fresh' (Kd.N_lt (up_ HO168.out)) k_ hk_)⟩)) (below_size (up_ HB.out))); replace HO168 := Aside0.mk (Kd.N_elder' (up_ HO168.out) (Kd.N_base ho0) hb); replace HB := bs_ HB hb; (try clear hb); (try clear hb2); (try clear hk); (try clear hi); (try clear ho0)))
  go_loopg [3, 5] k (fun kq v3 v5 w' => ∃ (x3_1 : List (S90)) (x5_1 : Int), v5 = .int .i64 x5_1 ∧ Aside0 (spec_FootingsOf.l0 kq a0 x3_1 t170 x5_1 = some r) ∧ Aside0 (kq ≤ k) ∧ Aside0 (Kd.N k90 90 w' w.heap.size (fun k_ => (w.heap.size ≤ k_) ∧ some k_ ≠ (v171 : Value).ownBlock) v3 x3_1) ∧ Aside0 (Kd.N (Kd.slice 166 k166) 88 w' w.heap.size (fun k_ => (w.heap.size ≤ k_) ∧ some k_ ≠ (v3 : Value).ownBlock) v171 t170) ∧ Aside0 (Below w.heap.size w w'))
  case atStart => exact ⟨(y166), (0), rs_, H', ⟨Nat.le_refl _⟩, ⟨up_ HO168.out⟩, ⟨up_ HO172.out⟩, ⟨up_ HB.out⟩⟩
  case round =>
   clear H'
   try clear c1
   try clear p2
   try clear c3
   obtain ⟨x3_1, x5_1, rfl, HA, HK1, HO_3, HO_4, HB⟩ := hrel
   cases gk with
   | zero => exact absurd HA.out (by simp [spec_FootingsOf.l0])
   | succ k1 =>
    have H := HA.out
    clear HA
    simp only [spec_FootingsOf.l0] at H
    replace H := its_ H; rcases H with ⟨c8b0, H⟩ | ⟨c8b0, H⟩
    ·have H' := Aside0.mk H
     clear H
     obtain ⟨Ao9, co9, eo9⟩ := Kd.N_slice HO_4.out
     subst eo9
     go_wp2
     go_loopg [3, 6] k1 (fun kq v3 v6 w' => ∃ (x3_2 : List (S90)) (x6_2 : Int), v6 = .int .i64 x6_2 ∧ Aside0 (spec_FootingsOf.l1 kq a0 x3_2 t170 x5_1 x6_2 = some r) ∧ Aside0 (kq ≤ k1) ∧ Aside0 (Kd.N k90 90 w' w.heap.size (fun k_ => (w.heap.size ≤ k_) ∧ some k_ ≠ ((.slice Ao9 t170.length co9) : Value).ownBlock) v3 x3_2) ∧ Aside0 (Kd.N (Kd.slice 166 k166) 88 w' w.heap.size (fun k_ => (w.heap.size ≤ k_) ∧ some k_ ≠ (v3 : Value).ownBlock) (.slice Ao9 t170.length co9) t170) ∧ Aside0 (Below w.heap.size w w'))
     case atStart => exact ⟨(x3_1), (0), rs_, H', ⟨Nat.le_refl _⟩, ⟨up_ HO_3.out⟩, ⟨up_ HO_4.out⟩, ⟨up_ HB.out⟩⟩
     case round =>
      clear H'
      try clear c1
      try clear p2
      try clear c3
      try clear c8
      try clear c8b0
      try clear c9
      try clear p2
      obtain ⟨x3_2, x6_2, rfl, HA, HK2, HO_3, HO_4, HB⟩ := hrel
      cases gk with
      | zero => exact absurd HA.out (by simp [spec_FootingsOf.l1])
      | succ k2 =>
       have H := HA.out
       clear HA
       simp only [spec_FootingsOf.l1] at H
       replace H := its_ H; rcases H with ⟨c10b0, H⟩ | ⟨_, ⟨⟩⟩
       replace H := its_ H; rcases H with ⟨c11b0, H⟩ | ⟨_, ⟨⟩⟩
       replace H := its_ H; rcases H with ⟨c12b0, H⟩ | ⟨c12b0, H⟩
       ·obtain ⟨y174, hy174⟩ : ∃ y_ : List (S166), y_ = (([] : List (S166))) := ⟨_, rfl⟩
        replace H : (if y174.length + (rd_L6 t170 x5_1).length < 5864062014805 then (if x3_2.length < 3518437208883 then (spec_FootingsOf.l1 k2 a0 (x3_2 ++ [(⟨a0, (y174 ++ (rd_L6 t170 x5_1)), x6_2⟩ : S90)]) t170 x5_1 (wrap64 (x6_2 + 1))) else (none)) else (none)) = some r := rh_ hy174 H
        have Ny174 := Aside0.mk hy174
        clear hy174
        by_cases c13 : y174.length + (rd_L6 t170 x5_1).length < 5864062014805
        ·rw [if_pos c13] at H
         have LMc13 := Aside0.mk c13
         clear c13
         obtain ⟨y178, hy178⟩ : ∃ y_ : List (S166), y_ = (y174 ++ (rd_L6 t170 x5_1)) := ⟨_, rfl⟩
         replace H : (if x3_2.length < 3518437208883 then (spec_FootingsOf.l1 k2 a0 (x3_2 ++ [(⟨a0, y178, x6_2⟩ : S90)]) t170 x5_1 (wrap64 (x6_2 + 1))) else (none)) = some r := rh_ hy178 H
         have Ny178 := Aside0.mk hy178
         clear hy178
         by_cases c14 : x3_2.length < 3518437208883
         ·rw [if_pos c14] at H
          have LMc14 := Aside0.mk c14
          clear c14
          obtain ⟨y181, hy181⟩ : ∃ y_ : List (S90), y_ = (x3_2 ++ [(⟨a0, y178, x6_2⟩ : S90)]) := ⟨_, rfl⟩
          replace H : (spec_FootingsOf.l1 k2 a0 y181 t170 x5_1 (wrap64 (x6_2 + 1))) = some r := rh_ hy181 H
          have Ny181 := Aside0.mk hy181
          clear hy181
          have H' := Aside0.mk H
          clear H
          have p173 : 0 ≤ (x5_1 : Int) := od_
          have q173 : x5_1 < (t170.length : Int) := od_
          obtain ⟨ad173, A173_0, c173_0, e173, hx173_0, hl173_0, hi173_0⟩ := at_L6 (Kd.N_reads' HO_4.out).2.2 x5_1 p173 q173
          cases e173
          obtain ⟨ce173, hce173, hMe173, hcc173⟩ := Kd.N_get HO_4.out [] x5_1 p173 (by first | exact q173 | exact od_ | (have e_ := (Kd.N_reads' HO_4.out).1; omega))
          obtain ⟨ua173_0, uc173_0, rfl, ul173_0, ge173_0⟩ := Kd.FK_slice_open hMe173
          have hv173_0 := hcc173 0 _ rfl
          rw [Nat.add_zero, show ((Kd.slice 166 k166)).sz = 1 from rfl, Nat.mul_one] at hv173_0
          replace hv173_0 := Option.some.inj (hv173_0.symm.trans hx173_0)
          injection hv173_0 with hva_ hvn_ hvc_
          rw [hva_] at ge173_0
          rw [hvc_] at ul173_0
          have HL173_0 := Aside0.mk (show Kd.V k166 166 _ w.heap.size _ _ (rd_L6 t170 x5_1) from Kd.V_mk ul173_0 ge173_0)
          clear hva_ hvn_ hvc_ ge173_0 ul173_0
          clear hcc173 hce173
          have HR173_0 := Aside0.mk hi173_0
          have HC173_0 := Aside0.mk hl173_0
          clear hi173_0 hl173_0
          replace p173 := eq_true p173
          replace q173 := eq_true q173
          go_wp2_with (first | ((with_reducible refine gd_ 31 ?_); refine Kd.R_lit k166 _ 166 ?hg (N := 31) ?hd (xs := ([] : List (S166))) (inner := []) (ok := fun _ => True) (okp := fun _ => True) ?hr ?hp (fun _ hk => hk) trivial (Below.refl _ _) (Nat.le_refl _) (by simp) ?_; (case hd => rfl); (case hg => rfl); (case hr => first | (go_simp; done) | (go_simp; rfl)); (case hp => exact (Reps.none _ _)); intro v175 w15 ho16 hb hg_ hnew_; clear hg_ hnew_; (first | rw [← Ny174.out] at ho16 | (simp only [Int.reduceToNat] at ho16; rw [← Ny174.out] at ho16)); replace HO_3 := Aside0.mk (Kd.N_elder' (up_ HO_3.out) (Kd.R_base ho16) hb); replace HO_4 := Aside0.mk (Kd.N_elder' (up_ HO_4.out) (Kd.R_base ho16) hb); replace HL173_0 := Aside0.mk (Kd.V_elder' (up_ HL173_0.out) (Kd.R_base ho16) hb); have HO176 := Aside0.mk (Kd.R_lower (Kd.R_newM (M := fun k_ => (w.heap.size ≤ k_)) ho16 (below_size (up_ HB.out)) (fun k_ h_ => h_)) (below_size (up_ HB.out))); replace HR173_0 := Aside0.mk (Kd.C_below (up_ HR173_0.out) hb); replace HB := bs_ HB hb; clear hb ho16; have p177 : 0 ≤ (x5_1 : Int) := od_; have q177 : x5_1 < (t170.length : Int) := od_; obtain ⟨ad177, A177_0, c177_0, e177, hx177_0, hl177_0, hi177_0⟩ := at_L6 (Kd.N_reads' HO_4.out).2.2 x5_1 p177 q177; obtain rfl : ad173 = ad177 := (by injection e177); obtain ⟨ce177, hce177, hMe177, hcc177⟩ := Kd.N_get HO_4.out [] x5_1 p177 (by first | exact q177 | exact od_ | (have e_ := (Kd.N_reads' HO_4.out).1; omega)); obtain ⟨ua177_0, uc177_0, rfl, ul177_0, ge177_0⟩ := Kd.FK_slice_open hMe177; have hv177_0 := hcc177 0 _ rfl; rw [Nat.add_zero, show ((Kd.slice 166 k166)).sz = 1 from rfl, Nat.mul_one] at hv177_0; replace hv177_0 := Option.some.inj (hv177_0.symm.trans hx177_0); injection hv177_0 with hva_ hvn_ hvc_; rw [hva_] at ge177_0; rw [hvc_] at ul177_0; have HL177_0 := Aside0.mk (show Kd.V k166 166 _ w.heap.size _ _ (rd_L6 t170 x5_1) from Kd.V_mk ul177_0 ge177_0); clear hva_ hvn_ hvc_ ge177_0 ul177_0; clear hcc177 hce177; have HR177_0 := Aside0.mk hi177_0; have HC177_0 := Aside0.mk hl177_0; clear hi177_0 hl177_0; replace p177 := eq_true p177; replace q177 := eq_true q177) | ((with_reducible refine gate_builtin (b := .append) (xs := #[.tmp 31, .tmp 35]) rfl ?_); at_builtin; refine Kd.R_append_rows k166 (w0 := w) w.heap.size rfl (.tmp 31) (.tmp 35) 88 166 (.agg #[(.int .i64 0), (.int .i64 0), (.int .i64 0)]) 24 rfl Try.underlying88 info166 rfl (by decide) (by omega) v175 y174 (rd_L6 t170 x5_1) _ _ _ (fun k_ => (w.heap.size ≤ k_)) (fun _ => False) rfl rfl ?aO ?aR (fun _ _ h => h) (fun _ h => h.elim) ?aF ?aB ?aS ?aL ?_; (case aR => exact up_ HR177_0.out); (case aB => exact (up_ HB.out)); (case aF => exact (fun k_ hk => (Nat.le_trans (below_size (up_ HB.out)) hk))); (case aO => exact (by (with_reducible repeat (first | apply Kd.R_alloc | apply Kd.R_drewN | apply Kd.R_drew)); exact Kd.R_mono HO176.out (fun _ hk => hk.1))); (case aS => exact (below_size (up_ HB.out))); (case aL => have := LMc13.out; omega); intro v179 w17 ho hb hg hat; rw [← Ny178.out] at ho; have n0_ := Aside0.mk (Kd.N_afterv (ok := (fun k_ => (w.heap.size ≤ k_) ∧ some k_ ≠ (.slice (some ad173) t170.length co9 : Value).ownBlock)) (up_ HO_3.out) hg hat); have n1_ := Aside0.mk (Kd.N_afterv (ok := (fun k_ => (w.heap.size ≤ k_) ∧ some k_ ≠ (u3 : Value).ownBlock)) (up_ HO_4.out) hg hat); have n2_ := Aside0.mk (Kd.V_afterv (ok := (fun k_ => (w.heap.size ≤ k_) ∧ some k_ ≠ (u3 : Value).ownBlock ∧ some k_ ≠ (.slice (some ad173) t170.length co9 : Value).ownBlock)) (by (with_reducible repeat (first | apply Kd.V_alloc | apply Kd.V_drewN | apply Kd.V_drew)); exact Kd.V_mono HL173_0.out (fun _ hk => ⟨⟨hk.1.1.1, ⟨hk.1.1.2, hk.1.2⟩⟩, hk.2⟩)) hg hat); have n3_ := Aside0.mk (Kd.V_afterv (ok := (fun k_ => (w.heap.size ≤ k_) ∧ some k_ ≠ (u3 : Value).ownBlock ∧ some k_ ≠ (.slice (some ad173) t170.length co9 : Value).ownBlock)) (by (with_reducible repeat (first | apply Kd.V_alloc | apply Kd.V_drewN | apply Kd.V_drew)); exact Kd.V_mono HL177_0.out (fun _ hk => ⟨⟨hk.1.1.1, ⟨hk.1.1.2, hk.2⟩⟩, hk.1.2⟩)) hg hat); have n4_ := Aside0.mk (hb); have n5_ := Aside0.mk (ho); clear HO_3; clear HO_4; clear HL173_0; clear HL177_0; clear HB; clear HO176; have HO_3 := n0_; have HO_4 := n1_; have HL173_0 := n2_; have HL177_0 := n3_; have HB := n4_; have HO180 := n5_; clear n0_ n1_ n2_ n3_ n4_ n5_; clear ho hb hg hat; obtain ⟨Ao18, co18, eo18⟩ := Kd.R_slice HO180.out; subst eo18) | ((with_reducible refine gate_builtin (b := .append) (xs := #[.tmp 29, .tmp 39]) rfl ?_); at_builtin; refine Kd.N_append k90 (w0 := w) w.heap.size rfl (.tmp 29) (.tmp 39) 100 90 (.agg #[(.int .i64 0), (.slice none 0 0), (.int .i64 0)]) 40 rfl Try.underlying100 info90 rfl (by decide) (by omega) u3 x3_2 (⟨a0, y178, x6_2⟩ : S90) [.int .i64 a0, .slice Ao18 y178.length co18, .int .i64 x6_2] (fun k_ => (w.heap.size ≤ k_) ∧ some k_ ≠ (.slice (some ad173) t170.length co9 : Value).ownBlock) (fun k_ => ((fun k_ => (w.heap.size ≤ k_) ∧ some k_ ≠ (.slice (some ad173) t170.length co9 : Value).ownBlock)) k_ ∧ some k_ ≠ (u3 : Value).ownBlock) rfl rfl ?aP (fun _ hk => hk) ?aF ?aO ?aB ?aS ?aL ?_; (case aP => exact (k90_mkF _ _ (⟨a0, y178, x6_2⟩ : S90) (Kd.R_reads' (Kd.R_mono (ok' := (fun k_ => ((fun k_ => (w.heap.size ≤ k_) ∧ some k_ ≠ (.slice (some ad173) t170.length co9 : Value).ownBlock)) k_ ∧ some k_ ≠ (u3 : Value).ownBlock)) (Kd.R_apart' (Kd.R_apart' (HO180.out) (Kd.N_typed HO_4.out) (by decide)) (Kd.N_typed HO_3.out) (by decide)) (fun k_ hk => ⟨⟨hk.1.1, hk.1.2⟩, hk.2⟩))).2.1 (Kd.R_F (Kd.R_mono (ok' := (fun k_ => ((fun k_ => (w.heap.size ≤ k_) ∧ some k_ ≠ (.slice (some ad173) t170.length co9 : Value).ownBlock)) k_ ∧ some k_ ≠ (u3 : Value).ownBlock)) (Kd.R_apart' (Kd.R_apart' (HO180.out) (Kd.N_typed HO_4.out) (by decide)) (Kd.N_typed HO_3.out) (by decide)) (fun k_ hk => ⟨⟨hk.1.1, hk.1.2⟩, hk.2⟩))))); (case aB => exact (up_ HB.out)); (case aF => exact (fun k_ hk => ⟨(Nat.le_trans (below_size (up_ HB.out)) hk), Kd.fresh' (Kd.N_lt (up_ HO_4.out)) k_ hk⟩)); (case aO => exact (by (with_reducible repeat (first | apply Kd.N_alloc | apply Kd.N_drewN | apply Kd.N_drew)); exact Kd.N_mono HO_3.out (fun _ hk => ⟨hk.1.1, hk.1.2⟩))); (case aS => exact (below_size (up_ HB.out))); (case aL => have := LMc14.out; omega); intro v182 w19 ho hb hg hat; rw [← Ny181.out] at ho; have n0_ := Aside0.mk (Kd.N_afterv (ok := (fun k_ => (w.heap.size ≤ k_) ∧ some k_ ≠ (.slice Ao18 y178.length co18 : Value).ownBlock)) (by (with_reducible repeat (first | apply Kd.N_alloc | apply Kd.N_drewN | apply Kd.N_drew)); exact Kd.N_mono HO_4.out (fun _ hk => ⟨⟨hk.1.1, hk.2⟩, hk.1.2⟩)) hg hat); have n1_ := Aside0.mk (Kd.V_afterv (ok := (fun k_ => (w.heap.size ≤ k_) ∧ some k_ ≠ (.slice (some ad173) t170.length co9 : Value).ownBlock ∧ some k_ ≠ (.slice Ao18 y178.length co18 : Value).ownBlock)) (by (with_reducible repeat (first | apply Kd.V_alloc | apply Kd.V_drewN | apply Kd.V_drew)); exact Kd.V_mono HL173_0.out (fun _ hk => ⟨⟨hk.1.1, ⟨hk.1.2.2, hk.2⟩⟩, hk.1.2.1⟩)) hg hat); have n2_ := Aside0.mk (Kd.V_afterv (ok := (fun k_ => (w.heap.size ≤ k_) ∧ some k_ ≠ (.slice (some ad173) t170.length co9 : Value).ownBlock ∧ some k_ ≠ (.slice Ao18 y178.length co18 : Value).ownBlock)) (by (with_reducible repeat (first | apply Kd.V_alloc | apply Kd.V_drewN | apply Kd.V_drew)); exact Kd.V_mono HL177_0.out (fun _ hk => ⟨⟨hk.1.1, ⟨hk.1.2.2, hk.2⟩⟩, hk.1.2.1⟩)) hg hat); have n3_ := Aside0.mk (hb); have n4_ := Aside0.mk (ho); clear HO_4; clear HL173_0; clear HL177_0; clear HB; clear HO_3; clear HO180; have HO_4 := n0_; have HL173_0 := n1_; have HL177_0 := n2_; have HB := n3_; have HO183 := n4_; clear n0_ n1_ n2_ n3_ n4_; clear ho hb hg hat))
          go_roundg k2
          case measure => have := HK1.out; have := HK2.out; omega
          case rel => exact ⟨(y181), (wrap64 (x6_2 + 1)), rs_, H', ⟨by have := HK1.out; have := HK2.out; omega⟩, ⟨up_ HO183.out⟩, ⟨by (with_reducible repeat (first | apply Kd.N_alloc | apply Kd.N_drewN | apply Kd.N_drew)); exact Kd.N_mono HO_4.out (fun _ hk => ⟨hk.1.1, hk.2⟩)⟩, ⟨up_ HB.out⟩⟩
         ·rw [if_neg c14] at H
          exact absurd H (by simp)
        ·rw [if_neg c13] at H
         exact absurd H (by simp)
       ·have H' := Aside0.mk H
        clear H
        have p173 : 0 ≤ (x5_1 : Int) := od_
        have q173 : x5_1 < (t170.length : Int) := od_
        obtain ⟨ad173, A173_0, c173_0, e173, hx173_0, hl173_0, hi173_0⟩ := at_L6 (Kd.N_reads' HO_4.out).2.2 x5_1 p173 q173
        cases e173
        obtain ⟨ce173, hce173, hMe173, hcc173⟩ := Kd.N_get HO_4.out [] x5_1 p173 (by first | exact q173 | exact od_ | (have e_ := (Kd.N_reads' HO_4.out).1; omega))
        obtain ⟨ua173_0, uc173_0, rfl, ul173_0, ge173_0⟩ := Kd.FK_slice_open hMe173
        have hv173_0 := hcc173 0 _ rfl
        rw [Nat.add_zero, show ((Kd.slice 166 k166)).sz = 1 from rfl, Nat.mul_one] at hv173_0
        replace hv173_0 := Option.some.inj (hv173_0.symm.trans hx173_0)
        injection hv173_0 with hva_ hvn_ hvc_
        rw [hva_] at ge173_0
        rw [hvc_] at ul173_0
        have HL173_0 := Aside0.mk (show Kd.V k166 166 _ w.heap.size _ _ (rd_L6 t170 x5_1) from Kd.V_mk ul173_0 ge173_0)
        clear hva_ hvn_ hvc_ ge173_0 ul173_0
        clear hcc173 hce173
        have HR173_0 := Aside0.mk hi173_0
        have HC173_0 := Aside0.mk hl173_0
        clear hi173_0 hl173_0
        replace p173 := eq_true p173
        replace q173 := eq_true q173
        go_wp2
        go_roundg k2
        case measure => have := HK1.out; have := HK2.out; omega
        case rel => exact ⟨(x3_2), (wrap64 (x5_1 + 1)), rs_, H', ⟨by have := HK1.out; have := HK2.out; omega⟩, ⟨up_ HO_3.out⟩, ⟨up_ HO_4.out⟩, ⟨up_ HB.out⟩⟩
    ·obtain rfl := Option.some.inj H
     obtain ⟨Ao20, co20, eo20⟩ := Kd.N_slice HO_4.out
     subst eo20
     go_wp2
     go_ret
     exact ⟨_, re_, by (with_reducible repeat (first | apply Kd.N_alloc | apply Kd.N_drewN | apply Kd.N_drew)); exact Kd.N_mono HO_3.out (fun _ hk => hk.1), up_ HB.out⟩
 ·obtain rfl := Option.some.inj H
  go_enter Try.func122, Try.ntmps122
  go_wp2_with (first | ((with_reducible refine gd_ 7 ?_); refine Kd.N_lit k90 _ 90 ?hg (N' := 7) ?hd (xs := ([] : List (S90))) (inner := []) (ok := (fun k_ => (w.heap.size ≤ k_))) (okp := (fun k_ => (w.heap.size ≤ k_))) ?hr ?hp (fun _ hk => hk) ((show ∀ k_, w.heap.size ≤ k_ → (fun k_ => (w.heap.size ≤ k_)) k_ from fun k_ hk => (Nat.le_trans (below_size (up_ HB.out)) hk)) _ (Nat.le_refl _)) (Below.refl _ _) (Nat.le_refl _) (by simp) ?_; (case hd => rfl); (case hg => rfl); (case hr => first | (go_simp; done) | (go_simp; rfl)); (case hp => exact (Reps.none _ _)); intro v167 w21 ho22 hb hg_ hnew_; clear hg_ hnew_; (first | rw [← Ny166.out] at ho22 | (simp only [Int.reduceToNat] at ho22; rw [← Ny166.out] at ho22)); have HO168 := Aside0.mk (Kd.N_lower ho22 (below_size (up_ HB.out))); replace HB := bs_ HB hb; clear hb ho22) | ((with_reducible refine gc_ 95 ?_); refine gq_ (some 9) Try.func95 (spec_l1In.calls a0 1 4 false _ A2.out) (fun nd => ?_)))
  go_ret
  exact ⟨_, re_, by (with_reducible repeat (first | apply Kd.N_alloc | apply Kd.N_drewN | apply Kd.N_drew)); exact HO168.out, up_ HB.out⟩

end Go.Proofs.Ytkddpilambnicaa.PFnExactFootRows
