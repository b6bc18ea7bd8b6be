/- Walks of Go functions that the law FnExactFootRows uses: written by this session's program out of the kit's printer; each shows that a call comes to the answers of the Lean function beside it. Conditions: each contract's own. -/
import Derived.Test.YtkddpilambnicaaPFnExactFootRowsx0
import Derived.Test.YtkddpilambnicaaPFnExactFootRowsx2
namespace Go.Proofs.Ytkddpilambnicaa.PFnExactFootRows
open Go.RowKit Go.Proofs.YtkddpilambnicaaW.PrintWords Go.Proofs.YtkddpilambnicaaW.PrintLast Go.Proofs.YtkddpilambnicaaW.PrintMore Go.Proofs.Ytkddpilambnicaa.Mac Go.Proofs.Ytkddpilambnicaa.Law
attribute [local go_sem] max2_int min2_int max_two min_two max_three min_three max_four min_four   -- for this text's walks alone
set_option linter.unusedVariables false
set_option linter.unusedSimpArgs false

/-! ### spec_StressesOf: function 121 -/
def spec_StressesOf.l0 : Nat → List Int → Int → Int → List (S166) → Int → Option (List Int)
 | 0, _, _, _, _, _ => none
 | k + 1, x3, x4, x124000, x124001, x124002 => if x4 < (x124001.length : Int) then (if 0 ≤ x4 then (if 0 ≤ (wrap64 (((rd_T166 x124001 x4).f0) + ((rd_T166 x124001 x4).f2))) then (if (wrap64 (((rd_T166 x124001 x4).f0) + ((rd_T166 x124001 x4).f2))) < (x3.length : Int) then ((some (x3.set ((wrap64 (((rd_T166 x124001 x4).f0) + ((rd_T166 x124001 x4).f2))) : Int).toNat 1 : List Int)).bind fun y133 => (if x4 = x124002 then (spec_StressesOf.l0 k (y133.set ((wrap64 (((rd_T166 x124001 x4).f0) + ((rd_T166 x124001 x4).f2))) : Int).toNat 2) (wrap64 (x4 + 1)) x124000 x124001 x124002) else (spec_StressesOf.l0 k y133 (wrap64 (x4 + 1)) x124000 x124001 x124002))) else (none)) else (none)) else (none)) else (some x3)
def spec_StressesOf.f (k : Nat) (a0_0 : Int) (l0_1 : List (S166)) (a0_2 : Int) : Option (List Int) := (spec_IsFooting.f k a0_0 l0_1 a0_2).bind fun t124 => (if t124 = true then (if 0 ≤ a0_0 then (if (a0_0 : Int).toNat ≤ 35184372088832 then (spec_StressesOf.l0 k (List.replicate (a0_0 : Int).toNat 0) 0 a0_0 l0_1 a0_2) else (none)) else (none)) else (some (([] : List Int))))
theorem spec_StressesOf.mono_l : ∀ k, (∀ y0 y1 y2 y3 y4, LeO (spec_StressesOf.l0 k y0 y1 y2 y3 y4) (spec_StressesOf.l0 (k + 1) y0 y1 y2 y3 y4))
 | 0 => fun _ _ _ _ _ r h => by simp [spec_StressesOf.l0] at h
 | k + 1 => by
  have ih0 := spec_StressesOf.mono_l k
  ·intro y0 y1 y2 y3 y4
   unfold spec_StressesOf.l0
   have m0 := spec_IsFooting.mono
   exact mn_
theorem spec_StressesOf.mono : ∀ a0 a1 a2 k, LeO (spec_StressesOf.f k a0 a1 a2) (spec_StressesOf.f (k + 1) a0 a1 a2) := by
 intro a0 a1 a2 k
 have ih0 := spec_StressesOf.mono_l k
 unfold spec_StressesOf.f
 have m0 := spec_IsFooting.mono
 exact mn_
def spec_StressesOf.T7 : Bool × List (List Nat × List Nat) := (true, [([], []), ([], []), ([1], [1]), ([], []), ([2, 3], [2, 3]), ([4], [4]), ([5], [5]), ([], []), ([7], [7]), ([], []), ([8, 9], [8, 9]), ([10], [10]), ([11], [11]), ([6, 12], [6, 12]), ([0, 13, 0, 1, 2, 3, 4, 5, 6, 7, 8, 9, 10, 11, 12, 13], [0, 13]), ([14, 0, 1, 2, 3, 4, 5, 6, 7, 8, 9, 10, 11, 12, 13], [14])])
def spec_StressesOf.B7 : List Nat := [0, 0, 2, 0, 14, 30, 62, 0, 128, 0, 896, 1920, 3968, 8190, 16383, 32767]
theorem spec_StressesOf.tab7 : rtab .any (opsOf Try.f121 7) = spec_StressesOf.T7 := by kernel_rfl
theorem spec_StressesOf.bits7 : waitsOk spec_StressesOf.T7.2 spec_StressesOf.B7 = true := by kernel_rfl
def spec_StressesOf.T9 : Bool × List (List Nat × List Nat) := (true, [([], []), ([], []), ([1], [1]), ([], []), ([2, 3], [2, 3]), ([4], [4]), ([5], [5]), ([], []), ([7], [7]), ([], []), ([8, 9], [8, 9]), ([10], [10]), ([11], [11]), ([6, 12], [6, 12]), ([0, 13, 0, 1, 2, 3, 4, 5, 6, 7, 8, 9, 10, 11, 12, 13], [0, 13]), ([14, 0, 1, 2, 3, 4, 5, 6, 7, 8, 9, 10, 11, 12, 13], [14])])
def spec_StressesOf.B9 : List Nat := [0, 0, 2, 0, 14, 30, 62, 0, 128, 0, 896, 1920, 3968, 8190, 16383, 32767]
theorem spec_StressesOf.tab9 : rtab .any (opsOf Try.f121 9) = spec_StressesOf.T9 := by kernel_rfl
theorem spec_StressesOf.bits9 : waitsOk spec_StressesOf.T9.2 spec_StressesOf.B9 = true := by kernel_rfl
set_option maxHeartbeats 8000000 in
set_option maxRecDepth 100000 in
theorem spec_StressesOf.calls (k : Nat) (a0_0 : Int) (A0_1 : Option Addr) (c0_1 : Nat) (l0_1 : List (S166)) (a0_2 : Int) (r : List Int) (w : World) (hr0_1 : Kd.C k166 w A0_1 l0_1.length l0_1) (hc0_1 : l0_1.length ≤ c0_1) (h : spec_StressesOf.f k a0_0 l0_1 a0_2 = some r) :
  Calls Try.prog 121 #[.agg #[.int .i64 a0_0, .slice A0_1 l0_1.length c0_1, .int .i64 a0_2]] w fun e w' => ∃ v0_ : Value, e = .returned (v0_) ∧ Kd.R (Kd.int .i64) 3 w' w.heap.size (fun _ => True) v0_ r ∧ Below w.heap.size w w' := by
 have hu90 := Try.underlying90
 have HR0_1 := Aside0.mk hr0_1
 have HC0_1 := Aside0.mk hc0_1
 clear hr0_1 hc0_1
 have HB := Aside0.mk (Below.refl w.heap.size w)
 have H : ((spec_IsFooting.f k a0_0 l0_1 a0_2).bind fun t124 => (if t124 = true then (if 0 ≤ a0_0 then (if (a0_0 : Int).toNat ≤ 35184372088832 then (spec_StressesOf.l0 k (List.replicate (a0_0 : Int).toNat 0) 0 a0_0 l0_1 a0_2) else (none)) else (none)) else (some (([] : List Int))))) = some r := h
 clear h
 replace H := bnd_ H; obtain ⟨t124, A2, H⟩ := H
 replace H := itb_ H; rcases H with ⟨rfl, H⟩ | ⟨rfl, H⟩
 ·by_cases c4 : 0 ≤ a0_0
  ·rw [if_pos c4] at H
   have c4b0 := eq_true c4
   have c4b1 : decide (0 ≤ a0_0) = true := decide_eq_true c4
   clear c4
   by_cases c5 : (a0_0 : Int).toNat ≤ 35184372088832
   ·rw [if_pos c5] at H
    have c5b0 := eq_true c5
    have c5b1 : decide ((a0_0 : Int).toNat ≤ 35184372088832) = true := decide_eq_true c5
    clear c5
    obtain ⟨y128, hy128⟩ : ∃ y_ : List Int, y_ = (List.replicate (a0_0 : Int).toNat 0) := ⟨_, rfl⟩
    replace H : (spec_StressesOf.l0 k y128 0 a0_0 l0_1 a0_2) = some r := rh_ hy128 H
    have Ny128 := Aside0.mk hy128
    clear hy128
    have H' := Aside0.mk H
    clear H
    go_enter Try.func121, Try.ntmps121
    go_wp2_with (first | ((with_reducible refine gd_ 1 ?_); refine bx_ 1 #[.int .i64 a0_0, .slice A0_1 l0_1.length c0_1, .int .i64 a0_2] 90 ?_; intro gb123 hg w6 hbox hb; have BK123 := Aside0.mk (hbox); have GW123 := gw_ HB hg; have GE123 := gw_ HB hg; replace HB := bs_ HB hb; clear hb hbox hg; obtain ⟨hcz7_0, hcz7_1, hcz7_2⟩ := c3_ BK123; have hfz7_0 := blk_frozen BK123.out 0; have hfz7_1 := blk_frozen BK123.out 1; have hfz7_2 := blk_frozen BK123.out 2) | ((with_reducible refine gc_ 119 ?_); refine gl_ (some 6) Try.func119 (spec_IsFooting.calls k a0_0 _ _ l0_1 a0_2 true _ (Kd.C_below HR0_1.out (up_ HB.out)) HC0_1.out A2.out) ?_; rintro e w8 ⟨rfl, hb⟩; refine ⟨_, rfl, ?_⟩; replace BK123 := bb_ BK123 hb; replace HB := bs_ HB hb; (try clear hb); (try clear hb2); (try clear hk); (try clear hi); obtain ⟨hcz9_0, hcz9_1, hcz9_2⟩ := c3_ BK123; have hfz9_0 := blk_frozen BK123.out 0; have hfz9_1 := blk_frozen BK123.out 1; have hfz9_2 := blk_frozen BK123.out 2) | ((with_reducible refine gd_ 11 ?_); refine Kd.R_make (Kd.int .i64) _ 3 rfl (N := 11) rfl 25 _ _ rfl a0_0 rfl rfl Try.underlying25 (.int .i64 0) 8 info3 rfl (by decide) (by omega) 0 (ok := fun _ => True) (okp := fun _ => True) rfl (fun _ hk => hk) trivial (od_) (Nat.le_trans (Nat.mul_le_mul_right _ (od_ : a0_0.toNat ≤ 35184372088832)) (by omega)) (Below.refl _ _) (Nat.le_refl _) ?_; intro v129 w10 ho11 hb hg_ hnew_; clear hg_ hnew_; (first | rw [← Ny128.out] at ho11 | (simp only [Int.reduceToNat] at ho11; rw [← Ny128.out] at ho11)); have HO130 := Aside0.mk (Kd.R_lower ho11 (below_size (up_ HB.out))); replace BK123 := bb_ BK123 hb; replace HB := bs_ HB hb; clear hb ho11))
    go_loopg [4] k (fun kq v4 w' => ∃ (x3_1 : List Int) (x4_1 : Int), v4 = .int .i64 x4_1 ∧ Aside0 (spec_StressesOf.l0 kq x3_1 x4_1 a0_0 l0_1 a0_2 = some r) ∧ Aside0 (kq ≤ k) ∧ Aside0 (Kd.R (Kd.int .i64) 3 w' w.heap.size (fun _ => True) v129 x3_1) ∧ Aside0 (w'.heap[gb123]? = some (.cells #[.int .i64 a0_0, (.slice A0_1 l0_1.length c0_1), .int .i64 a0_2] 90 (0, 0))) ∧ Aside0 (Below w.heap.size w w'))
    case atStart => exact ⟨(y128), (0), rs_, H', ⟨Nat.le_refl _⟩, ⟨up_ HO130.out⟩, ⟨up_ BK123.out⟩, ⟨up_ HB.out⟩⟩
    case round =>
     clear H'
     try clear c1
     try clear p2
     try clear c3
     try clear c4
     try clear c4b0
     try clear c4b1
     try clear c5
     try clear c5b0
     try clear c5b1
     try clear c11
     try clear hcz7_0
     try clear hcz7_1
     try clear hcz7_2
     try clear hcz9_0
     try clear hcz9_1
     try clear hcz9_2
     try clear hfz7_0
     try clear hfz7_1
     try clear hfz7_2
     try clear hfz9_0
     try clear hfz9_1
     try clear hfz9_2
     obtain ⟨x3_1, x4_1, rfl, HA, HK1, HO_3, BK123, HB⟩ := hrel
     cases gk with
     | zero => exact absurd HA.out (by simp [spec_StressesOf.l0])
     | succ k1 =>
      have H := HA.out
      clear HA
      simp only [spec_StressesOf.l0] at H
      replace H := its_ H; rcases H with ⟨c12b0, H⟩ | ⟨c12b0, H⟩
      ·replace H := its_ H; rcases H with ⟨c13b0, H⟩ | ⟨_, ⟨⟩⟩
       obtain ⟨ji14, hji14⟩ : ∃ j_ : Int, (wrap64 (((rd_T166 l0_1 x4_1).f0) + ((rd_T166 l0_1 x4_1).f2))) = j_ := ⟨_, rfl⟩
       replace H : (if 0 ≤ (ji14) then (if (ji14) < (x3_1.length : Int) then ((some (x3_1.set ((ji14) : Int).toNat 1 : List Int)).bind fun y133 => (if x4_1 = a0_2 then (spec_StressesOf.l0 k1 (y133.set ((ji14) : Int).toNat 2) (wrap64 (x4_1 + 1)) a0_0 l0_1 a0_2) else (spec_StressesOf.l0 k1 y133 (wrap64 (x4_1 + 1)) a0_0 l0_1 a0_2))) else (none)) else (none)) = some r := by first | (rw [hji14] at H; exact H) | (simp only [hji14] at H ⊢; exact H)
       have hji14w : (IntKind.i64.wrap (((rd_T166 l0_1 x4_1).f0) + ((rd_T166 l0_1 x4_1).f2))) = ji14 := (i64_w _).trans hji14
       replace H := its_ H; rcases H with ⟨c15b0, H⟩ | ⟨_, ⟨⟩⟩
       replace H := its_ H; rcases H with ⟨c16b0, H⟩ | ⟨_, ⟨⟩⟩
       obtain ⟨y133, hy133⟩ : ∃ y_ : List Int, y_ = (x3_1.set ((ji14) : Int).toNat 1) := ⟨_, rfl⟩
       replace H : (if x4_1 = a0_2 then (spec_StressesOf.l0 k1 (y133.set ((ji14) : Int).toNat 2) (wrap64 (x4_1 + 1)) a0_0 l0_1 a0_2) else (spec_StressesOf.l0 k1 y133 (wrap64 (x4_1 + 1)) a0_0 l0_1 a0_2)) = some r := rh_ hy133 H
       have Ny133 := Aside0.mk hy133
       clear hy133
       replace H := ieq_ H; rcases H with ⟨-, c18b0, c18b1, H⟩ | ⟨c18, c18b0, c18b1, H⟩
       ·obtain ⟨y136, hy136⟩ : ∃ y_ : List Int, y_ = (y133.set ((ji14) : Int).toNat 2) := ⟨_, rfl⟩
        replace H : (spec_StressesOf.l0 k1 y136 (wrap64 (x4_1 + 1)) a0_0 l0_1 a0_2) = some r := rh_ hy136 H
        have Ny136 := Aside0.mk hy136
        clear hy136
        have H' := Aside0.mk H
        clear H
        obtain ⟨hcz20_0, hcz20_1, hcz20_2⟩ := c3_ BK123
        have hfz20_0 := blk_frozen BK123.out 0
        have hfz20_1 := blk_frozen BK123.out 1
        have hfz20_2 := blk_frozen BK123.out 2
        try go_wp2
        have n0_ := Aside0.mk (Kd.R_drew HO_3.out)
        have n1_ := Aside0.mk (blk_drew BK123.out)
        have n2_ := Aside0.mk (below_drew1 HB.out)
        clear HO_3
        clear BK123
        clear HB
        have HO_3 := n0_
        have BK123 := n1_
        have HB := n2_
        clear n0_ n1_ n2_
        have p131 : 0 ≤ (x4_1 : Int) := od_
        have q131 : x4_1 < (l0_1.length : Int) := od_
        obtain ⟨ad131, e131, hx131_0, hx131_1, hx131_2⟩ := at_T166 HR0_1.out x4_1 p131 q131
        have hw131_2 := hx131_2
        have hw131_1 := hx131_1
        have hw131_0 := hx131_0
        cases e131
        replace hx131_0 := bh_ HB hx131_0
        replace hx131_1 := bh_ HB hx131_1
        replace hx131_2 := bh_ HB hx131_2
        replace p131 := eq_true p131
        replace q131 := eq_true q131
        have p132 : 0 ≤ (x4_1 : Int) := od_
        have q132 : x4_1 < (l0_1.length : Int) := od_
        obtain ⟨ad132, e132, hx132_0, hx132_1, hx132_2⟩ := at_T166 HR0_1.out x4_1 p132 q132
        have hw132_2 := hx132_2
        have hw132_1 := hx132_1
        have hw132_0 := hx132_0
        obtain rfl : ad131 = ad132 := (by injection e132)
        replace hx132_0 := bh_ HB hx132_0
        replace hx132_1 := bh_ HB hx132_1
        replace hx132_2 := bh_ HB hx132_2
        replace p132 := eq_true p132
        replace q132 := eq_true q132
        have p17 : 0 ≤ ((ji14) : Int) := od_
        have q17 : ((ji14) : Int) < ((x3_1.length : Int) : Int) := od_
        obtain ⟨go17, co17, eo17, gb17, gl17, cl17, HG17⟩ := Kd.R_form HO_3.out (by omega)
        (first | cases eo17 | (injection eo17 with ea_ en_ ec_; (first | subst ea_ | (injection ea_ with ea_; subst ea_)); subst ec_; clear en_))
        have GB17 := Aside0.mk gb17
        have GG17 := Aside0.mk HG17
        clear gb17 gl17 HG17
        obtain ⟨hx17_0, hf17_0⟩ := Kd.R_celln 0 HO_3.out ((ji14) : Int) p17 q17
        replace p17 := eq_true p17
        replace q17 := eq_true q17
        have HP22 := Kd.R_putn HO_3.out ((ji14) : Int) 1
        rw [← Ny133.out] at HP22
        have HQ22 := Aside0.mk HP22
        clear HP22
        refine start_ (n := 16) (S := fun w' => w'.cell? ⟨gb123, 0, none⟩ = some (.int .i64 a0_0) ∧ w'.cell? ⟨gb123, 1, none⟩ = some (.slice (some ad131) l0_1.length c0_1) ∧ w'.cell? ⟨gb123, 2, none⟩ = some (.int .i64 a0_2) ∧ w'.cell? (ad131.add ((x4_1).toNat * 3)) = some (.int .i64 ((rd_T166 l0_1 x4_1).f0)) ∧ w'.cell? ⟨(ad131.add ((x4_1).toNat * 3)).block, (ad131.add ((x4_1).toNat * 3)).off + 1, none⟩ = some (.int .i64 ((rd_T166 l0_1 x4_1).f1)) ∧ w'.cell? ⟨(ad131.add ((x4_1).toNat * 3)).block, (ad131.add ((x4_1).toNat * 3)).off + 2, none⟩ = some (.int .i64 ((rd_T166 l0_1 x4_1).f2)) ∧ w'.cell? (ad131.add ((x4_1).toNat * 3)) = some (.int .i64 ((rd_T166 l0_1 x4_1).f0)) ∧ w'.cell? ⟨(ad131.add ((x4_1).toNat * 3)).block, (ad131.add ((x4_1).toNat * 3)).off + 1, none⟩ = some (.int .i64 ((rd_T166 l0_1 x4_1).f1)) ∧ w'.cell? ⟨(ad131.add ((x4_1).toNat * 3)).block, (ad131.add ((x4_1).toNat * 3)).off + 2, none⟩ = some (.int .i64 ((rd_T166 l0_1 x4_1).f2))) (ds := [15]) #[false, false, false, false, false, false, false, false, false, false, false, false, false, false, false, false] (by kernel_rfl) rfl rfl ⟨(blk_cell BK123.out 0).trans rfl, (blk_cell BK123.out 1).trans rfl, (blk_cell BK123.out 2).trans rfl, (bh_ HB hw131_0 :), (bh_ HB hw131_1 :), (bh_ HB hw131_2 :), (bh_ HB hw132_0 :), (bh_ HB hw132_1 :), (bh_ HB hw132_2 :)⟩ (fun hHeld => ?_); refine with_tabW spec_StressesOf.tab7 spec_StressesOf.bits7 (fun HT_ HW_ => ?_)
        generalize wr.drew = w21 at HO_3 BK123 HB GG17 HQ22 hf17_0 hx131_0 hx131_1 hx131_2 hx132_0 hx132_1 hx132_2 hx17_0 hHeld ⊢
        refine pu_ 0 (some 19) ?_
        refine pu_ 1 (some 20) ?_
        refine pu_ 3 (some 22) ?_
        refine pu_ 7 (some 26) ?_
        refine pu_ 9 (some 28) ?_
        refine tk_ 2 (some 21) hHeld ?_
        refine pu_ 4 (some 23) ?_
        refine pu_ 5 (some 24) ?_
        refine tk_ 6 (some 25) hHeld ?_
        refine tk_ 8 (some 27) hHeld ?_
        refine pu_ 10 (some 29) ?_
        refine pu_ 11 (some 30) ?_
        refine tk_ 12 (some 31) hHeld ?_
        refine pu_ 13 (some 32) ?_
        refine pu_ 14 (some 33) ?_
        refine last_ (i := 15) (N := none) #[true, true, true, true, true, true, true, true, true, true, true, true, true, true, true, true] rfl rfl (one_of HT_.out (by kernel_rfl)) (by decide) (fun K hK => ?_)
        refine skip_ (w1 := ?_) (by rfl) rfl ?_ ?_
        rotate_left
        ·go_simp
         rfl
        refine hK.out _ _ ?_
        clear hK K
        refine done_ (done_of HT_.out (by kernel_rfl)) ?_
        try have hnxgb123_ : gb123 ≠ go17 := fun e_ => (Kd.R_ne HO_3.out BK123.out (by decide)) (by rw [e_]; rfl)
        try have hmxgb123_ := Ne.symm hnxgb123_
        obtain ⟨hcz23_0, hcz23_1, hcz23_2⟩ := c3_ BK123
        have hfz23_0 := blk_frozen BK123.out 0
        have hfz23_1 := blk_frozen BK123.out 1
        have hfz23_2 := blk_frozen BK123.out 2
        try go_wp2
        have n0_ : Aside0 (Kd.R (Kd.int .i64) 3 (w21.setCell ⟨go17, ((ji14) : Int).toNat, none⟩ (.int .i64 1)) w.heap.size (fun _ => True) (.slice (some ⟨go17, 0, none⟩) x3_1.length co17) y133) := ⟨up_ HQ22.out⟩
        have n1_ : Aside0 ((w21.setCell ⟨go17, ((ji14) : Int).toNat, none⟩ (.int .i64 1)).heap[gb123]? = some (.cells #[.int .i64 a0_0, .slice (some ad131) l0_1.length c0_1, .int .i64 a0_2] 90 (0, 0))) := ⟨by (with_reducible repeat (first | refine blk_drewN ?_ _ | refine blk_drew ?_ | refine blk_alloc ?_ _)); refine blk_far ?_ (by have h_ := Kd.R_ne HO_3.out BK123.out (by decide); intro e_; exact h_ (by rw [e_]; rfl)) _; (with_reducible repeat (first | refine blk_drewN ?_ _ | refine blk_drew ?_ | refine blk_alloc ?_ _)); exact BK123.out⟩
        have n2_ : Aside0 (Below w.heap.size w (w21.setCell ⟨go17, ((ji14) : Int).toNat, none⟩ (.int .i64 1))) := ⟨up_ HB.out⟩
        (try clear HO_3)
        (try clear BK123)
        (try clear HB)
        generalize (w21.setCell ⟨go17, ((ji14) : Int).toNat, none⟩ (.int .i64 1)) = w24 at n0_ n1_ n2_ ⊢
        have HO_3 := n0_
        have BK123 := n1_
        have HB := n2_
        clear n0_ n1_ n2_
        have n0_ := Aside0.mk (Kd.R_drew HO_3.out)
        have n1_ := Aside0.mk (blk_drew BK123.out)
        have n2_ := Aside0.mk (below_drew1 HB.out)
        clear HO_3
        clear BK123
        clear HB
        have HO_3 := n0_
        have BK123 := n1_
        have HB := n2_
        clear n0_ n1_ n2_
        have p134 : 0 ≤ (x4_1 : Int) := od_
        have q134 : x4_1 < (l0_1.length : Int) := od_
        obtain ⟨ad134, e134, hx134_0, hx134_1, hx134_2⟩ := at_T166 HR0_1.out x4_1 p134 q134
        have hw134_2 := hx134_2
        have hw134_1 := hx134_1
        have hw134_0 := hx134_0
        obtain rfl : ad131 = ad134 := (by injection e134)
        replace hx134_0 := bh_ HB hx134_0
        replace hx134_1 := bh_ HB hx134_1
        replace hx134_2 := bh_ HB hx134_2
        replace p134 := eq_true p134
        replace q134 := eq_true q134
        have p135 : 0 ≤ (x4_1 : Int) := od_
        have q135 : x4_1 < (l0_1.length : Int) := od_
        obtain ⟨ad135, e135, hx135_0, hx135_1, hx135_2⟩ := at_T166 HR0_1.out x4_1 p135 q135
        have hw135_2 := hx135_2
        have hw135_1 := hx135_1
        have hw135_0 := hx135_0
        obtain rfl : ad131 = ad135 := (by injection e135)
        replace hx135_0 := bh_ HB hx135_0
        replace hx135_1 := bh_ HB hx135_1
        replace hx135_2 := bh_ HB hx135_2
        replace p135 := eq_true p135
        replace q135 := eq_true q135
        have p19 : 0 ≤ ((ji14) : Int) := od_
        have q19 : ((ji14) : Int) < ((x3_1.length : Int) : Int) := od_
        obtain ⟨hx19_0, hf19_0⟩ := Kd.R_celln 0 HO_3.out ((ji14) : Int) p19 q19
        replace p19 := eq_true p19
        replace q19 := eq_true q19
        have HP26 := Kd.R_putn HO_3.out ((ji14) : Int) 2
        rw [← Ny136.out] at HP26
        have HQ26 := Aside0.mk HP26
        clear HP26
        refine start_ (n := 16) (S := fun w' => w'.cell? ⟨gb123, 0, none⟩ = some (.int .i64 a0_0) ∧ w'.cell? ⟨gb123, 1, none⟩ = some (.slice (some ad131) l0_1.length c0_1) ∧ w'.cell? ⟨gb123, 2, none⟩ = some (.int .i64 a0_2) ∧ w'.cell? (ad131.add ((x4_1).toNat * 3)) = some (.int .i64 ((rd_T166 l0_1 x4_1).f0)) ∧ w'.cell? ⟨(ad131.add ((x4_1).toNat * 3)).block, (ad131.add ((x4_1).toNat * 3)).off + 1, none⟩ = some (.int .i64 ((rd_T166 l0_1 x4_1).f1)) ∧ w'.cell? ⟨(ad131.add ((x4_1).toNat * 3)).block, (ad131.add ((x4_1).toNat * 3)).off + 2, none⟩ = some (.int .i64 ((rd_T166 l0_1 x4_1).f2)) ∧ w'.cell? (ad131.add ((x4_1).toNat * 3)) = some (.int .i64 ((rd_T166 l0_1 x4_1).f0)) ∧ w'.cell? ⟨(ad131.add ((x4_1).toNat * 3)).block, (ad131.add ((x4_1).toNat * 3)).off + 1, none⟩ = some (.int .i64 ((rd_T166 l0_1 x4_1).f1)) ∧ w'.cell? ⟨(ad131.add ((x4_1).toNat * 3)).block, (ad131.add ((x4_1).toNat * 3)).off + 2, none⟩ = some (.int .i64 ((rd_T166 l0_1 x4_1).f2))) (ds := [15]) #[false, false, false, false, false, false, false, false, false, false, false, false, false, false, false, false] (by kernel_rfl) rfl rfl ⟨(blk_cell BK123.out 0).trans rfl, (blk_cell BK123.out 1).trans rfl, (blk_cell BK123.out 2).trans rfl, (bh_ HB hw134_0 :), (bh_ HB hw134_1 :), (bh_ HB hw134_2 :), (bh_ HB hw135_0 :), (bh_ HB hw135_1 :), (bh_ HB hw135_2 :)⟩ (fun hHeld => ?_); refine with_tabW spec_StressesOf.tab9 spec_StressesOf.bits9 (fun HT_ HW_ => ?_)
        generalize w24.drew = w25 at HO_3 BK123 HB HQ22 HQ26 hf19_0 hx134_0 hx134_1 hx134_2 hx135_0 hx135_1 hx135_2 hx19_0 hHeld ⊢
        refine pu_ 0 (some 38) ?_
        refine pu_ 1 (some 39) ?_
        refine pu_ 3 (some 41) ?_
        refine pu_ 7 (some 45) ?_
        refine pu_ 9 (some 47) ?_
        refine tk_ 2 (some 40) hHeld ?_
        refine pu_ 4 (some 42) ?_
        refine pu_ 5 (some 43) ?_
        refine tk_ 6 (some 44) hHeld ?_
        refine tk_ 8 (some 46) hHeld ?_
        refine pu_ 10 (some 48) ?_
        refine pu_ 11 (some 49) ?_
        refine tk_ 12 (some 50) hHeld ?_
        refine pu_ 13 (some 51) ?_
        refine pu_ 14 (some 52) ?_
        refine last_ (i := 15) (N := none) #[true, true, true, true, true, true, true, true, true, true, true, true, true, true, true, true] rfl rfl (one_of HT_.out (by kernel_rfl)) (by decide) (fun K hK => ?_)
        refine skip_ (w1 := ?_) (by rfl) rfl ?_ ?_
        rotate_left
        ·go_simp
         rfl
        refine hK.out _ _ ?_
        clear hK K
        refine done_ (done_of HT_.out (by kernel_rfl)) ?_
        try go_wp2
        go_roundg k1
        case measure => have := HK1.out; omega
        case rel => exact ⟨(y136), (wrap64 (x4_1 + 1)), rs_, H', ⟨by have := HK1.out; omega⟩, ⟨up_ HQ26.out⟩, ⟨by (with_reducible repeat (first | refine blk_drewN ?_ _ | refine blk_drew ?_ | refine blk_alloc ?_ _)); refine blk_far ?_ (by have h_ := Kd.R_ne HO_3.out BK123.out (by decide); intro e_; exact h_ (by rw [e_]; rfl)) _; (with_reducible repeat (first | refine blk_drewN ?_ _ | refine blk_drew ?_ | refine blk_alloc ?_ _)); exact BK123.out⟩, ⟨up_ HB.out⟩⟩
       ·have H' := Aside0.mk H
        clear H
        obtain ⟨hcz27_0, hcz27_1, hcz27_2⟩ := c3_ BK123
        have hfz27_0 := blk_frozen BK123.out 0
        have hfz27_1 := blk_frozen BK123.out 1
        have hfz27_2 := blk_frozen BK123.out 2
        try go_wp2
        have n0_ := Aside0.mk (Kd.R_drew HO_3.out)
        have n1_ := Aside0.mk (blk_drew BK123.out)
        have n2_ := Aside0.mk (below_drew1 HB.out)
        clear HO_3
        clear BK123
        clear HB
        have HO_3 := n0_
        have BK123 := n1_
        have HB := n2_
        clear n0_ n1_ n2_
        have p131 : 0 ≤ (x4_1 : Int) := od_
        have q131 : x4_1 < (l0_1.length : Int) := od_
        obtain ⟨ad131, e131, hx131_0, hx131_1, hx131_2⟩ := at_T166 HR0_1.out x4_1 p131 q131
        have hw131_2 := hx131_2
        have hw131_1 := hx131_1
        have hw131_0 := hx131_0
        cases e131
        replace hx131_0 := bh_ HB hx131_0
        replace hx131_1 := bh_ HB hx131_1
        replace hx131_2 := bh_ HB hx131_2
        replace p131 := eq_true p131
        replace q131 := eq_true q131
        have p132 : 0 ≤ (x4_1 : Int) := od_
        have q132 : x4_1 < (l0_1.length : Int) := od_
        obtain ⟨ad132, e132, hx132_0, hx132_1, hx132_2⟩ := at_T166 HR0_1.out x4_1 p132 q132
        have hw132_2 := hx132_2
        have hw132_1 := hx132_1
        have hw132_0 := hx132_0
        obtain rfl : ad131 = ad132 := (by injection e132)
        replace hx132_0 := bh_ HB hx132_0
        replace hx132_1 := bh_ HB hx132_1
        replace hx132_2 := bh_ HB hx132_2
        replace p132 := eq_true p132
        replace q132 := eq_true q132
        have p17 : 0 ≤ ((ji14) : Int) := od_
        have q17 : ((ji14) : Int) < ((x3_1.length : Int) : Int) := od_
        obtain ⟨go17, co17, eo17, gb17, gl17, cl17, HG17⟩ := Kd.R_form HO_3.out (by omega)
        (first | cases eo17 | (injection eo17 with ea_ en_ ec_; (first | subst ea_ | (injection ea_ with ea_; subst ea_)); subst ec_; clear en_))
        have GB17 := Aside0.mk gb17
        have GG17 := Aside0.mk HG17
        clear gb17 gl17 HG17
        obtain ⟨hx17_0, hf17_0⟩ := Kd.R_celln 0 HO_3.out ((ji14) : Int) p17 q17
        replace p17 := eq_true p17
        replace q17 := eq_true q17
        have HP29 := Kd.R_putn HO_3.out ((ji14) : Int) 1
        rw [← Ny133.out] at HP29
        have HQ29 := Aside0.mk HP29
        clear HP29
        refine start_ (n := 16) (S := fun w' => w'.cell? ⟨gb123, 0, none⟩ = some (.int .i64 a0_0) ∧ w'.cell? ⟨gb123, 1, none⟩ = some (.slice (some ad131) l0_1.length c0_1) ∧ w'.cell? ⟨gb123, 2, none⟩ = some (.int .i64 a0_2) ∧ w'.cell? (ad131.add ((x4_1).toNat * 3)) = some (.int .i64 ((rd_T166 l0_1 x4_1).f0)) ∧ w'.cell? ⟨(ad131.add ((x4_1).toNat * 3)).block, (ad131.add ((x4_1).toNat * 3)).off + 1, none⟩ = some (.int .i64 ((rd_T166 l0_1 x4_1).f1)) ∧ w'.cell? ⟨(ad131.add ((x4_1).toNat * 3)).block, (ad131.add ((x4_1).toNat * 3)).off + 2, none⟩ = some (.int .i64 ((rd_T166 l0_1 x4_1).f2)) ∧ w'.cell? (ad131.add ((x4_1).toNat * 3)) = some (.int .i64 ((rd_T166 l0_1 x4_1).f0)) ∧ w'.cell? ⟨(ad131.add ((x4_1).toNat * 3)).block, (ad131.add ((x4_1).toNat * 3)).off + 1, none⟩ = some (.int .i64 ((rd_T166 l0_1 x4_1).f1)) ∧ w'.cell? ⟨(ad131.add ((x4_1).toNat * 3)).block, (ad131.add ((x4_1).toNat * 3)).off + 2, none⟩ = some (.int .i64 ((rd_T166 l0_1 x4_1).f2))) (ds := [15]) #[false, false, false, false, false, false, false, false, false, false, false, false, false, false, false, false] (by kernel_rfl) rfl rfl ⟨(blk_cell BK123.out 0).trans rfl, (blk_cell BK123.out 1).trans rfl, (blk_cell BK123.out 2).trans rfl, (bh_ HB hw131_0 :), (bh_ HB hw131_1 :), (bh_ HB hw131_2 :), (bh_ HB hw132_0 :), (bh_ HB hw132_1 :), (bh_ HB hw132_2 :)⟩ (fun hHeld => ?_); refine with_tabW spec_StressesOf.tab7 spec_StressesOf.bits7 (fun HT_ HW_ => ?_)
        generalize wr.drew = w28 at HO_3 BK123 HB GG17 HQ29 hf17_0 hx131_0 hx131_1 hx131_2 hx132_0 hx132_1 hx132_2 hx17_0 hHeld ⊢
        refine pu_ 0 (some 19) ?_
        refine pu_ 1 (some 20) ?_
        refine pu_ 3 (some 22) ?_
        refine pu_ 7 (some 26) ?_
        refine pu_ 9 (some 28) ?_
        refine tk_ 2 (some 21) hHeld ?_
        refine pu_ 4 (some 23) ?_
        refine pu_ 5 (some 24) ?_
        refine tk_ 6 (some 25) hHeld ?_
        refine tk_ 8 (some 27) hHeld ?_
        refine pu_ 10 (some 29) ?_
        refine pu_ 11 (some 30) ?_
        refine tk_ 12 (some 31) hHeld ?_
        refine pu_ 13 (some 32) ?_
        refine pu_ 14 (some 33) ?_
        refine last_ (i := 15) (N := none) #[true, true, true, true, true, true, true, true, true, true, true, true, true, true, true, true] rfl rfl (one_of HT_.out (by kernel_rfl)) (by decide) (fun K hK => ?_)
        refine skip_ (w1 := ?_) (by rfl) rfl ?_ ?_
        rotate_left
        ·go_simp
         rfl
        refine hK.out _ _ ?_
        clear hK K
        refine done_ (done_of HT_.out (by kernel_rfl)) ?_
        try have hnxgb123_ : gb123 ≠ go17 := fun e_ => (Kd.R_ne HO_3.out BK123.out (by decide)) (by rw [e_]; rfl)
        try have hmxgb123_ := Ne.symm hnxgb123_
        obtain ⟨hcz30_0, hcz30_1, hcz30_2⟩ := c3_ BK123
        have hfz30_0 := blk_frozen BK123.out 0
        have hfz30_1 := blk_frozen BK123.out 1
        have hfz30_2 := blk_frozen BK123.out 2
        try go_wp2
        go_roundg k1
        case measure => have := HK1.out; omega
        case rel => exact ⟨(y133), (wrap64 (x4_1 + 1)), rs_, H', ⟨by have := HK1.out; omega⟩, ⟨up_ HQ29.out⟩, ⟨by (with_reducible repeat (first | refine blk_drewN ?_ _ | refine blk_drew ?_ | refine blk_alloc ?_ _)); refine blk_far ?_ (by have h_ := Kd.R_ne HO_3.out BK123.out (by decide); intro e_; exact h_ (by rw [e_]; rfl)) _; (with_reducible repeat (first | refine blk_drewN ?_ _ | refine blk_drew ?_ | refine blk_alloc ?_ _)); exact BK123.out⟩, ⟨up_ HB.out⟩⟩
      ·obtain rfl := Option.some.inj H
       obtain ⟨hcz31_0, hcz31_1, hcz31_2⟩ := c3_ BK123
       have hfz31_0 := blk_frozen BK123.out 0
       have hfz31_1 := blk_frozen BK123.out 1
       have hfz31_2 := blk_frozen BK123.out 2
       go_wp2
       go_ret
       exact ⟨_, re_, by (with_reducible repeat (first | apply Kd.R_alloc | apply Kd.R_drewN | apply Kd.R_drew)); exact HO_3.out, up_ HB.out⟩
   ·rw [if_neg c5] at H
    exact absurd H (by simp)
  ·rw [if_neg c4] at H
   exact absurd H (by simp)
 ·obtain ⟨y125, hy125⟩ : ∃ y_ : List Int, y_ = (([] : List Int)) := ⟨_, rfl⟩
  replace H : (some y125) = some r := rh_ hy125 H
  have Ny125 := Aside0.mk hy125
  clear hy125
  obtain rfl := Option.some.inj H
  go_enter Try.func121, Try.ntmps121
  go_wp2_with (first | ((with_reducible refine gd_ 1 ?_); refine bx_ 1 #[.int .i64 a0_0, .slice A0_1 l0_1.length c0_1, .int .i64 a0_2] 90 ?_; intro gb123 hg w32 hbox hb; have BK123 := Aside0.mk (hbox); have GW123 := gw_ HB hg; have GE123 := gw_ HB hg; replace HB := bs_ HB hb; clear hb hbox hg; obtain ⟨hcz33_0, hcz33_1, hcz33_2⟩ := c3_ BK123; have hfz33_0 := blk_frozen BK123.out 0; have hfz33_1 := blk_frozen BK123.out 1; have hfz33_2 := blk_frozen BK123.out 2) | ((with_reducible refine gc_ 119 ?_); refine gl_ (some 6) Try.func119 (spec_IsFooting.calls k a0_0 _ _ l0_1 a0_2 false _ (Kd.C_below HR0_1.out (up_ HB.out)) HC0_1.out A2.out) ?_; rintro e w34 ⟨rfl, hb⟩; refine ⟨_, rfl, ?_⟩; replace BK123 := bb_ BK123 hb; replace HB := bs_ HB hb; (try clear hb); (try clear hb2); (try clear hk); (try clear hi)) | ((with_reducible refine gd_ 8 ?_); refine Kd.R_lit (Kd.int .i64) _ 3 ?hg (N := 8) ?hd (xs := ([] : List Int)) (inner := []) (ok := fun _ => True) (okp := fun _ => True) ?hr ?hp (fun _ hk => hk) trivial (Below.refl _ _) (Nat.le_refl _) (by simp) ?_; (case hd => rfl); (case hg => rfl); (case hr => first | (go_simp; done) | (go_simp; rfl)); (case hp => exact (Reps.none _ _)); intro v126 w35 ho36 hb hg_ hnew_; clear hg_ hnew_; (first | rw [← Ny125.out] at ho36 | (simp only [Int.reduceToNat] at ho36; rw [← Ny125.out] at ho36)); have HO127 := Aside0.mk (Kd.R_lower ho36 (below_size (up_ HB.out))); replace BK123 := bb_ BK123 hb; replace HB := bs_ HB hb; clear hb ho36))
  go_ret
  exact ⟨_, re_, by (with_reducible repeat (first | apply Kd.R_alloc | apply Kd.R_drewN | apply Kd.R_drew)); exact HO127.out, up_ HB.out⟩

end Go.Proofs.Ytkddpilambnicaa.PFnExactFootRows
