/- Walks of Go functions that the law FnExactHearAll uses: written by this session's program out of the kit's printer; each shows that a call comes to the answers of the Lean function beside it. Conditions: each contract's own. -/
import Derived.Test.YtkddpilambnicaaPFnExactHearAllx0
namespace Go.Proofs.Ytkddpilambnicaa.PFnExactHearAll
open Go.RowKit Go.Proofs.YtkddpilambnicaaW.PrintWords Go.Proofs.YtkddpilambnicaaW.PrintLast Go.Proofs.YtkddpilambnicaaW.PrintMore Go.Proofs.Ytkddpilambnicaa.Mac Go.Proofs.Ytkddpilambnicaa.Law
attribute [local go_sem] max2_int min2_int max_two min_two max_three min_three max_four min_four   -- for this text's walks alone
set_option linter.unusedVariables false
set_option linter.unusedSimpArgs false

/-! ### spec_l22Copy: function 76 -/
def spec_l22Copy.l0 : Nat → Int → Int → List (List Int) → Int → Int → List (List Int) → Int → Option (Int × (List (List Int)) × Int)
 | 0, _, _, _, _, _, _, _ => none
 | k + 1, x4, x143000, x143001, x143002, x145000, x145001, x145002 => if x4 < (x143001.length : Int) then ((some (([] : List Int) : List Int)).bind fun y145 => (if 0 ≤ x4 then (if y145.length + (rd_L1 x143001 x4).length < 17592186044416 then (if x145001.length < 5864062014805 then (spec_l22Copy.l0 k (wrap64 (x4 + 1)) x143000 x143001 x143002 x145000 (x145001 ++ [(y145 ++ (rd_L1 x143001 x4))]) x145002) else (none)) else (none)) else (none))) else (some (x145000, x145001, x145002))
def spec_l22Copy.f (k : Nat) (a0_0 : Int) (l0_1 : List (List Int)) (a0_2 : Int) : Option (Int × (List (List Int)) × Int) := spec_l22Copy.l0 k 0 a0_0 l0_1 a0_2 a0_0 ([] : List (List Int)) a0_2
def spec_l22Copy.T5 : Bool × List (List Nat × List Nat) := (true, [([], []), ([0], [0]), ([], []), ([], []), ([3], [3]), ([], []), ([4, 5], [4, 5]), ([6], [6]), ([2, 7], [2, 7]), ([8], [8]), ([1, 9, 8], [1, 9]), ([0, 1, 2, 3, 4, 5, 6, 7, 8, 9, 10], []), ([11, 10, 10, 0, 1, 2, 3, 4, 5, 6, 7, 8, 9, 10], [10, 11])])
def spec_l22Copy.B5 : List Nat := [0, 1, 0, 0, 8, 0, 56, 120, 252, 508, 1023, 2047, 4095]
theorem spec_l22Copy.tab5 : rtab .any (opsOf Try.f76 5) = spec_l22Copy.T5 := by kernel_rfl
theorem spec_l22Copy.bits5 : waitsOk spec_l22Copy.T5.2 spec_l22Copy.B5 = true := by kernel_rfl
set_option maxHeartbeats 8000000 in
set_option maxRecDepth 100000 in
theorem spec_l22Copy.calls (k : Nat) (a0_0 : Int) (A0_1 : Option Addr) (c0_1 : Nat) (l0_1 : List (List Int)) (a0_2 : Int) (r1 : Int) (r2 : List (List Int)) (r3 : Int) (w : World) (hr0_1 : Kd.C (Kd.slice 3 (Kd.int .i64)) w A0_1 l0_1.length l0_1) (hc0_1 : l0_1.length ≤ c0_1) (h : spec_l22Copy.f k a0_0 l0_1 a0_2 = some (r1, r2, r3)) :
  Calls Try.prog 76 #[.agg #[.int .i64 a0_0, .slice A0_1 l0_1.length c0_1, .int .i64 a0_2]] w fun e w' => ∃ v1_ : Value, e = .returned (.agg #[.int .i64 r1, v1_, .int .i64 r3]) ∧ Kd.S (Kd.slice 3 (Kd.int .i64)) 25 w' w.heap.size (fun _ => True) v1_ r2 ∧ Below w.heap.size w w' := by
 have hu30 := Try.underlying30
 have HR0_1 := Aside0.mk hr0_1
 have HC0_1 := Aside0.mk hc0_1
 clear hr0_1 hc0_1
 have HB := Aside0.mk (Below.refl w.heap.size w)
 have H : (spec_l22Copy.l0 k 0 a0_0 l0_1 a0_2 a0_0 ([] : List (List Int)) a0_2) = some (r1, r2, r3) := h
 clear h
 have H' := Aside0.mk H
 clear H
 go_enter Try.func76, Try.ntmps76
 go_wp2_with (first | ((refine gd_ 1 ?_); refine bx_ 1 #[.int .i64 a0_0, .slice A0_1 l0_1.length c0_1, .int .i64 a0_2] 30 ?_; intro gb142 hg w2 hbox hb; have BK142 := Aside0.mk (hbox); have GW142 := gw_ HB hg; have GE142 := gw_ HB hg; replace HB := bs_ HB hb; clear hb hbox hg) | ((refine gd_ 2 ?_); refine bx_ 2 #[.int .i64 0, .slice none 0 0, .int .i64 0] 30 ?_; intro gb143 hg w3 hbox hb; have BK143 := Aside0.mk (hbox); have GW143 := gw_ HB hg; have GE143 := gw_ HB hg; replace HB := bs_ HB hb; have NB142_143 := Aside0.mk ((by rw [hg]; exact Nat.ne_of_lt (blk_lt (g := gb142) (o := .cells #[.int .i64 a0_0, .slice A0_1 l0_1.length c0_1, .int .i64 a0_2] 30 (0, 0)) (up_ BK142.out)) : gb142 ≠ gb143)); have NB143_142 := Aside0.mk ((by rw [hg]; exact Nat.ne_of_gt (blk_lt (g := gb142) (o := .cells #[.int .i64 a0_0, .slice A0_1 l0_1.length c0_1, .int .i64 a0_2] 30 (0, 0)) (up_ BK142.out)) : gb143 ≠ gb142)); replace BK142 := bb_ BK142 hb; clear hb hbox hg; have hnb4 := NB142_143.out; have hnc4 := NB143_142.out; obtain ⟨hcz5_0, hcz5_1, hcz5_2⟩ := c3_ BK142; have hfz5_0 := blk_frozen BK142.out 0; have hfz5_1 := blk_frozen BK142.out 1; have hfz5_2 := blk_frozen BK142.out 2) | ((refine gd_ 3 ?_); refine bx_ 3 #[.int .i64 0, .slice none 0 0, .int .i64 0] 30 ?_; intro gb144 hg w6 hbox hb; have BK144 := Aside0.mk (hbox); have GW144 := gw_ HB hg; have GE144 := gw_ HB hg; replace HB := bs_ HB hb; have NB142_144 := Aside0.mk ((by rw [hg]; exact Nat.ne_of_lt (blk_lt (g := gb142) (o := .cells #[.int .i64 a0_0, .slice A0_1 l0_1.length c0_1, .int .i64 a0_2] 30 (0, 0)) (up_ BK142.out)) : gb142 ≠ gb144)); have NB144_142 := Aside0.mk ((by rw [hg]; exact Nat.ne_of_gt (blk_lt (g := gb142) (o := .cells #[.int .i64 a0_0, .slice A0_1 l0_1.length c0_1, .int .i64 a0_2] 30 (0, 0)) (up_ BK142.out)) : gb144 ≠ gb142)); replace BK142 := bb_ BK142 hb; have NB143_144 := Aside0.mk ((by rw [hg]; exact Nat.ne_of_lt (blk_lt (g := gb143) (o := .cells #[.int .i64 0, .slice none 0 0, .int .i64 0] 30 (0, 0)) (up_ BK143.out)) : gb143 ≠ gb144)); have NB144_143 := Aside0.mk ((by rw [hg]; exact Nat.ne_of_gt (blk_lt (g := gb143) (o := .cells #[.int .i64 0, .slice none 0 0, .int .i64 0] 30 (0, 0)) (up_ BK143.out)) : gb144 ≠ gb143)); replace BK143 := bb_ BK143 hb; clear hb hbox hg; have hnb7 := NB144_142.out; have hnc7 := NB142_144.out; have hnb8 := NB144_143.out; have hnc8 := NB143_144.out; obtain ⟨hcz9_0, hcz9_1, hcz9_2⟩ := c3_ BK144; have hfz9_0 := blk_frozen BK144.out 0; have hfz9_1 := blk_frozen BK144.out 1; have hfz9_2 := blk_frozen BK144.out 2))
 go_loopg [4] k (fun kq v4 w' => ∃ (x4_1 : Int) (x145001_1 : List (List Int)) (u145001 : Value), v4 = .int .i64 x4_1 ∧ Aside0 (spec_l22Copy.l0 kq x4_1 a0_0 l0_1 a0_2 a0_0 x145001_1 a0_2 = some (r1, r2, r3)) ∧ Aside0 (kq ≤ k) ∧ Aside0 (Kd.S (Kd.slice 3 (Kd.int .i64)) 25 w' w.heap.size (fun _ => True) u145001 x145001_1) ∧ Aside0 (w'.heap[gb142]? = some (.cells #[.int .i64 a0_0, (.slice A0_1 l0_1.length c0_1), .int .i64 a0_2] 30 (0, 0))) ∧ Aside0 (w'.heap[gb143]? = some (.cells #[.int .i64 0, (.slice none 0 0), .int .i64 0] 30 (0, 0))) ∧ Aside0 (w'.heap[gb144]? = some (.cells #[.int .i64 a0_0, u145001, .int .i64 a0_2] 30 (0, 0))) ∧ Aside0 (Below w.heap.size w w'))
 case atStart => exact ⟨(0), (([] : List (List Int))), (.slice none 0 0), rs_, H', ⟨Nat.le_refl _⟩, ⟨by first | exact Kd.S_nil _ _ _ _ _ | exact Kd.N_nil _ _ _ _ _ | exact Kd.V_nil _ _ _ _ _ | exact Kd.Q_nil _ _ _ _ _ | exact Kd.R_nil _ _ _ _ _⟩, ⟨by (with_reducible repeat (first | refine blk_drewN ?_ _ | refine blk_drew ?_ | refine blk_alloc ?_ _)); refine blk_far ?_ NB142_144.out _; (with_reducible repeat (first | refine blk_drewN ?_ _ | refine blk_drew ?_ | refine blk_alloc ?_ _)); refine blk_far ?_ NB142_144.out _; (with_reducible repeat (first | refine blk_drewN ?_ _ | refine blk_drew ?_ | refine blk_alloc ?_ _)); refine blk_far ?_ NB142_144.out _; (with_reducible repeat (first | refine blk_drewN ?_ _ | refine blk_drew ?_ | refine blk_alloc ?_ _)); exact BK142.out⟩, ⟨by (with_reducible repeat (first | refine blk_drewN ?_ _ | refine blk_drew ?_ | refine blk_alloc ?_ _)); refine blk_far ?_ NB143_144.out _; (with_reducible repeat (first | refine blk_drewN ?_ _ | refine blk_drew ?_ | refine blk_alloc ?_ _)); refine blk_far ?_ NB143_144.out _; (with_reducible repeat (first | refine blk_drewN ?_ _ | refine blk_drew ?_ | refine blk_alloc ?_ _)); refine blk_far ?_ NB143_144.out _; (with_reducible repeat (first | refine blk_drewN ?_ _ | refine blk_drew ?_ | refine blk_alloc ?_ _)); exact BK143.out⟩, ⟨by (with_reducible repeat (first | refine blk_drewN ?_ _ | refine blk_drew ?_ | refine blk_alloc ?_ _)); refine blk_put (cs := #[.int .i64 a0_0, .slice none 0 0, .int .i64 0]) ?_ 2 _ rfl; (with_reducible repeat (first | refine blk_drewN ?_ _ | refine blk_drew ?_ | refine blk_alloc ?_ _)); refine blk_put (cs := #[.int .i64 a0_0, .slice none 0 0, .int .i64 0]) ?_ 1 _ rfl; (with_reducible repeat (first | refine blk_drewN ?_ _ | refine blk_drew ?_ | refine blk_alloc ?_ _)); refine blk_put (cs := #[.int .i64 0, .slice none 0 0, .int .i64 0]) ?_ 0 _ rfl; (with_reducible repeat (first | refine blk_drewN ?_ _ | refine blk_drew ?_ | refine blk_alloc ?_ _)); exact BK144.out⟩, ⟨up_ HB.out⟩⟩
 case round =>
  clear H'
  try clear p2
  try clear c4
  try clear c7
  try clear c8
  try clear hcz5_0
  try clear hcz5_1
  try clear hcz5_2
  try clear hcz9_0
  try clear hcz9_1
  try clear hcz9_2
  try clear hfz5_0
  try clear hfz5_1
  try clear hfz5_2
  try clear hfz9_0
  try clear hfz9_1
  try clear hfz9_2
  obtain ⟨x4_1, x145001_1, u145001, rfl, HA, HK1, HO_145001, BK142, BK143, BK144, HB⟩ := hrel
  cases gk with
  | zero => exact absurd HA.out (by simp [spec_l22Copy.l0])
  | succ k1 =>
   have H := HA.out
   clear HA
   simp only [spec_l22Copy.l0] at H
   replace H := its_ H; rcases H with ⟨c10b0, H⟩ | ⟨c10b0, H⟩
   ·obtain ⟨y145, hy145⟩ : ∃ y_ : List Int, y_ = (([] : List Int)) := ⟨_, rfl⟩
    replace H : (if 0 ≤ x4_1 then (if y145.length + (rd_L1 l0_1 x4_1).length < 17592186044416 then (if x145001_1.length < 5864062014805 then (spec_l22Copy.l0 k1 (wrap64 (x4_1 + 1)) a0_0 l0_1 a0_2 a0_0 (x145001_1 ++ [(y145 ++ (rd_L1 l0_1 x4_1))]) a0_2) else (none)) else (none)) else (none)) = some (r1, r2, r3) := rh_ hy145 H
    have Ny145 := Aside0.mk hy145
    clear hy145
    replace H := its_ H; rcases H with ⟨c11b0, H⟩ | ⟨_, ⟨⟩⟩
    by_cases c12 : y145.length + (rd_L1 l0_1 x4_1).length < 17592186044416
    ·rw [if_pos c12] at H
     have LMc12 := Aside0.mk c12
     clear c12
     obtain ⟨y149, hy149⟩ : ∃ y_ : List Int, y_ = (y145 ++ (rd_L1 l0_1 x4_1)) := ⟨_, rfl⟩
     replace H : (if x145001_1.length < 5864062014805 then (spec_l22Copy.l0 k1 (wrap64 (x4_1 + 1)) a0_0 l0_1 a0_2 a0_0 (x145001_1 ++ [y149]) a0_2) else (none)) = some (r1, r2, r3) := rh_ hy149 H
     have Ny149 := Aside0.mk hy149
     clear hy149
     by_cases c13 : x145001_1.length < 5864062014805
     ·rw [if_pos c13] at H
      have LMc13 := Aside0.mk c13
      clear c13
      obtain ⟨y152, hy152⟩ : ∃ y_ : List (List Int), y_ = (x145001_1 ++ [y149]) := ⟨_, rfl⟩
      replace H : (spec_l22Copy.l0 k1 (wrap64 (x4_1 + 1)) a0_0 l0_1 a0_2 a0_0 y152 a0_2) = some (r1, r2, r3) := rh_ hy152 H
      have Ny152 := Aside0.mk hy152
      clear hy152
      have H' := Aside0.mk H
      clear H
      have hnb14 := NB142_143.out
      have hnc14 := NB143_142.out
      have hnb15 := NB142_144.out
      have hnc15 := NB144_142.out
      obtain ⟨hcz16_0, hcz16_1, hcz16_2⟩ := c3_ BK142
      have hfz16_0 := blk_frozen BK142.out 0
      have hfz16_1 := blk_frozen BK142.out 1
      have hfz16_2 := blk_frozen BK142.out 2
      try go_wp2
      have n0_ := Aside0.mk (Kd.S_drew HO_145001.out)
      have n1_ := Aside0.mk (blk_drew BK142.out)
      have n2_ := Aside0.mk (blk_drew BK143.out)
      have n3_ := Aside0.mk (blk_drew BK144.out)
      have n4_ := Aside0.mk (below_drew1 HB.out)
      clear HO_145001
      clear BK142
      clear BK143
      clear BK144
      clear HB
      have HO_145001 := n0_
      have BK142 := n1_
      have BK143 := n2_
      have BK144 := n3_
      have HB := n4_
      clear n0_ n1_ n2_ n3_ n4_
      have p148 : 0 ≤ (x4_1 : Int) := od_
      have q148 : x4_1 < (l0_1.length : Int) := od_
      obtain ⟨ad148, A148_0, c148_0, e148, hx148_0, hl148_0, hi148_0⟩ := at_L1 HR0_1.out x4_1 p148 q148
      have hw148_0 := hx148_0
      cases e148
      replace hx148_0 := bh_ HB hx148_0
      have HR148_0 := Aside0.mk hi148_0
      have HC148_0 := Aside0.mk hl148_0
      clear hi148_0 hl148_0
      replace p148 := eq_true p148
      replace q148 := eq_true q148
      refine start_ (n := 13) (S := fun w' => w'.cell? ⟨gb144, 0, none⟩ = some (.int .i64 a0_0) ∧ w'.cell? ⟨gb144, 1, none⟩ = some (u145001) ∧ w'.cell? ⟨gb144, 2, none⟩ = some (.int .i64 a0_2) ∧ w'.cell? ⟨gb142, 0, none⟩ = some (.int .i64 a0_0) ∧ w'.cell? ⟨gb142, 1, none⟩ = some (.slice (some ad148) l0_1.length c0_1) ∧ w'.cell? ⟨gb142, 2, none⟩ = some (.int .i64 a0_2) ∧ w'.cell? (ad148.add (x4_1).toNat) = some (.slice A148_0 (rd_L1 l0_1 x4_1).length c148_0)) (ds := [12]) #[false, false, false, false, false, false, false, false, false, false, false, false, false] (by kernel_rfl) rfl rfl ⟨(blk_cell BK144.out 0).trans rfl, (blk_cell BK144.out 1).trans rfl, (blk_cell BK144.out 2).trans rfl, (blk_cell BK142.out 0).trans rfl, (blk_cell BK142.out 1).trans rfl, (blk_cell BK142.out 2).trans rfl, (bh_ HB hw148_0 :)⟩ (fun hHeld => ?_); refine with_tabW spec_l22Copy.tab5 spec_l22Copy.bits5 (fun HT_ HW_ => ?_)
      generalize wr.drew = w17 at HO_145001 BK142 BK143 BK144 HB HR148_0 hx148_0 hHeld ⊢
      refine pu_ 0 (some 17) ?_
      refine pu_ 3 (some 20) ?_
      refine pu_ 5 (some 22) ?_
      refine tk_ 1 (some 18) hHeld ?_
      refine tk_ 4 (some 21) hHeld ?_
      refine pu_ 6 (some 23) ?_
      refine tk_ 7 (some 24) hHeld ?_
      refine one_ (i := 2) (N := some 19) #[true, true, true, true, true, true, true, true, false, false, false, false, false] rfl rfl (one_of HT_.out (by kernel_rfl)) (by decide) (fun K hK => ?_)
      refine Kd.R_lit_step (Kd.int .i64) _ 3 ?hg (N := 19) ?hd (xs := ([] : List Int)) (inner := []) (ok := fun _ => True) (okp := fun _ => True) ?hr ?hp (fun _ hk => hk) trivial (Below.refl _ _) (Nat.le_refl _) (by simp) ?_; (case hd => rfl); (case hg => rfl); (case hr => first | (go_simp; done) | (go_simp; rfl)); (case hp => exact (Reps.none _ _))
      intro v146 w18 ho19 hb hg_ hnew_
      clear hg_ hnew_
      (first | rw [← Ny145.out] at ho19 | (simp only [Int.reduceToNat] at ho19; rw [← Ny145.out] at ho19))
      have n0_ := Aside0.mk (Kd.S_elder' (up_ HO_145001.out) (Kd.R_base ho19) hb)
      have n1_ := Aside0.mk (Kd.R_lower ho19 (below_size (up_ HB.out)))
      have n2_ := bb_ BK142 hb
      have n3_ := bb_ BK143 hb
      have n4_ := bb_ BK144 hb
      have n5_ := bs_ HB hb
      clear HO_145001
      clear BK142
      clear BK143
      clear BK144
      clear HB
      have HO_145001 := n0_
      have HO147 := n1_
      have BK142 := n2_
      have BK143 := n3_
      have BK144 := n4_
      have HB := n5_
      clear n0_ n1_ n2_ n3_ n4_ n5_
      clear hb ho19
      refine hK.out _ _ ⟨(blk_cell BK144.out 0).trans rfl, (blk_cell BK144.out 1).trans rfl, (blk_cell BK144.out 2).trans rfl, (blk_cell BK142.out 0).trans rfl, (blk_cell BK142.out 1).trans rfl, (blk_cell BK142.out 2).trans rfl, (bh_ HB hw148_0 :)⟩ (fun hHeld => ?_)
      clear hK K
      refine nm_ ?_
      refine one_ (i := 8) (N := some 25) #[true, true, true, true, true, true, true, true, true, false, false, false, false] rfl rfl (one_of HT_.out (by kernel_rfl)) (by decide) (fun K hK => ?_)
      refine Kd.R_append_rows_step (Kd.int .i64) (w0 := w) w.heap.size (by rfl) (.tmp 19) (.tmp 24) 25 3 (.int .i64 0) 8 rfl Try.underlying25 info3 rfl (by decide) (by omega) v146 y145 (rd_L1 l0_1 x4_1) _ _ _ (fun _ => True) (fun _ => False) rfl rfl ?aO ?aR (fun _ _ h => h) (fun _ h => h.elim) ?aF ?aB ?aS ?aL ?_
      (case aR => exact Kd.C_below HR148_0.out (up_ HB.out))
      (case aB => exact (up_ HB.out))
      (case aF => exact (fun _ _ => trivial))
      (case aO => exact (up_ HO147.out))
      (case aS => exact (below_size (up_ HB.out)))
      (case aL => have := LMc12.out; omega)
      intro v150 w20 ho hb hg hat
      rw [← Ny149.out] at ho
      have n0_ := Aside0.mk (Kd.S_after (ok := (fun _ => True)) (up_ HO_145001.out) hg hat)
      have n1_ := Aside0.mk (blk_grown (g := gb142) (o := .cells #[.int .i64 a0_0, .slice (some ad148) l0_1.length c0_1, .int .i64 a0_2] 30 (0, 0)) (up_ BK142.out) hg (Kd.R_ne HO147.out BK142.out (by decide)))
      have n2_ := Aside0.mk (blk_grown (g := gb143) (o := .cells #[.int .i64 0, .slice none 0 0, .int .i64 0] 30 (0, 0)) (up_ BK143.out) hg (Kd.R_ne HO147.out BK143.out (by decide)))
      have n3_ := Aside0.mk (blk_grown (g := gb144) (o := .cells #[.int .i64 a0_0, u145001, .int .i64 a0_2] 30 (0, 0)) (up_ BK144.out) hg (Kd.R_ne HO147.out BK144.out (by decide)))
      have n4_ := Aside0.mk (hb)
      have n5_ := Aside0.mk (ho)
      clear HO_145001
      clear BK142
      clear BK143
      clear BK144
      clear HB
      clear HO147
      have HO_145001 := n0_
      have BK142 := n1_
      have BK143 := n2_
      have BK144 := n3_
      have HB := n4_
      have HO151 := n5_
      clear n0_ n1_ n2_ n3_ n4_ n5_
      clear ho hb hg hat
      obtain ⟨Ao22, co22, eo22⟩ := Kd.R_slice HO151.out
      (first | subst eo22 | (injection eo22 with f1_ f2_ f3_; have f4_ := f1_.symm; have f5_ := f3_.symm; clear f1_ f2_ f3_; subst f4_; subst f5_))
      refine hK.out _ _ ⟨(blk_cell BK144.out 0).trans rfl, (blk_cell BK144.out 1).trans rfl, (blk_cell BK144.out 2).trans rfl, (blk_cell BK142.out 0).trans rfl, (blk_cell BK142.out 1).trans rfl, (blk_cell BK142.out 2).trans rfl, (bh_ HB hw148_0 :)⟩ (fun hHeld => ?_)
      clear hK K
      refine nm_ ?_
      refine one_ (i := 9) (N := some 26) #[true, true, true, true, true, true, true, true, true, true, false, false, false] rfl rfl (one_of HT_.out (by kernel_rfl)) (by decide) (fun K hK => ?_)
      refine value_ (w1 := ?_) (v := ?_) (by rfl) rfl ?_ ?_
      rotate_left 2
      ·go_simp
       constructor
       ·rfl
       ·rfl
      refine hK.out _ _ ⟨(blk_cell (blk_alloc BK144.out _) 0).trans rfl, (blk_cell (blk_alloc BK144.out _) 1).trans rfl, (blk_cell (blk_alloc BK144.out _) 2).trans rfl, (blk_cell (blk_alloc BK142.out _) 0).trans rfl, (blk_cell (blk_alloc BK142.out _) 1).trans rfl, (blk_cell (blk_alloc BK142.out _) 2).trans rfl, (World.cell?_alloc_lt _ _ _ (World.block_lt_of_cell? _ _ ((bh_ HB hw148_0 :)))).trans ((bh_ HB hw148_0 :))⟩ (fun hHeld => ?_)
      clear hK K
      refine nm_ ?_
      refine one_ (i := 10) (N := some 27) #[true, true, true, true, true, true, true, true, true, true, true, false, false] rfl rfl (one_of HT_.out (by kernel_rfl)) (by decide) (fun K hK => ?_)
      refine Kd.S_append_step (Kd.slice 3 (Kd.int .i64)) (w0 := w) w.heap.size (by rfl) (.tmp 18) (.tmp 26) 22 25 (.slice none 0 0) 24 rfl Try.underlying22 info25 rfl (by decide) (by omega) u145001 x145001_1 y149 [.slice Ao22 y149.length co22] (fun _ => True) (fun k_ => some k_ = (.slice Ao22 y149.length co22 : Value).ownBlock) rfl rfl ?aP (fun k_ hk_ => ((Kd.R_mono (ok' := fun k_ => ((fun _ => True)) k_ ∧ some k_ ≠ (u145001 : Value).ownBlock) (Kd.R_apart' (HO151.out) (Kd.S_typed HO_145001.out) (by decide)) (fun k_ hk => ⟨trivial, hk.2⟩))).1 k_ hk_.symm) ?aF ?aO ?aB ?aS ?aL ?_
      (case aP => exact Kd.M_row (Kd.R_mono (Kd.R_tight rfl (Kd.R_mono (ok' := fun k_ => ((fun _ => True)) k_ ∧ some k_ ≠ (u145001 : Value).ownBlock) (Kd.R_apart' (HO151.out) (Kd.S_typed HO_145001.out) (by decide)) (fun k_ hk => ⟨trivial, hk.2⟩))) (fun _ h_ => h_)))
      (case aB => exact (up_ HB.out))
      (case aF => exact (fun _ _ => trivial))
      (case aO => exact (by (with_reducible repeat (first | apply Kd.S_alloc | apply Kd.S_drewN | apply Kd.S_drew)); exact Kd.S_mono HO_145001.out (fun k_ hk => ⟨trivial, fun e_ => hk.2 e_⟩)))
      (case aS => exact (below_size (up_ HB.out)))
      (case aL => have := LMc13.out; omega)
      intro v153 w21 ho hb hg hat
      rw [← Ny152.out] at ho
      have n0_ := Aside0.mk (blk_grown (g := gb142) (o := .cells #[.int .i64 a0_0, .slice (some ad148) l0_1.length c0_1, .int .i64 a0_2] 30 (0, 0)) (up_ BK142.out) hg (Kd.S_ne HO_145001.out BK142.out (by decide)))
      have n1_ := Aside0.mk (blk_grown (g := gb143) (o := .cells #[.int .i64 0, .slice none 0 0, .int .i64 0] 30 (0, 0)) (up_ BK143.out) hg (Kd.S_ne HO_145001.out BK143.out (by decide)))
      have n2_ := Aside0.mk (blk_grown (g := gb144) (o := .cells #[.int .i64 a0_0, u145001, .int .i64 a0_2] 30 (0, 0)) (up_ BK144.out) hg (Kd.S_ne HO_145001.out BK144.out (by decide)))
      have n3_ := Aside0.mk (hb)
      have n4_ := Aside0.mk (ho)
      clear BK142
      clear BK143
      clear BK144
      clear HB
      clear HO_145001
      clear HO151
      have BK142 := n0_
      have BK143 := n1_
      have BK144 := n2_
      have HB := n3_
      have HO154 := n4_
      clear n0_ n1_ n2_ n3_ n4_
      clear ho hb hg hat
      obtain ⟨Ao23, co23, eo23⟩ := Kd.S_slice HO154.out
      (first | subst eo23 | (injection eo23 with f1_ f2_ f3_; have f4_ := f1_.symm; have f5_ := f3_.symm; clear f1_ f2_ f3_; subst f4_; subst f5_))
      refine hK.out _ _ ⟨(blk_cell BK144.out 0).trans rfl, (blk_cell BK144.out 1).trans rfl, (blk_cell BK144.out 2).trans rfl, (blk_cell BK142.out 0).trans rfl, (blk_cell BK142.out 1).trans rfl, (blk_cell BK142.out 2).trans rfl, (bh_ HB hw148_0 :)⟩ (fun hHeld => ?_)
      clear hK K
      refine nm_ ?_
      refine pu_ 11 (some 28) ?_
      refine last_ (i := 12) (N := none) #[true, true, true, true, true, true, true, true, true, true, true, true, true] rfl rfl (one_of HT_.out (by kernel_rfl)) (by decide) (fun K hK => ?_)
      have hs24 : w21.cell? ⟨gb144, 1, none⟩ = some (u145001) := (blk_cell BK144.out 1).trans rfl
      have hfs24 := blk_frozen BK144.out 1
      have hns24_0 := NB142_144.out
      have hns24_1 := NB143_144.out
      have hms24_0 := NB144_142.out
      have hms24_1 := NB144_143.out
      refine skip_ (w1 := ?_) (by rfl) rfl ?_ ?_
      rotate_left
      ·go_simp
       rfl
      refine hK.out _ _ ?_
      clear hK K
      refine done_ (done_of HT_.out (by kernel_rfl)) ?_
      try go_wp2
      go_roundg k1
      case measure => have := HK1.out; omega
      case rel => exact ⟨(wrap64 (x4_1 + 1)), (y152), (.slice Ao23 y152.length co23), rs_, H', ⟨by have := HK1.out; omega⟩, ⟨by (with_reducible repeat (first | apply Kd.S_alloc | apply Kd.S_drewN | apply Kd.S_drew)); exact Kd.S_mono (Kd.S_far (p := ⟨gb144, 1, none⟩) (Kd.S_types HO154.out BK144.out (by decide)) (fun _ hk => hk.2) (.slice Ao23 y152.length co23)) (fun _ hk => trivial)⟩, ⟨by (with_reducible repeat (first | refine blk_drewN ?_ _ | refine blk_drew ?_ | refine blk_alloc ?_ _)); refine blk_far ?_ NB142_144.out _; (with_reducible repeat (first | refine blk_drewN ?_ _ | refine blk_drew ?_ | refine blk_alloc ?_ _)); exact BK142.out⟩, ⟨by (with_reducible repeat (first | refine blk_drewN ?_ _ | refine blk_drew ?_ | refine blk_alloc ?_ _)); refine blk_far ?_ NB143_144.out _; (with_reducible repeat (first | refine blk_drewN ?_ _ | refine blk_drew ?_ | refine blk_alloc ?_ _)); exact BK143.out⟩, ⟨by (with_reducible repeat (first | refine blk_drewN ?_ _ | refine blk_drew ?_ | refine blk_alloc ?_ _)); refine blk_put (cs := #[.int .i64 a0_0, u145001, .int .i64 a0_2]) ?_ 1 _ rfl; (with_reducible repeat (first | refine blk_drewN ?_ _ | refine blk_drew ?_ | refine blk_alloc ?_ _)); exact BK144.out⟩, ⟨up_ HB.out⟩⟩
     ·rw [if_neg c13] at H
      exact absurd H (by simp)
    ·rw [if_neg c12] at H
     exact absurd H (by simp)
   ·simp only [Option.some.injEq, Prod.mk.injEq] at H
    obtain ⟨rfl, rfl, rfl⟩ := H
    have hnb25 := NB142_143.out
    have hnc25 := NB143_142.out
    have hnb26 := NB142_144.out
    have hnc26 := NB144_142.out
    obtain ⟨hcz27_0, hcz27_1, hcz27_2⟩ := c3_ BK142
    have hfz27_0 := blk_frozen BK142.out 0
    have hfz27_1 := blk_frozen BK142.out 1
    have hfz27_2 := blk_frozen BK142.out 2
    have hnb28 := NB144_143.out
    have hnc28 := NB143_144.out
    obtain ⟨hcz29_0, hcz29_1, hcz29_2⟩ := c3_ BK144
    have hfz29_0 := blk_frozen BK144.out 0
    have hfz29_1 := blk_frozen BK144.out 1
    have hfz29_2 := blk_frozen BK144.out 2
    obtain ⟨hcz30_0, hcz30_1, hcz30_2⟩ := c3_ BK143
    have hfz30_0 := blk_frozen BK143.out 0
    have hfz30_1 := blk_frozen BK143.out 1
    have hfz30_2 := blk_frozen BK143.out 2
    obtain ⟨Ao31, co31, eo31⟩ := Kd.S_slice HO_145001.out
    subst eo31
    go_wp2
    refine bodyPost_ret (results_cell_row rfl _ _ gb143 30 #[.int .i64 a0_0, .slice Ao31 x145001_1.length co31, .int .i64 a0_2] (0, 0) _ rfl (by (with_reducible repeat (first | refine blk_drewN ?_ _ | refine blk_drew ?_ | refine blk_alloc ?_ _)); refine blk_put (cs := #[.int .i64 a0_0, .slice Ao31 x145001_1.length co31, .int .i64 0]) ?_ 2 _ rfl; (with_reducible repeat (first | refine blk_drewN ?_ _ | refine blk_drew ?_ | refine blk_alloc ?_ _)); refine blk_put (cs := #[.int .i64 a0_0, .slice none 0 0, .int .i64 0]) ?_ 1 _ rfl; (with_reducible repeat (first | refine blk_drewN ?_ _ | refine blk_drew ?_ | refine blk_alloc ?_ _)); refine blk_put (cs := #[.int .i64 0, .slice none 0 0, .int .i64 0]) ?_ 0 _ rfl; (with_reducible repeat (first | refine blk_drewN ?_ _ | refine blk_drew ?_ | refine blk_alloc ?_ _)); exact BK143.out) Try.underlying30 rfl (by kernel_rfl)) rfl ?_
    exact ⟨_, re_, by (with_reducible repeat (first | apply Kd.S_alloc | apply Kd.S_drewN | apply Kd.S_drew)); exact Kd.S_mono (Kd.S_far (p := ⟨gb143, 2, none⟩) (Kd.S_far (p := ⟨gb143, 1, none⟩) (Kd.S_far (p := ⟨gb143, 0, none⟩) (Kd.S_types HO_145001.out BK143.out (by decide)) (fun _ hk => hk.2) (.int .i64 a0_0)) (fun _ hk => hk.2) (.slice Ao31 x145001_1.length co31)) (fun _ hk => hk.2) (.int .i64 a0_2)) (fun _ hk => trivial), up_ HB.out⟩

/-! ### spec_l1In: function 95 -/
def spec_l1In.f (a0 : Int) (a1 : Int) (a2 : Int) : Option (Bool) := if a0 ≥ a1 then (some (decide (a0 ≤ a2))) else (some false)
set_option maxHeartbeats 8000000 in
set_option maxRecDepth 100000 in
theorem spec_l1In.calls (a0 : Int) (a1 : Int) (a2 : Int) (r : Bool) (w : World) (h : spec_l1In.f a0 a1 a2 = some r) :
  Calls Try.prog 95 #[.int .i64 a0, .int .i64 a1, .int .i64 a2] w fun e w' => e = .returned (.bool r) ∧ Drawn0 w w' := by
 have H : (if a0 ≥ a1 then (some (decide (a0 ≤ a2))) else (some false)) = some r := h
 clear h
 by_cases c4 : a0 ≥ a1
 ·rw [if_pos c4] at H
  have c4b0 : decide (a1 ≤ a0) = true := decide_eq_true c4
  clear c4
  obtain rfl := Option.some.inj H
  go_enter Try.func95, Try.ntmps95
  go_wp2
  go_ret
  exact ⟨rs_, dn_⟩
 ·rw [if_neg c4] at H
  have c4b0 : decide (a1 ≤ a0) = false := decide_eq_false c4
  clear c4
  obtain rfl := Option.some.inj H
  go_enter Try.func95, Try.ntmps95
  go_wp2
  go_ret
  exact ⟨rs_, dn_⟩

/-! ### spec_l12Has: function 147 -/
def spec_l12Has.l0 : Nat → List Int → Int → Int → Option (Bool)
 | 0, _, _, _ => none
 | k + 1, x0, x1, x5 => if x5 < (x0.length : Int) then (if 0 ≤ x5 then (if (rd x0 x5) = x1 then (some true) else (spec_l12Has.l0 k x0 x1 (wrap64 (x5 + 1)))) else (none)) else (some false)
def spec_l12Has.f (k : Nat) (l0 : List Int) (a1 : Int) : Option (Bool) := spec_l12Has.l0 k l0 a1 0
set_option maxHeartbeats 8000000 in
set_option maxRecDepth 100000 in
theorem spec_l12Has.calls (k : Nat) (A0 : Option Addr) (c0 : Nat) (l0 : List Int) (a1 : Int) (r : Bool) (w : World) (hr0 : Kd.C (Kd.int .i64) w A0 l0.length l0) (hc0 : l0.length ≤ c0) (h : spec_l12Has.f k l0 a1 = some r) :
  Calls Try.prog 147 #[.slice A0 l0.length c0, .int .i64 a1] w fun e w' => e = .returned (.bool r) ∧ Drawn0 w w' := by
 have HR0 := Aside0.mk hr0
 have HC0 := Aside0.mk hc0
 clear hr0 hc0
 have H : (spec_l12Has.l0 k l0 a1 0) = some r := h
 clear h
 have H' := Aside0.mk H
 clear H
 go_enter Try.func147, Try.ntmps147
 go_wp2
 go_loopg [5] k (fun kq v5 w' => ∃ (x5_1 : Int), v5 = .int .i64 x5_1 ∧ Aside0 (spec_l12Has.l0 kq l0 a1 x5_1 = some r) ∧ Aside0 (kq ≤ k) ∧ Drawn0 w w')
 case atStart => exact ⟨(0), rs_, H', ⟨Nat.le_refl _⟩, dn_⟩
 case round =>
  clear H'
  try clear c1
  try clear p2
  obtain ⟨x5_1, rfl, HA, HK1, ⟨m1, rfl⟩⟩ := hrel
  cases gk with
  | zero => exact absurd HA.out (by simp [spec_l12Has.l0])
  | succ k1 =>
   have H := HA.out
   clear HA
   simp only [spec_l12Has.l0] at H
   replace H := its_ H; rcases H with ⟨c3b0, H⟩ | ⟨c3b0, H⟩
   ·replace H := its_ H; rcases H with ⟨c4b0, H⟩ | ⟨_, ⟨⟩⟩
    replace H := ieq_ H; rcases H with ⟨-, c5b0, c5b1, H⟩ | ⟨c5, c5b0, c5b1, H⟩
    ·obtain rfl := Option.some.inj H
     have p155 : 0 ≤ (x5_1 : Int) := od_
     have q155 : x5_1 < (l0.length : Int) := od_
     obtain ⟨ad155, e155, hx155_0⟩ := Kd.at_int HR0.out x5_1 p155 q155
     cases e155
     replace p155 := eq_true p155
     replace q155 := eq_true q155
     go_wp2
     go_ret
     exact ⟨rs_, dn_⟩
    ·have H' := Aside0.mk H
     clear H
     have p155 : 0 ≤ (x5_1 : Int) := od_
     have q155 : x5_1 < (l0.length : Int) := od_
     obtain ⟨ad155, e155, hx155_0⟩ := Kd.at_int HR0.out x5_1 p155 q155
     cases e155
     replace p155 := eq_true p155
     replace q155 := eq_true q155
     go_wp2
     go_roundg k1
     case measure => have := HK1.out; omega
     case rel => exact ⟨(wrap64 (x5_1 + 1)), rs_, H', ⟨by have := HK1.out; omega⟩, dn_⟩
   ·obtain rfl := Option.some.inj H
    go_wp2
    go_ret
    exact ⟨rs_, dn_⟩

/-! ### spec_IsRanking: function 136 -/
def spec_IsRanking.l0 : Nat → List Int → Int → Int → Option (Bool)
 | 0, _, _, _ => none
 | k + 1, x0, x1, x5 => if x5 < (x0.length : Int) then (if 0 ≤ x5 then (if (rd x0 x5) < 0 then (some false) else (if (rd x0 x5) ≥ x1 then (some false) else (if x5 ≤ (x0.length : Int) then ((spec_l12Has.f k (x0.take (x5 : Int).toNat) (rd x0 x5)).bind fun t160 => (if t160 = true then (some false) else (spec_IsRanking.l0 k x0 x1 (wrap64 (x5 + 1))))) else (none)))) else (none)) else ((spec_l1In.f x1 1 5).bind fun t161 => (if t161 = true then (some ((x0.length : Int) == x1)) else (some false)))
def spec_IsRanking.f (k : Nat) (l0 : List Int) (a1 : Int) : Option (Bool) := spec_IsRanking.l0 k l0 a1 0
set_option maxHeartbeats 8000000 in
set_option maxRecDepth 100000 in
theorem spec_IsRanking.calls (k : Nat) (A0 : Option Addr) (c0 : Nat) (l0 : List Int) (a1 : Int) (r : Bool) (w : World) (hr0 : Kd.C (Kd.int .i64) w A0 l0.length l0) (hc0 : l0.length ≤ c0) (h : spec_IsRanking.f k l0 a1 = some r) :
  Calls Try.prog 136 #[.slice A0 l0.length c0, .int .i64 a1] w fun e w' => e = .returned (.bool r) ∧ Drawn0 w w' := by
 have HR0 := Aside0.mk hr0
 have HC0 := Aside0.mk hc0
 clear hr0 hc0
 have H : (spec_IsRanking.l0 k l0 a1 0) = some r := h
 clear h
 have H' := Aside0.mk H
 clear H
 go_enter Try.func136, Try.ntmps136
 go_wp2
 repeat (go_quiet (fail); try go_wp2)
 go_loopg [5] k (fun kq v5 w' => ∃ (x5_1 : Int), v5 = .int .i64 x5_1 ∧ Aside0 (spec_IsRanking.l0 kq l0 a1 x5_1 = some r) ∧ Aside0 (kq ≤ k) ∧ Drawn0 w w')
 case atStart => exact ⟨(0), rs_, H', ⟨Nat.le_refl _⟩, dn_⟩
 case round =>
  clear H'
  try clear c1
  try clear p2
  obtain ⟨x5_1, rfl, HA, HK1, ⟨m1, rfl⟩⟩ := hrel
  cases gk with
  | zero => exact absurd HA.out (by simp [spec_IsRanking.l0])
  | succ k1 =>
   have H := HA.out
   clear HA
   simp only [spec_IsRanking.l0] at H
   replace H := its_ H; rcases H with ⟨c3b0, H⟩ | ⟨c3b0, H⟩
   ·replace H := its_ H; rcases H with ⟨c4b0, H⟩ | ⟨_, ⟨⟩⟩
    replace H := its_ H; rcases H with ⟨c5b0, H⟩ | ⟨c5b0, H⟩
    ·obtain rfl := Option.some.inj H
     have p156 : 0 ≤ (x5_1 : Int) := od_
     have q156 : x5_1 < (l0.length : Int) := od_
     obtain ⟨ad156, e156, hx156_0⟩ := Kd.at_int HR0.out x5_1 p156 q156
     cases e156
     replace p156 := eq_true p156
     replace q156 := eq_true q156
     go_wp2
     repeat (go_quiet (fail); try go_wp2)
     go_ret
     exact ⟨rs_, dn_⟩
    ·by_cases c6 : (rd l0 x5_1) ≥ a1
     ·rw [if_pos c6] at H
      have c6b0 : decide (a1 ≤ (rd l0 x5_1)) = true := decide_eq_true c6
      clear c6
      obtain rfl := Option.some.inj H
      have p156 : 0 ≤ (x5_1 : Int) := od_
      have q156 : x5_1 < (l0.length : Int) := od_
      obtain ⟨ad156, e156, hx156_0⟩ := Kd.at_int HR0.out x5_1 p156 q156
      cases e156
      replace p156 := eq_true p156
      replace q156 := eq_true q156
      have p157 : 0 ≤ (x5_1 : Int) := od_
      have q157 : x5_1 < (l0.length : Int) := od_
      obtain ⟨ad157, e157, hx157_0⟩ := Kd.at_int HR0.out x5_1 p157 q157
      obtain rfl : ad156 = ad157 := (by injection e157)
      replace p157 := eq_true p157
      replace q157 := eq_true q157
      go_wp2
      repeat (go_quiet (fail); try go_wp2)
      go_ret
      exact ⟨rs_, dn_⟩
     ·rw [if_neg c6] at H
      have c6b0 : decide (a1 ≤ (rd l0 x5_1)) = false := decide_eq_false c6
      clear c6
      have c7b0 := eq_true (od_ : 0 ≤ x5_1)
      by_cases c8 : x5_1 ≤ (l0.length : Int)
      ·rw [if_pos c8] at H
       have c8b0 := eq_true c8
       have c8b1 : decide (x5_1 ≤ (l0.length : Int)) = true := decide_eq_true c8
       clear c8
       replace H := bnd_ H; obtain ⟨t160, A9, H⟩ := H
       replace H := itb_ H; rcases H with ⟨rfl, H⟩ | ⟨rfl, H⟩
       ·obtain rfl := Option.some.inj H
        have p156 : 0 ≤ (x5_1 : Int) := od_
        have q156 : x5_1 < (l0.length : Int) := od_
        obtain ⟨ad156, e156, hx156_0⟩ := Kd.at_int HR0.out x5_1 p156 q156
        cases e156
        replace p156 := eq_true p156
        replace q156 := eq_true q156
        have p157 : 0 ≤ (x5_1 : Int) := od_
        have q157 : x5_1 < (l0.length : Int) := od_
        obtain ⟨ad157, e157, hx157_0⟩ := Kd.at_int HR0.out x5_1 p157 q157
        obtain rfl : ad156 = ad157 := (by injection e157)
        replace p157 := eq_true p157
        replace q157 := eq_true q157
        obtain ⟨i011, hi011, _, hsz11, _⟩ := info_parts info3
        obtain ⟨hcut11, hA11, hC11⟩ := print_take_of (P := Try.prog) (Value.int .i64) 0 25 3 .i64 Try.underlying25 hi011 hsz11 (some ad156) c0 l0 x5_1 (od_) (od_) HC0.out
        have HR158 := Aside0.mk (Kd.C_of_reads (h1 := fun _ => rfl) (hA11 _ (Kd.reads_of_C HR0.out)))
        have HC158 := Aside0.mk hC11
        clear hA11 hC11 hi011 hsz11
        have p159 : 0 ≤ (x5_1 : Int) := od_
        have q159 : x5_1 < (l0.length : Int) := od_
        obtain ⟨ad159, e159, hx159_0⟩ := Kd.at_int HR0.out x5_1 p159 q159
        obtain rfl : ad156 = ad159 := (by injection e159)
        replace p159 := eq_true p159
        replace q159 := eq_true q159
        go_wp2_with (first | (go_at_call 147; (first | (with_reducible refine (spec_l12Has.calls k1 _ _ (l0.take (x5_1 : Int).toNat) (rd l0 x5_1) true _ ?side1 ?side2 A9.out).mono ?_) | ((try rw [show (x5_1 : Int).toNat = (l0.take (x5_1 : Int).toNat).length from by rw [List.length_take, Nat.min_eq_left (by first | omega | (simp only [eq_iff_iff, iff_true, decide_eq_true_eq] at *; omega))]]); (with_reducible refine (spec_l12Has.calls k1 _ _ (l0.take (x5_1 : Int).toNat) (rd l0 x5_1) true _ ?side1 ?side2 A9.out).mono ?_))); (case side1 => repeat (first | exact HR158.out | (with_reducible refine Kd.C_alloc ?_ _) | (with_reducible refine Kd.C_drewN ?_ _) | (with_reducible refine Kd.C_drew ?_))); (case side2 => exact HC158.out); rintro e w' ⟨rfl, ⟨nd, rfl⟩⟩; (try first | exact ⟨rfl, _, World.drewN_drewN _ _ _⟩ | exact ⟨rfl, _, Eq.trans (World.drewN_drewN _ _ _) (congrArg (World.drewN _) (Nat.add_assoc _ _ _))⟩)))
        repeat (go_quiet (first | (go_at_call 147; (first | (with_reducible refine (spec_l12Has.calls k1 _ _ (l0.take (x5_1 : Int).toNat) (rd l0 x5_1) true _ ?side1 ?side2 A9.out).mono ?_) | ((try rw [show (x5_1 : Int).toNat = (l0.take (x5_1 : Int).toNat).length from by rw [List.length_take, Nat.min_eq_left (by first | omega | (simp only [eq_iff_iff, iff_true, decide_eq_true_eq] at *; omega))]]); (with_reducible refine (spec_l12Has.calls k1 _ _ (l0.take (x5_1 : Int).toNat) (rd l0 x5_1) true _ ?side1 ?side2 A9.out).mono ?_))); (case side1 => repeat (first | exact HR158.out | (with_reducible refine Kd.C_alloc ?_ _) | (with_reducible refine Kd.C_drewN ?_ _) | (with_reducible refine Kd.C_drew ?_))); (case side2 => exact HC158.out); rintro e w' ⟨rfl, ⟨nd, rfl⟩⟩; (try first | exact ⟨rfl, _, World.drewN_drewN _ _ _⟩ | exact ⟨rfl, _, Eq.trans (World.drewN_drewN _ _ _) (congrArg (World.drewN _) (Nat.add_assoc _ _ _))⟩))); try go_wp2_with (first | (go_at_call 147; (first | (with_reducible refine (spec_l12Has.calls k1 _ _ (l0.take (x5_1 : Int).toNat) (rd l0 x5_1) true _ ?side1 ?side2 A9.out).mono ?_) | ((try rw [show (x5_1 : Int).toNat = (l0.take (x5_1 : Int).toNat).length from by rw [List.length_take, Nat.min_eq_left (by first | omega | (simp only [eq_iff_iff, iff_true, decide_eq_true_eq] at *; omega))]]); (with_reducible refine (spec_l12Has.calls k1 _ _ (l0.take (x5_1 : Int).toNat) (rd l0 x5_1) true _ ?side1 ?side2 A9.out).mono ?_))); (case side1 => repeat (first | exact HR158.out | (with_reducible refine Kd.C_alloc ?_ _) | (with_reducible refine Kd.C_drewN ?_ _) | (with_reducible refine Kd.C_drew ?_))); (case side2 => exact HC158.out); rintro e w' ⟨rfl, ⟨nd, rfl⟩⟩; (try first | exact ⟨rfl, _, World.drewN_drewN _ _ _⟩ | exact ⟨rfl, _, Eq.trans (World.drewN_drewN _ _ _) (congrArg (World.drewN _) (Nat.add_assoc _ _ _))⟩))))
        go_ret
        exact ⟨rs_, dn_⟩
       ·have H' := Aside0.mk H
        clear H
        have p156 : 0 ≤ (x5_1 : Int) := od_
        have q156 : x5_1 < (l0.length : Int) := od_
        obtain ⟨ad156, e156, hx156_0⟩ := Kd.at_int HR0.out x5_1 p156 q156
        cases e156
        replace p156 := eq_true p156
        replace q156 := eq_true q156
        have p157 : 0 ≤ (x5_1 : Int) := od_
        have q157 : x5_1 < (l0.length : Int) := od_
        obtain ⟨ad157, e157, hx157_0⟩ := Kd.at_int HR0.out x5_1 p157 q157
        obtain rfl : ad156 = ad157 := (by injection e157)
        replace p157 := eq_true p157
        replace q157 := eq_true q157
        obtain ⟨i012, hi012, _, hsz12, _⟩ := info_parts info3
        obtain ⟨hcut12, hA12, hC12⟩ := print_take_of (P := Try.prog) (Value.int .i64) 0 25 3 .i64 Try.underlying25 hi012 hsz12 (some ad156) c0 l0 x5_1 (od_) (od_) HC0.out
        have HR158 := Aside0.mk (Kd.C_of_reads (h1 := fun _ => rfl) (hA12 _ (Kd.reads_of_C HR0.out)))
        have HC158 := Aside0.mk hC12
        clear hA12 hC12 hi012 hsz12
        have p159 : 0 ≤ (x5_1 : Int) := od_
        have q159 : x5_1 < (l0.length : Int) := od_
        obtain ⟨ad159, e159, hx159_0⟩ := Kd.at_int HR0.out x5_1 p159 q159
        obtain rfl : ad156 = ad159 := (by injection e159)
        replace p159 := eq_true p159
        replace q159 := eq_true q159
        go_wp2_with (first | (go_at_call 147; (first | (with_reducible refine (spec_l12Has.calls k1 _ _ (l0.take (x5_1 : Int).toNat) (rd l0 x5_1) false _ ?side1 ?side2 A9.out).mono ?_) | ((try rw [show (x5_1 : Int).toNat = (l0.take (x5_1 : Int).toNat).length from by rw [List.length_take, Nat.min_eq_left (by first | omega | (simp only [eq_iff_iff, iff_true, decide_eq_true_eq] at *; omega))]]); (with_reducible refine (spec_l12Has.calls k1 _ _ (l0.take (x5_1 : Int).toNat) (rd l0 x5_1) false _ ?side1 ?side2 A9.out).mono ?_))); (case side1 => repeat (first | exact HR158.out | (with_reducible refine Kd.C_alloc ?_ _) | (with_reducible refine Kd.C_drewN ?_ _) | (with_reducible refine Kd.C_drew ?_))); (case side2 => exact HC158.out); rintro e w' ⟨rfl, ⟨nd, rfl⟩⟩; (try first | exact ⟨rfl, _, World.drewN_drewN _ _ _⟩ | exact ⟨rfl, _, Eq.trans (World.drewN_drewN _ _ _) (congrArg (World.drewN _) (Nat.add_assoc _ _ _))⟩)))
        repeat (go_quiet (first | (go_at_call 147; (first | (with_reducible refine (spec_l12Has.calls k1 _ _ (l0.take (x5_1 : Int).toNat) (rd l0 x5_1) false _ ?side1 ?side2 A9.out).mono ?_) | ((try rw [show (x5_1 : Int).toNat = (l0.take (x5_1 : Int).toNat).length from by rw [List.length_take, Nat.min_eq_left (by first | omega | (simp only [eq_iff_iff, iff_true, decide_eq_true_eq] at *; omega))]]); (with_reducible refine (spec_l12Has.calls k1 _ _ (l0.take (x5_1 : Int).toNat) (rd l0 x5_1) false _ ?side1 ?side2 A9.out).mono ?_))); (case side1 => repeat (first | exact HR158.out | (with_reducible refine Kd.C_alloc ?_ _) | (with_reducible refine Kd.C_drewN ?_ _) | (with_reducible refine Kd.C_drew ?_))); (case side2 => exact HC158.out); rintro e w' ⟨rfl, ⟨nd, rfl⟩⟩; (try first | exact ⟨rfl, _, World.drewN_drewN _ _ _⟩ | exact ⟨rfl, _, Eq.trans (World.drewN_drewN _ _ _) (congrArg (World.drewN _) (Nat.add_assoc _ _ _))⟩))); try go_wp2_with (first | (go_at_call 147; (first | (with_reducible refine (spec_l12Has.calls k1 _ _ (l0.take (x5_1 : Int).toNat) (rd l0 x5_1) false _ ?side1 ?side2 A9.out).mono ?_) | ((try rw [show (x5_1 : Int).toNat = (l0.take (x5_1 : Int).toNat).length from by rw [List.length_take, Nat.min_eq_left (by first | omega | (simp only [eq_iff_iff, iff_true, decide_eq_true_eq] at *; omega))]]); (with_reducible refine (spec_l12Has.calls k1 _ _ (l0.take (x5_1 : Int).toNat) (rd l0 x5_1) false _ ?side1 ?side2 A9.out).mono ?_))); (case side1 => repeat (first | exact HR158.out | (with_reducible refine Kd.C_alloc ?_ _) | (with_reducible refine Kd.C_drewN ?_ _) | (with_reducible refine Kd.C_drew ?_))); (case side2 => exact HC158.out); rintro e w' ⟨rfl, ⟨nd, rfl⟩⟩; (try first | exact ⟨rfl, _, World.drewN_drewN _ _ _⟩ | exact ⟨rfl, _, Eq.trans (World.drewN_drewN _ _ _) (congrArg (World.drewN _) (Nat.add_assoc _ _ _))⟩))))
        go_roundg k1
        case measure => have := HK1.out; omega
        case rel => exact ⟨(wrap64 (x5_1 + 1)), rs_, H', ⟨by have := HK1.out; omega⟩, dn_⟩
      ·rw [if_neg c8] at H
       exact absurd H (by simp)
   ·replace H := bnd_ H; obtain ⟨t161, A13, H⟩ := H
    replace H := itb_ H; rcases H with ⟨rfl, H⟩ | ⟨rfl, H⟩
    ·obtain rfl := Option.some.inj H
     go_wp2_with (first | (go_at_call 95; (with_reducible refine (spec_l1In.calls a1 1 5 true _ A13.out).mono ?_); rintro e w' ⟨rfl, ⟨nd, rfl⟩⟩; (try first | exact ⟨rfl, _, World.drewN_drewN _ _ _⟩ | exact ⟨rfl, _, Eq.trans (World.drewN_drewN _ _ _) (congrArg (World.drewN _) (Nat.add_assoc _ _ _))⟩)))
     repeat (go_quiet (first | (go_at_call 95; (with_reducible refine (spec_l1In.calls a1 1 5 true _ A13.out).mono ?_); rintro e w' ⟨rfl, ⟨nd, rfl⟩⟩; (try first | exact ⟨rfl, _, World.drewN_drewN _ _ _⟩ | exact ⟨rfl, _, Eq.trans (World.drewN_drewN _ _ _) (congrArg (World.drewN _) (Nat.add_assoc _ _ _))⟩))); try go_wp2_with (first | (go_at_call 95; (with_reducible refine (spec_l1In.calls a1 1 5 true _ A13.out).mono ?_); rintro e w' ⟨rfl, ⟨nd, rfl⟩⟩; (try first | exact ⟨rfl, _, World.drewN_drewN _ _ _⟩ | exact ⟨rfl, _, Eq.trans (World.drewN_drewN _ _ _) (congrArg (World.drewN _) (Nat.add_assoc _ _ _))⟩))))
     go_ret
     exact ⟨rs_, dn_⟩
    ·obtain rfl := Option.some.inj H
     go_wp2_with (first | (go_at_call 95; (with_reducible refine (spec_l1In.calls a1 1 5 false _ A13.out).mono ?_); rintro e w' ⟨rfl, ⟨nd, rfl⟩⟩; (try first | exact ⟨rfl, _, World.drewN_drewN _ _ _⟩ | exact ⟨rfl, _, Eq.trans (World.drewN_drewN _ _ _) (congrArg (World.drewN _) (Nat.add_assoc _ _ _))⟩)))
     repeat (go_quiet (first | (go_at_call 95; (with_reducible refine (spec_l1In.calls a1 1 5 false _ A13.out).mono ?_); rintro e w' ⟨rfl, ⟨nd, rfl⟩⟩; (try first | exact ⟨rfl, _, World.drewN_drewN _ _ _⟩ | exact ⟨rfl, _, Eq.trans (World.drewN_drewN _ _ _) (congrArg (World.drewN _) (Nat.add_assoc _ _ _))⟩))); try go_wp2_with (first | (go_at_call 95; (with_reducible refine (spec_l1In.calls a1 1 5 false _ A13.out).mono ?_); rintro e w' ⟨rfl, ⟨nd, rfl⟩⟩; (try first | exact ⟨rfl, _, World.drewN_drewN _ _ _⟩ | exact ⟨rfl, _, Eq.trans (World.drewN_drewN _ _ _) (congrArg (World.drewN _) (Nat.add_assoc _ _ _))⟩))))
     go_ret
     exact ⟨rs_, dn_⟩

end Go.Proofs.Ytkddpilambnicaa.PFnExactHearAll
