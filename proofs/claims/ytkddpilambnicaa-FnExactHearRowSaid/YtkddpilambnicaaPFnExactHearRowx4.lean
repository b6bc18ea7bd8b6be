/- Walks of Go functions that the law FnExactHearRow uses: written by this session's program out of the kit's printer; each shows that a call comes to the answers of the Lean function beside it. Conditions: each contract's own. -/
import Derived.Test.YtkddpilambnicaaPFnExactHearRowx0
import Derived.Test.YtkddpilambnicaaPFnExactHearRowx1
import Derived.Test.YtkddpilambnicaaPFnExactHearRowx2
import Derived.Test.YtkddpilambnicaaPFnExactHearRowx3
namespace Go.Proofs.Ytkddpilambnicaa.PFnExactHearRow
open Go.RowKit Go.Proofs.YtkddpilambnicaaW.PrintWords Go.Proofs.YtkddpilambnicaaW.PrintLast Go.Proofs.YtkddpilambnicaaW.PrintMore Go.Proofs.Ytkddpilambnicaa.Mac Go.Proofs.Ytkddpilambnicaa.Law
attribute [local go_sem] max2_int min2_int max_two min_two max_three min_three max_four min_four   -- for this text's walks alone
set_option linter.unusedVariables false
set_option linter.unusedSimpArgs false

/-! ### spec_HearRow: function 14 -/
mutual
def spec_HearRow.j0 : Nat → Bool → Int → List (List Int) → Int → List Int → Int → List (List Int) → Int → Option (Int × (List (List Int)) × Int × Bool)
 | 0, _, _, _, _, _, _, _, _ => none
 | k + 1, x39, x166000, x166001, x166002, x167000, x174000, x174001, x174002 => if x39 = true then (some (x174000, x174001, x174002, false)) else (spec_HearRow.l0 k (-1) 0 x166000 x166001 x166002 x167000 x174000 x174001 x174002)
def spec_HearRow.l0 : Nat → Int → Int → Int → List (List Int) → Int → List Int → Int → List (List Int) → Int → Option (Int × (List (List Int)) × Int × Bool)
 | 0, _, _, _, _, _, _, _, _, _ => none
 | k + 1, x7, x8, x166000, x166001, x166002, x167000, x174000, x174001, x174002 => if x8 < x166000 then ((spec_l22Stratum.f k x166001 x8).bind fun t177 => (if 0 ≤ x8 then (if x8 < (x167000.length : Int) then (if (rd x167000 x8) = 1 then (if x7 < 0 then (spec_HearRow.l0 k t177 (wrap64 (x8 + 1)) x166000 x166001 x166002 x167000 x174000 x174001 x174002) else (if t177 < x7 then (spec_HearRow.l0 k t177 (wrap64 (x8 + 1)) x166000 x166001 x166002 x167000 x174000 x174001 x174002) else (spec_HearRow.l0 k x7 (wrap64 (x8 + 1)) x166000 x166001 x166002 x167000 x174000 x174001 x174002))) else (spec_HearRow.l0 k x7 (wrap64 (x8 + 1)) x166000 x166001 x166002 x167000 x174000 x174001 x174002)) else (none)) else (none))) else (if x7 < 0 then (some (x174000, x174001, x174002, false)) else (spec_HearRow.l1 k x7 (([] : List Int)) (([] : List (List Int))) 0 x166000 x166001 x166002 x167000 x174000 x174001 x174002))
def spec_HearRow.l1 : Nat → Int → List Int → List (List Int) → Int → Int → List (List Int) → Int → List Int → Int → List (List Int) → Int → Option (Int × (List (List Int)) × Int × Bool)
 | 0, _, _, _, _, _, _, _, _, _, _, _ => none
 | k + 1, x7, x10, x11, x12, x166000, x166001, x166002, x167000, x174000, x174001, x174002 => if x12 < (x166001.length : Int) then (spec_HearRow.l2 k x7 x10 x11 x12 (([] : List Int)) 0 x166000 x166001 x166002 x167000 x174000 x174001 x174002) else (if (wrap64 (x7 + 1)) = (x166001.length : Int) then (if x11.length < 5864062014805 then (spec_HearRow.j4 k (x11 ++ [x10]) x166000 x166001 x166002 x174000 x174001 x174002) else (none)) else (spec_HearRow.j4 k x11 x166000 x166001 x166002 x174000 x174001 x174002))
def spec_HearRow.l2 : Nat → Int → List Int → List (List Int) → Int → List Int → Int → Int → List (List Int) → Int → List Int → Int → List (List Int) → Int → Option (Int × (List (List Int)) × Int × Bool)
 | 0, _, _, _, _, _, _, _, _, _, _, _, _, _ => none
 | k + 1, x7, x10, x11, x12, x13, x14, x166000, x166001, x166002, x167000, x174000, x174001, x174002 => if 0 ≤ x12 then (if x12 < (x166001.length : Int) then (if x14 < ((rd_L1 x166001 x12).length : Int) then (if 0 ≤ x14 then (if x12 ≤ x7 then (if 0 ≤ (rd (rd_L1 x166001 x12) x14) then (if (rd (rd_L1 x166001 x12) x14) < (x167000.length : Int) then (if (rd x167000 (rd (rd_L1 x166001 x12) x14)) = (-1) then (if x10.length < 17592186044416 then (spec_HearRow.l2 k x7 (x10 ++ [rd (rd_L1 x166001 x12) x14]) x11 x12 x13 (wrap64 (x14 + 1)) x166000 x166001 x166002 x167000 x174000 x174001 x174002) else (none)) else (if x13.length < 17592186044416 then (spec_HearRow.l2 k x7 x10 x11 x12 (x13 ++ [rd (rd_L1 x166001 x12) x14]) (wrap64 (x14 + 1)) x166000 x166001 x166002 x167000 x174000 x174001 x174002) else (none))) else (none)) else (none)) else (if x13.length < 17592186044416 then (spec_HearRow.l2 k x7 x10 x11 x12 (x13 ++ [rd (rd_L1 x166001 x12) x14]) (wrap64 (x14 + 1)) x166000 x166001 x166002 x167000 x174000 x174001 x174002) else (none))) else (none)) else (if x12 = (wrap64 (x7 + 1)) then (if x13.length + x10.length < 17592186044416 then (if x11.length < 5864062014805 then (spec_HearRow.l1 k x7 x10 (x11 ++ [(x13 ++ x10)]) (wrap64 (x12 + 1)) x166000 x166001 x166002 x167000 x174000 x174001 x174002) else (none)) else (none)) else (if x11.length < 5864062014805 then (spec_HearRow.l1 k x7 x10 (x11 ++ [x13]) (wrap64 (x12 + 1)) x166000 x166001 x166002 x167000 x174000 x174001 x174002) else (none)))) else (none)) else (none)
def spec_HearRow.j4 : Nat → List (List Int) → Int → List (List Int) → Int → Int → List (List Int) → Int → Option (Int × (List (List Int)) × Int × Bool)
 | 0, _, _, _, _, _, _, _ => none
 | k + 1, x11, x166000, x166001, x166002, x174000, x174001, x174002 => spec_HearRow.l3 k x11 0 x166000 x166001 x166002 x174000 (([] : List (List Int))) x174002
def spec_HearRow.l3 : Nat → List (List Int) → Int → Int → List (List Int) → Int → Int → List (List Int) → Int → Option (Int × (List (List Int)) × Int × Bool)
 | 0, _, _, _, _, _, _, _, _ => none
 | k + 1, x11, x16, x166000, x166001, x166002, x174000, x174001, x174002 => if x16 < (x11.length : Int) then (if 0 ≤ x16 then (if ((rd_L1 x11 x16).length : Int) > 0 then ((spec_l22Sorted.f k (rd_L1 x11 x16)).bind fun t218 => (if x174001.length < 5864062014805 then (spec_HearRow.l3 k x11 (wrap64 (x16 + 1)) x166000 x166001 x166002 x174000 (x174001 ++ [t218]) x174002) else (none))) else (spec_HearRow.l3 k x11 (wrap64 (x16 + 1)) x166000 x166001 x166002 x174000 x174001 x174002)) else (none)) else (some (x174000, x174001, wrap64 (x166002 + 1), true))
end
def spec_HearRow.f (k : Nat) (a0_0 : Int) (l0_1 : List (List Int)) (a0_2 : Int) (l1_0 : List Int) : Option (Int × (List (List Int)) × Int × Bool) := (spec_l22Copy.f k a0_0 l0_1 a0_2).bind fun bt168 => ((spec_IsLearner.f k a0_0 l0_1 a0_2).bind fun t174 => (if t174 = true then ((spec_IsRow.f k l1_0 a0_0).bind fun t175 => (if t175 = true then (if a0_2 ≥ 1000 then (spec_HearRow.j0 k true a0_0 l0_1 a0_2 l1_0 bt168.1 bt168.2.1 bt168.2.2) else ((spec_StrataSatisfy.f k l0_1 l1_0).bind fun t176 => (spec_HearRow.j0 k t176 a0_0 l0_1 a0_2 l1_0 bt168.1 bt168.2.1 bt168.2.2))) else (spec_HearRow.j0 k true a0_0 l0_1 a0_2 l1_0 bt168.1 bt168.2.1 bt168.2.2))) else (spec_HearRow.j0 k true a0_0 l0_1 a0_2 l1_0 bt168.1 bt168.2.1 bt168.2.2)))
def spec_HearRow.T36 : Bool × List (List Nat × List Nat) := (true, [([], []), ([0], [0]), ([], []), ([], []), ([2, 3], [2, 3]), ([4], [4]), ([5], [5]), ([6], [6]), ([1, 7, 6], [1, 7]), ([0, 1, 2, 3, 4, 5, 6, 7, 8], []), ([9, 8, 8, 0, 1, 2, 3, 4, 5, 6, 7, 8], [8, 9])])
def spec_HearRow.B36 : List Nat := [0, 1, 0, 0, 12, 28, 60, 124, 255, 511, 1023]
theorem spec_HearRow.tab36 : rtab .any (opsOf Try.f14 36) = spec_HearRow.T36 := by kernel_rfl
theorem spec_HearRow.bits36 : waitsOk spec_HearRow.T36.2 spec_HearRow.B36 = true := by kernel_rfl
set_option maxHeartbeats 8000000 in
set_option maxRecDepth 100000 in
theorem spec_HearRow.calls (k : Nat) (a0_0 : Int) (A0_1 : Option Addr) (c0_1 : Nat) (l0_1 : List (List Int)) (a0_2 : Int) (A1_0 : Option Addr) (c1_0 : Nat) (l1_0 : List Int) (r1 : Int) (r2 : List (List Int)) (r3 : Int) (r4 : Bool) (w : World) (hr0_1 : Kd.C (Kd.slice 3 (Kd.int .i64)) w A0_1 l0_1.length l0_1) (hc0_1 : l0_1.length ≤ c0_1) (hr1_0 : Kd.C (Kd.int .i64) w A1_0 l1_0.length l1_0) (hc1_0 : l1_0.length ≤ c1_0) (h : spec_HearRow.f k a0_0 l0_1 a0_2 l1_0 = some (r1, r2, r3, r4)) :
  Calls Try.prog 14 #[.agg #[.int .i64 a0_0, .slice A0_1 l0_1.length c0_1, .int .i64 a0_2], .agg #[.slice A1_0 l1_0.length c1_0]] w fun e w' => ∃ v1_ : Value, e = .returned (.tuple #[.agg #[.int .i64 r1, v1_, .int .i64 r3], .bool r4]) ∧ Kd.S (Kd.slice 3 (Kd.int .i64)) 25 w' w.heap.size (fun _ => True) v1_ r2 ∧ Below w.heap.size w w' := by
 have hu30 := Try.underlying30
 have hu34 := Try.underlying34
 have HR0_1 := Aside0.mk hr0_1
 have HC0_1 := Aside0.mk hc0_1
 clear hr0_1 hc0_1
 have HR1_0 := Aside0.mk hr1_0
 have HC1_0 := Aside0.mk hc1_0
 clear hr1_0 hc1_0
 have HB := Aside0.mk (Below.refl w.heap.size w)
 have H : ((spec_l22Copy.f k a0_0 l0_1 a0_2).bind fun bt168 => ((spec_IsLearner.f k a0_0 l0_1 a0_2).bind fun t174 => (if t174 = true then ((spec_IsRow.f k l1_0 a0_0).bind fun t175 => (if t175 = true then (if a0_2 ≥ 1000 then (spec_HearRow.j0 k true a0_0 l0_1 a0_2 l1_0 bt168.1 bt168.2.1 bt168.2.2) else ((spec_StrataSatisfy.f k l0_1 l1_0).bind fun t176 => (spec_HearRow.j0 k t176 a0_0 l0_1 a0_2 l1_0 bt168.1 bt168.2.1 bt168.2.2))) else (spec_HearRow.j0 k true a0_0 l0_1 a0_2 l1_0 bt168.1 bt168.2.1 bt168.2.2))) else (spec_HearRow.j0 k true a0_0 l0_1 a0_2 l1_0 bt168.1 bt168.2.1 bt168.2.2)))) = some (r1, r2, r3, r4) := h
 clear h
 replace H := Option.bind_eq_some_iff.mp H
 obtain ⟨⟨t168, t169, t172⟩, A30, H⟩ := H
 replace H : ((spec_IsLearner.f k a0_0 l0_1 a0_2).bind fun t174 => (if t174 = true then ((spec_IsRow.f k l1_0 a0_0).bind fun t175 => (if t175 = true then (if a0_2 ≥ 1000 then (spec_HearRow.j0 k true a0_0 l0_1 a0_2 l1_0 t168 t169 t172) else ((spec_StrataSatisfy.f k l0_1 l1_0).bind fun t176 => (spec_HearRow.j0 k t176 a0_0 l0_1 a0_2 l1_0 t168 t169 t172))) else (spec_HearRow.j0 k true a0_0 l0_1 a0_2 l1_0 t168 t169 t172))) else (spec_HearRow.j0 k true a0_0 l0_1 a0_2 l1_0 t168 t169 t172))) = some (r1, r2, r3, r4) := H
 have A3 := Aside0.mk A30
 clear A30
 have HC4 := Aside0.mk H
 clear H
 go_enter Try.func14, Try.ntmps14
 go_upto_region 2 with (first | ((refine gd_ 2 ?_); refine bx_ 2 #[.int .i64 a0_0, .slice A0_1 l0_1.length c0_1, .int .i64 a0_2] 30 ?_; intro gb165 hg w5 hbox hb; have BK165 := Aside0.mk (hbox); have GW165 := gw_ HB hg; have GE165 := gw_ HB hg; replace HB := bs_ HB hb; clear hb hbox hg) | ((refine gd_ 3 ?_); refine bx_ 3 #[.slice A1_0 l1_0.length c1_0] 34 ?_; intro gb166 hg w6 hbox hb; have BK166 := Aside0.mk (hbox); have GW166 := gw_ HB hg; have GE166 := gw_ HB hg; replace HB := bs_ HB hb; have NB165_166 := Aside0.mk ((by rw [hg]; exact Nat.ne_of_lt (blk_lt (g := gb165) (o := .cells #[.int .i64 a0_0, .slice A0_1 l0_1.length c0_1, .int .i64 a0_2] 30 (0, 0)) (up_ BK165.out)) : gb165 ≠ gb166)); have NB166_165 := Aside0.mk ((by rw [hg]; exact Nat.ne_of_gt (blk_lt (g := gb165) (o := .cells #[.int .i64 a0_0, .slice A0_1 l0_1.length c0_1, .int .i64 a0_2] 30 (0, 0)) (up_ BK165.out)) : gb166 ≠ gb165)); replace BK165 := bb_ BK165 hb; clear hb hbox hg) | ((refine gd_ 4 ?_); refine bx_ 4 #[.int .i64 0, .slice none 0 0, .int .i64 0] 30 ?_; intro gb167 hg w7 hbox hb; have BK167 := Aside0.mk (hbox); have GW167 := gw_ HB hg; have GE167 := gw_ HB hg; replace HB := bs_ HB hb; have NB165_167 := Aside0.mk ((by rw [hg]; exact Nat.ne_of_lt (blk_lt (g := gb165) (o := .cells #[.int .i64 a0_0, .slice A0_1 l0_1.length c0_1, .int .i64 a0_2] 30 (0, 0)) (up_ BK165.out)) : gb165 ≠ gb167)); have NB167_165 := Aside0.mk ((by rw [hg]; exact Nat.ne_of_gt (blk_lt (g := gb165) (o := .cells #[.int .i64 a0_0, .slice A0_1 l0_1.length c0_1, .int .i64 a0_2] 30 (0, 0)) (up_ BK165.out)) : gb167 ≠ gb165)); replace BK165 := bb_ BK165 hb; have NB166_167 := Aside0.mk ((by rw [hg]; exact Nat.ne_of_lt (blk_lt (g := gb166) (o := .cells #[.slice A1_0 l1_0.length c1_0] 34 (0, 0)) (up_ BK166.out)) : gb166 ≠ gb167)); have NB167_166 := Aside0.mk ((by rw [hg]; exact Nat.ne_of_gt (blk_lt (g := gb166) (o := .cells #[.slice A1_0 l1_0.length c1_0] 34 (0, 0)) (up_ BK166.out)) : gb167 ≠ gb166)); replace BK166 := bb_ BK166 hb; clear hb hbox hg; have hnb8 := NB165_166.out; have hnc8 := NB166_165.out; have hnb9 := NB165_167.out; have hnc9 := NB167_165.out; obtain ⟨hcz10_0, hcz10_1, hcz10_2⟩ := c3_ BK165; have hfz10_0 := blk_frozen BK165.out 0; have hfz10_1 := blk_frozen BK165.out 1; have hfz10_2 := blk_frozen BK165.out 2) | ((refine gc_ 76 ?_); refine gl_ (some 18) Try.func76 (spec_l22Copy.calls k a0_0 _ _ l0_1 a0_2 t168 t169 t172 _ (Kd.C_below HR0_1.out (up_ HB.out)) HC0_1.out A3.out) ?_; rintro e w11 ⟨v170, rfl, ho0, hb⟩; refine ⟨_, rfl, ?_⟩; have HO171 := Aside0.mk (Kd.S_lower ho0 (below_size (up_ HB.out))); replace BK165 := bb_ BK165 hb; replace BK166 := bb_ BK166 hb; replace BK167 := bb_ BK167 hb; replace HB := bs_ HB hb; (try clear hb); (try clear hb2); (try clear hk); (try clear hi); (try clear ho0)) | ((refine gd_ 6 ?_); refine bx_ 6 #[.int .i64 0, .slice none 0 0, .int .i64 0] 30 ?_; intro gb173 hg w12 hbox hb; replace HO171 := Aside0.mk (Kd.S_below (up_ HO171.out) hb); have BK173 := Aside0.mk (hbox); have GW173 := gw_ HB hg; have GE173 := gw_ HB hg; replace HB := bs_ HB hb; have NB165_173 := Aside0.mk ((by rw [hg]; exact Nat.ne_of_lt (blk_lt (g := gb165) (o := .cells #[.int .i64 a0_0, .slice A0_1 l0_1.length c0_1, .int .i64 a0_2] 30 (0, 0)) (up_ BK165.out)) : gb165 ≠ gb173)); have NB173_165 := Aside0.mk ((by rw [hg]; exact Nat.ne_of_gt (blk_lt (g := gb165) (o := .cells #[.int .i64 a0_0, .slice A0_1 l0_1.length c0_1, .int .i64 a0_2] 30 (0, 0)) (up_ BK165.out)) : gb173 ≠ gb165)); replace BK165 := bb_ BK165 hb; have NB166_173 := Aside0.mk ((by rw [hg]; exact Nat.ne_of_lt (blk_lt (g := gb166) (o := .cells #[.slice A1_0 l1_0.length c1_0] 34 (0, 0)) (up_ BK166.out)) : gb166 ≠ gb173)); have NB173_166 := Aside0.mk ((by rw [hg]; exact Nat.ne_of_gt (blk_lt (g := gb166) (o := .cells #[.slice A1_0 l1_0.length c1_0] 34 (0, 0)) (up_ BK166.out)) : gb173 ≠ gb166)); replace BK166 := bb_ BK166 hb; have NB167_173 := Aside0.mk ((by rw [hg]; exact Nat.ne_of_lt (blk_lt (g := gb167) (o := .cells #[.int .i64 0, .slice none 0 0, .int .i64 0] 30 (0, 0)) (up_ BK167.out)) : gb167 ≠ gb173)); have NB173_167 := Aside0.mk ((by rw [hg]; exact Nat.ne_of_gt (blk_lt (g := gb167) (o := .cells #[.int .i64 0, .slice none 0 0, .int .i64 0] 30 (0, 0)) (up_ BK167.out)) : gb173 ≠ gb167)); replace BK167 := bb_ BK167 hb; clear hb hbox hg; have hnb13 := NB173_165.out; have hnc13 := NB165_173.out; have hnb14 := NB173_166.out; have hnc14 := NB166_173.out; have hnb15 := NB173_167.out; have hnc15 := NB167_173.out; obtain ⟨hcz16_0, hcz16_1, hcz16_2⟩ := c3_ BK173; have hfz16_0 := blk_frozen BK173.out 0; have hfz16_1 := blk_frozen BK173.out 1; have hfz16_2 := blk_frozen BK173.out 2; obtain ⟨Ao17, co17, eo17⟩ := Kd.S_slice HO171.out; subst eo17))
 (try simp only [Act.put, List.setIfInBounds_toArray, List.set_cons_zero, List.set_cons_succ])
 go_cut [39] (fun v39 wc => ∃ (kq : Nat) (x39_3 : Bool), v39 = .bool x39_3 ∧ Aside0 (spec_HearRow.j0 kq x39_3 a0_0 l0_1 a0_2 l1_0 t168 t169 t172 = some (r1, r2, r3, r4)) ∧ Aside0 (kq ≤ k) ∧ Aside0 (Kd.S (Kd.slice 3 (Kd.int .i64)) 25 wc w.heap.size (fun _ => True) (.slice Ao17 t169.length co17) t169) ∧ Aside0 (wc.heap[gb165]? = some (.cells #[.int .i64 a0_0, (.slice A0_1 l0_1.length c0_1), .int .i64 a0_2] 30 (0, 0))) ∧ Aside0 (wc.heap[gb166]? = some (.cells #[(.slice A1_0 l1_0.length c1_0)] 34 (0, 0))) ∧ Aside0 (wc.heap[gb167]? = some (.cells #[.int .i64 0, (.slice none 0 0), .int .i64 0] 30 (0, 0))) ∧ Aside0 (wc.heap[gb173]? = some (.cells #[.int .i64 t168, (.slice Ao17 t169.length co17), .int .i64 t172] 30 (0, 0))) ∧ Aside0 (Below w.heap.size w wc))
 case first =>
  have H := HC4.out
  clear HC4
  replace H := Option.bind_eq_some_iff.mp H
  obtain ⟨t174, A180, H⟩ := H
  replace H : (if t174 = true then ((spec_IsRow.f k l1_0 a0_0).bind fun t175 => (if t175 = true then (if a0_2 ≥ 1000 then (spec_HearRow.j0 k true a0_0 l0_1 a0_2 l1_0 t168 t169 t172) else ((spec_StrataSatisfy.f k l0_1 l1_0).bind fun t176 => (spec_HearRow.j0 k t176 a0_0 l0_1 a0_2 l1_0 t168 t169 t172))) else (spec_HearRow.j0 k true a0_0 l0_1 a0_2 l1_0 t168 t169 t172))) else (spec_HearRow.j0 k true a0_0 l0_1 a0_2 l1_0 t168 t169 t172)) = some (r1, r2, r3, r4) := H
  have A18 := Aside0.mk A180
  clear A180
  replace H := itb_ H; rcases H with ⟨rfl, H⟩ | ⟨rfl, H⟩
  ·replace H := Option.bind_eq_some_iff.mp H
   obtain ⟨t175, A200, H⟩ := H
   replace H : (if t175 = true then (if a0_2 ≥ 1000 then (spec_HearRow.j0 k true a0_0 l0_1 a0_2 l1_0 t168 t169 t172) else ((spec_StrataSatisfy.f k l0_1 l1_0).bind fun t176 => (spec_HearRow.j0 k t176 a0_0 l0_1 a0_2 l1_0 t168 t169 t172))) else (spec_HearRow.j0 k true a0_0 l0_1 a0_2 l1_0 t168 t169 t172)) = some (r1, r2, r3, r4) := H
   have A20 := Aside0.mk A200
   clear A200
   replace H := itb_ H; rcases H with ⟨rfl, H⟩ | ⟨rfl, H⟩
   ·by_cases c22 : a0_2 ≥ 1000
    ·rw [if_pos c22] at H
     have c22b0 : decide (1000 ≤ a0_2) = true := decide_eq_true c22
     clear c22
     (first | rw [c22b0] | (simp only [i64_w, i32_w]; rw [c22b0]) | skip)
     have H' := Aside0.mk H
     clear H
     have hnb23 := NB165_166.out
     have hnc23 := NB166_165.out
     have hnb24 := NB165_167.out
     have hnc24 := NB167_165.out
     have hnb25 := NB165_173.out
     have hnc25 := NB173_165.out
     obtain ⟨hcz26_0, hcz26_1, hcz26_2⟩ := c3_ BK165
     have hfz26_0 := blk_frozen BK165.out 0
     have hfz26_1 := blk_frozen BK165.out 1
     have hfz26_2 := blk_frozen BK165.out 2
     go_wp2_with (first | ((refine gc_ 77 ?_); refine gl_ (some 20) Try.func77 (spec_IsLearner.calls k a0_0 _ _ l0_1 a0_2 true _ (Kd.C_below HR0_1.out (up_ HB.out)) HC0_1.out A18.out) ?_; rintro e w27 ⟨rfl, hb⟩; refine ⟨_, rfl, ?_⟩; replace HO171 := Aside0.mk (Kd.S_below (by (with_reducible repeat (first | apply Kd.S_alloc | apply Kd.S_drewN | apply Kd.S_drew)); exact (Kd.S_mono (Kd.S_far (p := ⟨gb173, 2, none⟩) (Kd.S_far (p := ⟨gb173, 1, none⟩) (Kd.S_far (p := ⟨gb173, 0, none⟩) (Kd.S_types HO171.out BK173.out (by decide)) (fun _ hk => hk.2) (.int .i64 t168)) (fun _ hk => hk.2) (.slice Ao17 t169.length co17)) (fun _ hk => hk.2) (.int .i64 t172)) (fun _ h_ => h_.1))) hb); replace BK165 := Aside0.mk (blk_below (g := gb165) (o := .cells #[.int .i64 a0_0, .slice A0_1 l0_1.length c0_1, .int .i64 a0_2] 30 (0, 0)) (by (with_reducible repeat (first | refine blk_drewN ?_ _ | refine blk_drew ?_ | refine blk_alloc ?_ _)); refine blk_far ?_ NB165_173.out _; (with_reducible repeat (first | refine blk_drewN ?_ _ | refine blk_drew ?_ | refine blk_alloc ?_ _)); refine blk_far ?_ NB165_173.out _; (with_reducible repeat (first | refine blk_drewN ?_ _ | refine blk_drew ?_ | refine blk_alloc ?_ _)); refine blk_far ?_ NB165_173.out _; (with_reducible repeat (first | refine blk_drewN ?_ _ | refine blk_drew ?_ | refine blk_alloc ?_ _)); exact BK165.out) hb); replace BK166 := Aside0.mk (blk_below (g := gb166) (o := .cells #[.slice A1_0 l1_0.length c1_0] 34 (0, 0)) (by (with_reducible repeat (first | refine blk_drewN ?_ _ | refine blk_drew ?_ | refine blk_alloc ?_ _)); refine blk_far ?_ NB166_173.out _; (with_reducible repeat (first | refine blk_drewN ?_ _ | refine blk_drew ?_ | refine blk_alloc ?_ _)); refine blk_far ?_ NB166_173.out _; (with_reducible repeat (first | refine blk_drewN ?_ _ | refine blk_drew ?_ | refine blk_alloc ?_ _)); refine blk_far ?_ NB166_173.out _; (with_reducible repeat (first | refine blk_drewN ?_ _ | refine blk_drew ?_ | refine blk_alloc ?_ _)); exact BK166.out) hb); replace BK167 := Aside0.mk (blk_below (g := gb167) (o := .cells #[.int .i64 0, .slice none 0 0, .int .i64 0] 30 (0, 0)) (by (with_reducible repeat (first | refine blk_drewN ?_ _ | refine blk_drew ?_ | refine blk_alloc ?_ _)); refine blk_far ?_ NB167_173.out _; (with_reducible repeat (first | refine blk_drewN ?_ _ | refine blk_drew ?_ | refine blk_alloc ?_ _)); refine blk_far ?_ NB167_173.out _; (with_reducible repeat (first | refine blk_drewN ?_ _ | refine blk_drew ?_ | refine blk_alloc ?_ _)); refine blk_far ?_ NB167_173.out _; (with_reducible repeat (first | refine blk_drewN ?_ _ | refine blk_drew ?_ | refine blk_alloc ?_ _)); exact BK167.out) hb); replace BK173 := Aside0.mk (blk_below (g := gb173) (o := .cells #[.int .i64 t168, .slice Ao17 t169.length co17, .int .i64 t172] 30 (0, 0)) (by (with_reducible repeat (first | refine blk_drewN ?_ _ | refine blk_drew ?_ | refine blk_alloc ?_ _)); refine blk_put (cs := #[.int .i64 t168, .slice Ao17 t169.length co17, .int .i64 0]) ?_ 2 _ rfl; (with_reducible repeat (first | refine blk_drewN ?_ _ | refine blk_drew ?_ | refine blk_alloc ?_ _)); refine blk_put (cs := #[.int .i64 t168, .slice none 0 0, .int .i64 0]) ?_ 1 _ rfl; (with_reducible repeat (first | refine blk_drewN ?_ _ | refine blk_drew ?_ | refine blk_alloc ?_ _)); refine blk_put (cs := #[.int .i64 0, .slice none 0 0, .int .i64 0]) ?_ 0 _ rfl; (with_reducible repeat (first | refine blk_drewN ?_ _ | refine blk_drew ?_ | refine blk_alloc ?_ _)); exact BK173.out) hb); replace HB := bs_ HB hb; (try clear hb); (try clear hb2); (try clear hk); (try clear hi); have hnb28 := NB166_167.out; have hnc28 := NB167_166.out; have hnb29 := NB166_173.out; have hnc29 := NB173_166.out; have hcz30_0 := c1_ BK166; have hfz30_0 := blk_frozen BK166.out 0; obtain ⟨hcz31_0, hcz31_1, hcz31_2⟩ := c3_ BK165; have hfz31_0 := blk_frozen BK165.out 0; have hfz31_1 := blk_frozen BK165.out 1; have hfz31_2 := blk_frozen BK165.out 2) | (go_at_call 78; (with_reducible refine (spec_IsRow.calls k _ _ l1_0 a0_0 true _ (Kd.C_below HR1_0.out (up_ HB.out)) HC1_0.out A20.out).mono ?_); rintro e w32 ⟨rfl, hb⟩; replace HO171 := Aside0.mk (Kd.S_below (up_ HO171.out) hb); replace BK165 := bb_ BK165 hb; replace BK166 := bb_ BK166 hb; replace BK167 := bb_ BK167 hb; replace BK173 := bb_ BK173 hb; replace HB := bs_ HB hb; (try clear hb); (try clear hb2); (try clear hk); (try clear hi); obtain ⟨hcz33_0, hcz33_1, hcz33_2⟩ := c3_ BK165; have hfz33_0 := blk_frozen BK165.out 0; have hfz33_1 := blk_frozen BK165.out 1; have hfz33_2 := blk_frozen BK165.out 2))
     go_meet
     case rel => exact ⟨_, (true), rs_, H', ⟨by first | omega | exact Nat.le_refl _⟩, ⟨up_ HO171.out⟩, ⟨up_ BK165.out⟩, ⟨up_ BK166.out⟩, ⟨up_ BK167.out⟩, ⟨up_ BK173.out⟩, ⟨up_ HB.out⟩⟩
    ·rw [if_neg c22] at H
     have c22b0 : decide (1000 ≤ a0_2) = false := decide_eq_false c22
     clear c22
     (first | rw [c22b0] | (simp only [i64_w, i32_w]; rw [c22b0]) | skip)
     replace H := Option.bind_eq_some_iff.mp H
     obtain ⟨t176, A340, H⟩ := H
     replace H : (spec_HearRow.j0 k t176 a0_0 l0_1 a0_2 l1_0 t168 t169 t172) = some (r1, r2, r3, r4) := H
     have A34 := Aside0.mk A340
     clear A340
     have H' := Aside0.mk H
     clear H
     have hnb35 := NB165_166.out
     have hnc35 := NB166_165.out
     have hnb36 := NB165_167.out
     have hnc36 := NB167_165.out
     have hnb37 := NB165_173.out
     have hnc37 := NB173_165.out
     obtain ⟨hcz38_0, hcz38_1, hcz38_2⟩ := c3_ BK165
     have hfz38_0 := blk_frozen BK165.out 0
     have hfz38_1 := blk_frozen BK165.out 1
     have hfz38_2 := blk_frozen BK165.out 2
     go_wp2_with (first | ((refine gc_ 77 ?_); refine gl_ (some 20) Try.func77 (spec_IsLearner.calls k a0_0 _ _ l0_1 a0_2 true _ (Kd.C_below HR0_1.out (up_ HB.out)) HC0_1.out A18.out) ?_; rintro e w39 ⟨rfl, hb⟩; refine ⟨_, rfl, ?_⟩; replace HO171 := Aside0.mk (Kd.S_below (by (with_reducible repeat (first | apply Kd.S_alloc | apply Kd.S_drewN | apply Kd.S_drew)); exact (Kd.S_mono (Kd.S_far (p := ⟨gb173, 2, none⟩) (Kd.S_far (p := ⟨gb173, 1, none⟩) (Kd.S_far (p := ⟨gb173, 0, none⟩) (Kd.S_types HO171.out BK173.out (by decide)) (fun _ hk => hk.2) (.int .i64 t168)) (fun _ hk => hk.2) (.slice Ao17 t169.length co17)) (fun _ hk => hk.2) (.int .i64 t172)) (fun _ h_ => h_.1))) hb); replace BK165 := Aside0.mk (blk_below (g := gb165) (o := .cells #[.int .i64 a0_0, .slice A0_1 l0_1.length c0_1, .int .i64 a0_2] 30 (0, 0)) (by (with_reducible repeat (first | refine blk_drewN ?_ _ | refine blk_drew ?_ | refine blk_alloc ?_ _)); refine blk_far ?_ NB165_173.out _; (with_reducible repeat (first | refine blk_drewN ?_ _ | refine blk_drew ?_ | refine blk_alloc ?_ _)); refine blk_far ?_ NB165_173.out _; (with_reducible repeat (first | refine blk_drewN ?_ _ | refine blk_drew ?_ | refine blk_alloc ?_ _)); refine blk_far ?_ NB165_173.out _; (with_reducible repeat (first | refine blk_drewN ?_ _ | refine blk_drew ?_ | refine blk_alloc ?_ _)); exact BK165.out) hb); replace BK166 := Aside0.mk (blk_below (g := gb166) (o := .cells #[.slice A1_0 l1_0.length c1_0] 34 (0, 0)) (by (with_reducible repeat (first | refine blk_drewN ?_ _ | refine blk_drew ?_ | refine blk_alloc ?_ _)); refine blk_far ?_ NB166_173.out _; (with_reducible repeat (first | refine blk_drewN ?_ _ | refine blk_drew ?_ | refine blk_alloc ?_ _)); refine blk_far ?_ NB166_173.out _; (with_reducible repeat (first | refine blk_drewN ?_ _ | refine blk_drew ?_ | refine blk_alloc ?_ _)); refine blk_far ?_ NB166_173.out _; (with_reducible repeat (first | refine blk_drewN ?_ _ | refine blk_drew ?_ | refine blk_alloc ?_ _)); exact BK166.out) hb); replace BK167 := Aside0.mk (blk_below (g := gb167) (o := .cells #[.int .i64 0, .slice none 0 0, .int .i64 0] 30 (0, 0)) (by (with_reducible repeat (first | refine blk_drewN ?_ _ | refine blk_drew ?_ | refine blk_alloc ?_ _)); refine blk_far ?_ NB167_173.out _; (with_reducible repeat (first | refine blk_drewN ?_ _ | refine blk_drew ?_ | refine blk_alloc ?_ _)); refine blk_far ?_ NB167_173.out _; (with_reducible repeat (first | refine blk_drewN ?_ _ | refine blk_drew ?_ | refine blk_alloc ?_ _)); refine blk_far ?_ NB167_173.out _; (with_reducible repeat (first | refine blk_drewN ?_ _ | refine blk_drew ?_ | refine blk_alloc ?_ _)); exact BK167.out) hb); replace BK173 := Aside0.mk (blk_below (g := gb173) (o := .cells #[.int .i64 t168, .slice Ao17 t169.length co17, .int .i64 t172] 30 (0, 0)) (by (with_reducible repeat (first | refine blk_drewN ?_ _ | refine blk_drew ?_ | refine blk_alloc ?_ _)); refine blk_put (cs := #[.int .i64 t168, .slice Ao17 t169.length co17, .int .i64 0]) ?_ 2 _ rfl; (with_reducible repeat (first | refine blk_drewN ?_ _ | refine blk_drew ?_ | refine blk_alloc ?_ _)); refine blk_put (cs := #[.int .i64 t168, .slice none 0 0, .int .i64 0]) ?_ 1 _ rfl; (with_reducible repeat (first | refine blk_drewN ?_ _ | refine blk_drew ?_ | refine blk_alloc ?_ _)); refine blk_put (cs := #[.int .i64 0, .slice none 0 0, .int .i64 0]) ?_ 0 _ rfl; (with_reducible repeat (first | refine blk_drewN ?_ _ | refine blk_drew ?_ | refine blk_alloc ?_ _)); exact BK173.out) hb); replace HB := bs_ HB hb; (try clear hb); (try clear hb2); (try clear hk); (try clear hi); have hnb40 := NB166_167.out; have hnc40 := NB167_166.out; have hnb41 := NB166_173.out; have hnc41 := NB173_166.out; have hcz42_0 := c1_ BK166; have hfz42_0 := blk_frozen BK166.out 0; obtain ⟨hcz43_0, hcz43_1, hcz43_2⟩ := c3_ BK165; have hfz43_0 := blk_frozen BK165.out 0; have hfz43_1 := blk_frozen BK165.out 1; have hfz43_2 := blk_frozen BK165.out 2) | (go_at_call 78; (with_reducible refine (spec_IsRow.calls k _ _ l1_0 a0_0 true _ (Kd.C_below HR1_0.out (up_ HB.out)) HC1_0.out A20.out).mono ?_); rintro e w44 ⟨rfl, hb⟩; replace HO171 := Aside0.mk (Kd.S_below (up_ HO171.out) hb); replace BK165 := bb_ BK165 hb; replace BK166 := bb_ BK166 hb; replace BK167 := bb_ BK167 hb; replace BK173 := bb_ BK173 hb; replace HB := bs_ HB hb; (try clear hb); (try clear hb2); (try clear hk); (try clear hi); obtain ⟨hcz45_0, hcz45_1, hcz45_2⟩ := c3_ BK165; have hfz45_0 := blk_frozen BK165.out 0; have hfz45_1 := blk_frozen BK165.out 1; have hfz45_2 := blk_frozen BK165.out 2; have hcz46_0 := c1_ BK166; have hfz46_0 := blk_frozen BK166.out 0) | (go_at_call 79; (with_reducible refine (spec_StrataSatisfy.calls k _ _ l0_1 _ _ l1_0 t176 _ (Kd.C_below HR0_1.out (up_ HB.out)) HC0_1.out (Kd.C_below HR1_0.out (up_ HB.out)) HC1_0.out A34.out).mono ?_); rintro e w47 ⟨rfl, hb⟩; replace HO171 := Aside0.mk (Kd.S_below (up_ HO171.out) hb); replace BK165 := bb_ BK165 hb; replace BK166 := bb_ BK166 hb; replace BK167 := bb_ BK167 hb; replace BK173 := bb_ BK173 hb; replace HB := bs_ HB hb; (try clear hb); (try clear hb2); (try clear hk); (try clear hi)))
     go_meet
     case rel => exact ⟨_, (t176), rs_, H', ⟨by first | omega | exact Nat.le_refl _⟩, ⟨up_ HO171.out⟩, ⟨up_ BK165.out⟩, ⟨up_ BK166.out⟩, ⟨up_ BK167.out⟩, ⟨up_ BK173.out⟩, ⟨up_ HB.out⟩⟩
   ·have H' := Aside0.mk H
    clear H
    have hnb48 := NB165_166.out
    have hnc48 := NB166_165.out
    have hnb49 := NB165_167.out
    have hnc49 := NB167_165.out
    have hnb50 := NB165_173.out
    have hnc50 := NB173_165.out
    obtain ⟨hcz51_0, hcz51_1, hcz51_2⟩ := c3_ BK165
    have hfz51_0 := blk_frozen BK165.out 0
    have hfz51_1 := blk_frozen BK165.out 1
    have hfz51_2 := blk_frozen BK165.out 2
    go_wp2_with (first | ((refine gc_ 77 ?_); refine gl_ (some 20) Try.func77 (spec_IsLearner.calls k a0_0 _ _ l0_1 a0_2 true _ (Kd.C_below HR0_1.out (up_ HB.out)) HC0_1.out A18.out) ?_; rintro e w52 ⟨rfl, hb⟩; refine ⟨_, rfl, ?_⟩; replace HO171 := Aside0.mk (Kd.S_below (by (with_reducible repeat (first | apply Kd.S_alloc | apply Kd.S_drewN | apply Kd.S_drew)); exact (Kd.S_mono (Kd.S_far (p := ⟨gb173, 2, none⟩) (Kd.S_far (p := ⟨gb173, 1, none⟩) (Kd.S_far (p := ⟨gb173, 0, none⟩) (Kd.S_types HO171.out BK173.out (by decide)) (fun _ hk => hk.2) (.int .i64 t168)) (fun _ hk => hk.2) (.slice Ao17 t169.length co17)) (fun _ hk => hk.2) (.int .i64 t172)) (fun _ h_ => h_.1))) hb); replace BK165 := Aside0.mk (blk_below (g := gb165) (o := .cells #[.int .i64 a0_0, .slice A0_1 l0_1.length c0_1, .int .i64 a0_2] 30 (0, 0)) (by (with_reducible repeat (first | refine blk_drewN ?_ _ | refine blk_drew ?_ | refine blk_alloc ?_ _)); refine blk_far ?_ NB165_173.out _; (with_reducible repeat (first | refine blk_drewN ?_ _ | refine blk_drew ?_ | refine blk_alloc ?_ _)); refine blk_far ?_ NB165_173.out _; (with_reducible repeat (first | refine blk_drewN ?_ _ | refine blk_drew ?_ | refine blk_alloc ?_ _)); refine blk_far ?_ NB165_173.out _; (with_reducible repeat (first | refine blk_drewN ?_ _ | refine blk_drew ?_ | refine blk_alloc ?_ _)); exact BK165.out) hb); replace BK166 := Aside0.mk (blk_below (g := gb166) (o := .cells #[.slice A1_0 l1_0.length c1_0] 34 (0, 0)) (by (with_reducible repeat (first | refine blk_drewN ?_ _ | refine blk_drew ?_ | refine blk_alloc ?_ _)); refine blk_far ?_ NB166_173.out _; (with_reducible repeat (first | refine blk_drewN ?_ _ | refine blk_drew ?_ | refine blk_alloc ?_ _)); refine blk_far ?_ NB166_173.out _; (with_reducible repeat (first | refine blk_drewN ?_ _ | refine blk_drew ?_ | refine blk_alloc ?_ _)); refine blk_far ?_ NB166_173.out _; (with_reducible repeat (first | refine blk_drewN ?_ _ | refine blk_drew ?_ | refine blk_alloc ?_ _)); exact BK166.out) hb); replace BK167 := Aside0.mk (blk_below (g := gb167) (o := .cells #[.int .i64 0, .slice none 0 0, .int .i64 0] 30 (0, 0)) (by (with_reducible repeat (first | refine blk_drewN ?_ _ | refine blk_drew ?_ | refine blk_alloc ?_ _)); refine blk_far ?_ NB167_173.out _; (with_reducible repeat (first | refine blk_drewN ?_ _ | refine blk_drew ?_ | refine blk_alloc ?_ _)); refine blk_far ?_ NB167_173.out _; (with_reducible repeat (first | refine blk_drewN ?_ _ | refine blk_drew ?_ | refine blk_alloc ?_ _)); refine blk_far ?_ NB167_173.out _; (with_reducible repeat (first | refine blk_drewN ?_ _ | refine blk_drew ?_ | refine blk_alloc ?_ _)); exact BK167.out) hb); replace BK173 := Aside0.mk (blk_below (g := gb173) (o := .cells #[.int .i64 t168, .slice Ao17 t169.length co17, .int .i64 t172] 30 (0, 0)) (by (with_reducible repeat (first | refine blk_drewN ?_ _ | refine blk_drew ?_ | refine blk_alloc ?_ _)); refine blk_put (cs := #[.int .i64 t168, .slice Ao17 t169.length co17, .int .i64 0]) ?_ 2 _ rfl; (with_reducible repeat (first | refine blk_drewN ?_ _ | refine blk_drew ?_ | refine blk_alloc ?_ _)); refine blk_put (cs := #[.int .i64 t168, .slice none 0 0, .int .i64 0]) ?_ 1 _ rfl; (with_reducible repeat (first | refine blk_drewN ?_ _ | refine blk_drew ?_ | refine blk_alloc ?_ _)); refine blk_put (cs := #[.int .i64 0, .slice none 0 0, .int .i64 0]) ?_ 0 _ rfl; (with_reducible repeat (first | refine blk_drewN ?_ _ | refine blk_drew ?_ | refine blk_alloc ?_ _)); exact BK173.out) hb); replace HB := bs_ HB hb; (try clear hb); (try clear hb2); (try clear hk); (try clear hi); have hnb53 := NB166_167.out; have hnc53 := NB167_166.out; have hnb54 := NB166_173.out; have hnc54 := NB173_166.out; have hcz55_0 := c1_ BK166; have hfz55_0 := blk_frozen BK166.out 0; obtain ⟨hcz56_0, hcz56_1, hcz56_2⟩ := c3_ BK165; have hfz56_0 := blk_frozen BK165.out 0; have hfz56_1 := blk_frozen BK165.out 1; have hfz56_2 := blk_frozen BK165.out 2) | (go_at_call 78; (with_reducible refine (spec_IsRow.calls k _ _ l1_0 a0_0 false _ (Kd.C_below HR1_0.out (up_ HB.out)) HC1_0.out A20.out).mono ?_); rintro e w57 ⟨rfl, hb⟩; replace HO171 := Aside0.mk (Kd.S_below (up_ HO171.out) hb); replace BK165 := bb_ BK165 hb; replace BK166 := bb_ BK166 hb; replace BK167 := bb_ BK167 hb; replace BK173 := bb_ BK173 hb; replace HB := bs_ HB hb; (try clear hb); (try clear hb2); (try clear hk); (try clear hi)))
    go_meet
    case rel => exact ⟨_, (true), rs_, H', ⟨by first | omega | exact Nat.le_refl _⟩, ⟨up_ HO171.out⟩, ⟨up_ BK165.out⟩, ⟨up_ BK166.out⟩, ⟨up_ BK167.out⟩, ⟨up_ BK173.out⟩, ⟨up_ HB.out⟩⟩
  ·have H' := Aside0.mk H
   clear H
   have hnb58 := NB165_166.out
   have hnc58 := NB166_165.out
   have hnb59 := NB165_167.out
   have hnc59 := NB167_165.out
   have hnb60 := NB165_173.out
   have hnc60 := NB173_165.out
   obtain ⟨hcz61_0, hcz61_1, hcz61_2⟩ := c3_ BK165
   have hfz61_0 := blk_frozen BK165.out 0
   have hfz61_1 := blk_frozen BK165.out 1
   have hfz61_2 := blk_frozen BK165.out 2
   go_wp2_with (first | ((refine gc_ 77 ?_); refine gl_ (some 20) Try.func77 (spec_IsLearner.calls k a0_0 _ _ l0_1 a0_2 false _ (Kd.C_below HR0_1.out (up_ HB.out)) HC0_1.out A18.out) ?_; rintro e w62 ⟨rfl, hb⟩; refine ⟨_, rfl, ?_⟩; replace HO171 := Aside0.mk (Kd.S_below (by (with_reducible repeat (first | apply Kd.S_alloc | apply Kd.S_drewN | apply Kd.S_drew)); exact (Kd.S_mono (Kd.S_far (p := ⟨gb173, 2, none⟩) (Kd.S_far (p := ⟨gb173, 1, none⟩) (Kd.S_far (p := ⟨gb173, 0, none⟩) (Kd.S_types HO171.out BK173.out (by decide)) (fun _ hk => hk.2) (.int .i64 t168)) (fun _ hk => hk.2) (.slice Ao17 t169.length co17)) (fun _ hk => hk.2) (.int .i64 t172)) (fun _ h_ => h_.1))) hb); replace BK165 := Aside0.mk (blk_below (g := gb165) (o := .cells #[.int .i64 a0_0, .slice A0_1 l0_1.length c0_1, .int .i64 a0_2] 30 (0, 0)) (by (with_reducible repeat (first | refine blk_drewN ?_ _ | refine blk_drew ?_ | refine blk_alloc ?_ _)); refine blk_far ?_ NB165_173.out _; (with_reducible repeat (first | refine blk_drewN ?_ _ | refine blk_drew ?_ | refine blk_alloc ?_ _)); refine blk_far ?_ NB165_173.out _; (with_reducible repeat (first | refine blk_drewN ?_ _ | refine blk_drew ?_ | refine blk_alloc ?_ _)); refine blk_far ?_ NB165_173.out _; (with_reducible repeat (first | refine blk_drewN ?_ _ | refine blk_drew ?_ | refine blk_alloc ?_ _)); exact BK165.out) hb); replace BK166 := Aside0.mk (blk_below (g := gb166) (o := .cells #[.slice A1_0 l1_0.length c1_0] 34 (0, 0)) (by (with_reducible repeat (first | refine blk_drewN ?_ _ | refine blk_drew ?_ | refine blk_alloc ?_ _)); refine blk_far ?_ NB166_173.out _; (with_reducible repeat (first | refine blk_drewN ?_ _ | refine blk_drew ?_ | refine blk_alloc ?_ _)); refine blk_far ?_ NB166_173.out _; (with_reducible repeat (first | refine blk_drewN ?_ _ | refine blk_drew ?_ | refine blk_alloc ?_ _)); refine blk_far ?_ NB166_173.out _; (with_reducible repeat (first | refine blk_drewN ?_ _ | refine blk_drew ?_ | refine blk_alloc ?_ _)); exact BK166.out) hb); replace BK167 := Aside0.mk (blk_below (g := gb167) (o := .cells #[.int .i64 0, .slice none 0 0, .int .i64 0] 30 (0, 0)) (by (with_reducible repeat (first | refine blk_drewN ?_ _ | refine blk_drew ?_ | refine blk_alloc ?_ _)); refine blk_far ?_ NB167_173.out _; (with_reducible repeat (first | refine blk_drewN ?_ _ | refine blk_drew ?_ | refine blk_alloc ?_ _)); refine blk_far ?_ NB167_173.out _; (with_reducible repeat (first | refine blk_drewN ?_ _ | refine blk_drew ?_ | refine blk_alloc ?_ _)); refine blk_far ?_ NB167_173.out _; (with_reducible repeat (first | refine blk_drewN ?_ _ | refine blk_drew ?_ | refine blk_alloc ?_ _)); exact BK167.out) hb); replace BK173 := Aside0.mk (blk_below (g := gb173) (o := .cells #[.int .i64 t168, .slice Ao17 t169.length co17, .int .i64 t172] 30 (0, 0)) (by (with_reducible repeat (first | refine blk_drewN ?_ _ | refine blk_drew ?_ | refine blk_alloc ?_ _)); refine blk_put (cs := #[.int .i64 t168, .slice Ao17 t169.length co17, .int .i64 0]) ?_ 2 _ rfl; (with_reducible repeat (first | refine blk_drewN ?_ _ | refine blk_drew ?_ | refine blk_alloc ?_ _)); refine blk_put (cs := #[.int .i64 t168, .slice none 0 0, .int .i64 0]) ?_ 1 _ rfl; (with_reducible repeat (first | refine blk_drewN ?_ _ | refine blk_drew ?_ | refine blk_alloc ?_ _)); refine blk_put (cs := #[.int .i64 0, .slice none 0 0, .int .i64 0]) ?_ 0 _ rfl; (with_reducible repeat (first | refine blk_drewN ?_ _ | refine blk_drew ?_ | refine blk_alloc ?_ _)); exact BK173.out) hb); replace HB := bs_ HB hb; (try clear hb); (try clear hb2); (try clear hk); (try clear hi)))
   go_meet
   case rel => exact ⟨_, (true), rs_, H', ⟨by first | omega | exact Nat.le_refl _⟩, ⟨up_ HO171.out⟩, ⟨up_ BK165.out⟩, ⟨up_ BK166.out⟩, ⟨up_ BK167.out⟩, ⟨up_ BK173.out⟩, ⟨up_ HB.out⟩⟩
 case rest =>
  clear HC4
  try clear c1
  try clear c2
  try clear p2
  try clear c3
  try clear c4
  try clear c5
  try clear c6
  try clear c7
  try clear c8
  try clear c9
  try clear c13
  try clear c14
  try clear c15
  try clear c19
  try clear c21
  try clear c22
  try clear c22b0
  try clear c23
  try clear c24
  try clear c25
  try clear c28
  try clear c29
  try clear c35
  try clear c36
  try clear c37
  try clear c40
  try clear c41
  try clear c48
  try clear c49
  try clear c50
  try clear c53
  try clear c54
  try clear c58
  try clear c59
  try clear c60
  try clear hcz10_0
  try clear hcz10_1
  try clear hcz10_2
  try clear hcz16_0
  try clear hcz16_1
  try clear hcz16_2
  try clear hcz26_0
  try clear hcz26_1
  try clear hcz26_2
  try clear hcz30_0
  try clear hcz31_0
  try clear hcz31_1
  try clear hcz31_2
  try clear hcz33_0
  try clear hcz33_1
  try clear hcz33_2
  try clear hcz38_0
  try clear hcz38_1
  try clear hcz38_2
  try clear hcz42_0
  try clear hcz43_0
  try clear hcz43_1
  try clear hcz43_2
  try clear hcz45_0
  try clear hcz45_1
  try clear hcz45_2
  try clear hcz46_0
  try clear hcz51_0
  try clear hcz51_1
  try clear hcz51_2
  try clear hcz55_0
  try clear hcz56_0
  try clear hcz56_1
  try clear hcz56_2
  try clear hcz61_0
  try clear hcz61_1
  try clear hcz61_2
  try clear hfz10_0
  try clear hfz10_1
  try clear hfz10_2
  try clear hfz16_0
  try clear hfz16_1
  try clear hfz16_2
  try clear hfz26_0
  try clear hfz26_1
  try clear hfz26_2
  try clear hfz30_0
  try clear hfz31_0
  try clear hfz31_1
  try clear hfz31_2
  try clear hfz33_0
  try clear hfz33_1
  try clear hfz33_2
  try clear hfz38_0
  try clear hfz38_1
  try clear hfz38_2
  try clear hfz42_0
  try clear hfz43_0
  try clear hfz43_1
  try clear hfz43_2
  try clear hfz45_0
  try clear hfz45_1
  try clear hfz45_2
  try clear hfz46_0
  try clear hfz51_0
  try clear hfz51_1
  try clear hfz51_2
  try clear hfz55_0
  try clear hfz56_0
  try clear hfz56_1
  try clear hfz56_2
  try clear hfz61_0
  try clear hfz61_1
  try clear hfz61_2
  obtain ⟨kq, x39_3, rfl, HA, HJ3, HO_174001, BK165, BK166, BK167, BK173, HB⟩ := hcut
  cases kq with
  | zero => exact absurd HA.out (by simp [spec_HearRow.j0])
  | succ kj3 =>
   have H := HA.out
   clear HA
   simp only [spec_HearRow.j0] at H
   replace H := itb_ H; rcases H with ⟨rfl, H⟩ | ⟨rfl, H⟩
   ·simp only [Option.some.injEq, Prod.mk.injEq] at H
    obtain ⟨rfl, rfl, rfl, rfl⟩ := H
    have hnb64 := NB173_165.out
    have hnc64 := NB165_173.out
    have hnb65 := NB173_166.out
    have hnc65 := NB166_173.out
    have hnb66 := NB173_167.out
    have hnc66 := NB167_173.out
    obtain ⟨hcz67_0, hcz67_1, hcz67_2⟩ := c3_ BK173
    have hfz67_0 := blk_frozen BK173.out 0
    have hfz67_1 := blk_frozen BK173.out 1
    have hfz67_2 := blk_frozen BK173.out 2
    have hnb68 := NB167_165.out
    have hnc68 := NB165_167.out
    have hnb69 := NB167_166.out
    have hnc69 := NB166_167.out
    obtain ⟨hcz70_0, hcz70_1, hcz70_2⟩ := c3_ BK167
    have hfz70_0 := blk_frozen BK167.out 0
    have hfz70_1 := blk_frozen BK167.out 1
    have hfz70_2 := blk_frozen BK167.out 2
    go_wp2
    refine bodyPost_ret (results_ct rfl _ _ gb167 30 #[.int .i64 t168, .slice Ao17 t169.length co17, .int .i64 t172] (0, 0) _ rfl (by (with_reducible repeat (first | refine blk_drewN ?_ _ | refine blk_drew ?_ | refine blk_alloc ?_ _)); refine blk_put (cs := #[.int .i64 t168, .slice Ao17 t169.length co17, .int .i64 0]) ?_ 2 _ rfl; (with_reducible repeat (first | refine blk_drewN ?_ _ | refine blk_drew ?_ | refine blk_alloc ?_ _)); refine blk_put (cs := #[.int .i64 t168, .slice none 0 0, .int .i64 0]) ?_ 1 _ rfl; (with_reducible repeat (first | refine blk_drewN ?_ _ | refine blk_drew ?_ | refine blk_alloc ?_ _)); refine blk_put (cs := #[.int .i64 0, .slice none 0 0, .int .i64 0]) ?_ 0 _ rfl; (with_reducible repeat (first | refine blk_drewN ?_ _ | refine blk_drew ?_ | refine blk_alloc ?_ _)); exact BK167.out) Try.underlying30 rfl (by kernel_rfl)) rfl ?_
    exact ⟨_, re_, by (with_reducible repeat (first | apply Kd.S_alloc | apply Kd.S_drewN | apply Kd.S_drew)); exact Kd.S_mono (Kd.S_far (p := ⟨gb167, 2, none⟩) (Kd.S_far (p := ⟨gb167, 1, none⟩) (Kd.S_far (p := ⟨gb167, 0, none⟩) (Kd.S_types HO_174001.out BK167.out (by decide)) (fun _ hk => hk.2) (.int .i64 t168)) (fun _ hk => hk.2) (.slice Ao17 t169.length co17)) (fun _ hk => hk.2) (.int .i64 t172)) (fun _ hk => trivial), up_ HB.out⟩
   ·have H' := Aside0.mk H
    clear H
    go_wp2
    go_loopg [7, 8] kj3 (fun kq v7 v8 w' => ∃ (x7_2 : Int) (x8_2 : Int), v7 = .int .i64 x7_2 ∧ v8 = .int .i64 x8_2 ∧ Aside0 (spec_HearRow.l0 kq x7_2 x8_2 a0_0 l0_1 a0_2 l1_0 t168 t169 t172 = some (r1, r2, r3, r4)) ∧ Aside0 (kq ≤ kj3) ∧ Aside0 (Kd.S (Kd.slice 3 (Kd.int .i64)) 25 w' w.heap.size (fun _ => True) (.slice Ao17 t169.length co17) t169) ∧ Aside0 (w'.heap[gb165]? = some (.cells #[.int .i64 a0_0, (.slice A0_1 l0_1.length c0_1), .int .i64 a0_2] 30 (0, 0))) ∧ Aside0 (w'.heap[gb166]? = some (.cells #[(.slice A1_0 l1_0.length c1_0)] 34 (0, 0))) ∧ Aside0 (w'.heap[gb167]? = some (.cells #[.int .i64 0, (.slice none 0 0), .int .i64 0] 30 (0, 0))) ∧ Aside0 (w'.heap[gb173]? = some (.cells #[.int .i64 t168, (.slice Ao17 t169.length co17), .int .i64 t172] 30 (0, 0))) ∧ Aside0 (Below w.heap.size w w'))
    case atStart => exact ⟨((-1)), (0), rs_, rs_, H', ⟨Nat.le_refl _⟩, ⟨up_ HO_174001.out⟩, ⟨up_ BK165.out⟩, ⟨up_ BK166.out⟩, ⟨up_ BK167.out⟩, ⟨up_ BK173.out⟩, ⟨up_ HB.out⟩⟩
    case round =>
     clear H'
     try clear c1
     try clear c2
     try clear p2
     try clear c3
     try clear c4
     try clear c5
     try clear c6
     try clear c7
     try clear c8
     try clear c9
     try clear c13
     try clear c14
     try clear c15
     try clear c19
     try clear c21
     try clear c22
     try clear c22b0
     try clear c23
     try clear c24
     try clear c25
     try clear c28
     try clear c29
     try clear c35
     try clear c36
     try clear c37
     try clear c40
     try clear c41
     try clear c48
     try clear c49
     try clear c50
     try clear c53
     try clear c54
     try clear c58
     try clear c59
     try clear c60
     try clear c63
     try clear c64
     try clear c65
     try clear c66
     try clear c68
     try clear c69
     try clear hcz10_0
     try clear hcz10_1
     try clear hcz10_2
     try clear hcz16_0
     try clear hcz16_1
     try clear hcz16_2
     try clear hcz26_0
     try clear hcz26_1
     try clear hcz26_2
     try clear hcz30_0
     try clear hcz31_0
     try clear hcz31_1
     try clear hcz31_2
     try clear hcz33_0
     try clear hcz33_1
     try clear hcz33_2
     try clear hcz38_0
     try clear hcz38_1
     try clear hcz38_2
     try clear hcz42_0
     try clear hcz43_0
     try clear hcz43_1
     try clear hcz43_2
     try clear hcz45_0
     try clear hcz45_1
     try clear hcz45_2
     try clear hcz46_0
     try clear hcz51_0
     try clear hcz51_1
     try clear hcz51_2
     try clear hcz55_0
     try clear hcz56_0
     try clear hcz56_1
     try clear hcz56_2
     try clear hcz61_0
     try clear hcz61_1
     try clear hcz61_2
     try clear hcz67_0
     try clear hcz67_1
     try clear hcz67_2
     try clear hcz70_0
     try clear hcz70_1
     try clear hcz70_2
     try clear hfz10_0
     try clear hfz10_1
     try clear hfz10_2
     try clear hfz16_0
     try clear hfz16_1
     try clear hfz16_2
     try clear hfz26_0
     try clear hfz26_1
     try clear hfz26_2
     try clear hfz30_0
     try clear hfz31_0
     try clear hfz31_1
     try clear hfz31_2
     try clear hfz33_0
     try clear hfz33_1
     try clear hfz33_2
     try clear hfz38_0
     try clear hfz38_1
     try clear hfz38_2
     try clear hfz42_0
     try clear hfz43_0
     try clear hfz43_1
     try clear hfz43_2
     try clear hfz45_0
     try clear hfz45_1
     try clear hfz45_2
     try clear hfz46_0
     try clear hfz51_0
     try clear hfz51_1
     try clear hfz51_2
     try clear hfz55_0
     try clear hfz56_0
     try clear hfz56_1
     try clear hfz56_2
     try clear hfz61_0
     try clear hfz61_1
     try clear hfz61_2
     try clear hfz67_0
     try clear hfz67_1
     try clear hfz67_2
     try clear hfz70_0
     try clear hfz70_1
     try clear hfz70_2
     try clear p2
     obtain ⟨x7_2, x8_2, rfl, rfl, HA, HK2, HO_174001, BK165, BK166, BK167, BK173, HB⟩ := hrel
     cases gk with
     | zero => exact absurd HA.out (by simp [spec_HearRow.l0])
     | succ k2 =>
      have H := HA.out
      clear HA
      simp only [spec_HearRow.l0] at H
      replace H := its_ H; rcases H with ⟨c71b0, H⟩ | ⟨c71b0, H⟩
      ·replace H := Option.bind_eq_some_iff.mp H
       obtain ⟨t177, A720, H⟩ := H
       replace H : (if 0 ≤ x8_2 then (if x8_2 < (l1_0.length : Int) then (if (rd l1_0 x8_2) = 1 then (if x7_2 < 0 then (spec_HearRow.l0 k2 t177 (wrap64 (x8_2 + 1)) a0_0 l0_1 a0_2 l1_0 t168 t169 t172) else (if t177 < x7_2 then (spec_HearRow.l0 k2 t177 (wrap64 (x8_2 + 1)) a0_0 l0_1 a0_2 l1_0 t168 t169 t172) else (spec_HearRow.l0 k2 x7_2 (wrap64 (x8_2 + 1)) a0_0 l0_1 a0_2 l1_0 t168 t169 t172))) else (spec_HearRow.l0 k2 x7_2 (wrap64 (x8_2 + 1)) a0_0 l0_1 a0_2 l1_0 t168 t169 t172)) else (none)) else (none)) = some (r1, r2, r3, r4) := H
       have A72 := Aside0.mk A720
       clear A720
       replace H := its_ H; rcases H with ⟨c73b0, H⟩ | ⟨_, ⟨⟩⟩
       replace H := its_ H; rcases H with ⟨c74b0, H⟩ | ⟨_, ⟨⟩⟩
       replace H := ieq_ H; rcases H with ⟨-, c75b0, c75b1, H⟩ | ⟨c75, c75b0, c75b1, H⟩
       ·replace H := its_ H; rcases H with ⟨c76b0, H⟩ | ⟨c76b0, H⟩
        ·have H' := Aside0.mk H
         clear H
         have hnb77 := NB165_166.out
         have hnc77 := NB166_165.out
         have hnb78 := NB165_167.out
         have hnc78 := NB167_165.out
         have hnb79 := NB165_173.out
         have hnc79 := NB173_165.out
         obtain ⟨hcz80_0, hcz80_1, hcz80_2⟩ := c3_ BK165
         have hfz80_0 := blk_frozen BK165.out 0
         have hfz80_1 := blk_frozen BK165.out 1
         have hfz80_2 := blk_frozen BK165.out 2
         go_wp2_with (first | ((refine gc_ 80 ?_); refine gq_ (some 50) Try.func80 (spec_l22Stratum.calls k2 _ _ l0_1 x8_2 t177 _ (Kd.C_below HR0_1.out (up_ HB.out)) HC0_1.out A72.out) (fun nd => ?_); have hnb81 := NB166_167.out; have hnc81 := NB167_166.out; have hnb82 := NB166_173.out; have hnc82 := NB173_166.out; have hcz83_0 := c1_ BK166; have hfz83_0 := blk_frozen BK166.out 0; have p178 : 0 ≤ (x8_2 : Int) := od_; have q178 : x8_2 < (l1_0.length : Int) := od_; obtain ⟨ad178, e178, hx178_0⟩ := Kd.at_int HR1_0.out x8_2 p178 q178; cases e178; replace hx178_0 := bh_ HB hx178_0; replace p178 := eq_true p178; replace q178 := eq_true q178))
         go_roundg k2
         case measure => have := HJ3.out; have := HK2.out; omega
         case rel => exact ⟨(t177), (wrap64 (x8_2 + 1)), rs_, rs_, H', ⟨by have := HJ3.out; have := HK2.out; omega⟩, ⟨up_ HO_174001.out⟩, ⟨up_ BK165.out⟩, ⟨up_ BK166.out⟩, ⟨up_ BK167.out⟩, ⟨up_ BK173.out⟩, ⟨up_ HB.out⟩⟩
        ·replace H := its_ H; rcases H with ⟨c84b0, H⟩ | ⟨c84b0, H⟩
         ·have H' := Aside0.mk H
          clear H
          have hnb85 := NB165_166.out
          have hnc85 := NB166_165.out
          have hnb86 := NB165_167.out
          have hnc86 := NB167_165.out
          have hnb87 := NB165_173.out
          have hnc87 := NB173_165.out
          obtain ⟨hcz88_0, hcz88_1, hcz88_2⟩ := c3_ BK165
          have hfz88_0 := blk_frozen BK165.out 0
          have hfz88_1 := blk_frozen BK165.out 1
          have hfz88_2 := blk_frozen BK165.out 2
          go_wp2_with (first | ((refine gc_ 80 ?_); refine gq_ (some 50) Try.func80 (spec_l22Stratum.calls k2 _ _ l0_1 x8_2 t177 _ (Kd.C_below HR0_1.out (up_ HB.out)) HC0_1.out A72.out) (fun nd => ?_); have hnb89 := NB166_167.out; have hnc89 := NB167_166.out; have hnb90 := NB166_173.out; have hnc90 := NB173_166.out; have hcz91_0 := c1_ BK166; have hfz91_0 := blk_frozen BK166.out 0; have p178 : 0 ≤ (x8_2 : Int) := od_; have q178 : x8_2 < (l1_0.length : Int) := od_; obtain ⟨ad178, e178, hx178_0⟩ := Kd.at_int HR1_0.out x8_2 p178 q178; cases e178; replace hx178_0 := bh_ HB hx178_0; replace p178 := eq_true p178; replace q178 := eq_true q178))
          go_roundg k2
          case measure => have := HJ3.out; have := HK2.out; omega
          case rel => exact ⟨(t177), (wrap64 (x8_2 + 1)), rs_, rs_, H', ⟨by have := HJ3.out; have := HK2.out; omega⟩, ⟨up_ HO_174001.out⟩, ⟨up_ BK165.out⟩, ⟨up_ BK166.out⟩, ⟨up_ BK167.out⟩, ⟨up_ BK173.out⟩, ⟨up_ HB.out⟩⟩
         ·have H' := Aside0.mk H
          clear H
          have hnb92 := NB165_166.out
          have hnc92 := NB166_165.out
          have hnb93 := NB165_167.out
          have hnc93 := NB167_165.out
          have hnb94 := NB165_173.out
          have hnc94 := NB173_165.out
          obtain ⟨hcz95_0, hcz95_1, hcz95_2⟩ := c3_ BK165
          have hfz95_0 := blk_frozen BK165.out 0
          have hfz95_1 := blk_frozen BK165.out 1
          have hfz95_2 := blk_frozen BK165.out 2
          go_wp2_with (first | ((refine gc_ 80 ?_); refine gq_ (some 50) Try.func80 (spec_l22Stratum.calls k2 _ _ l0_1 x8_2 t177 _ (Kd.C_below HR0_1.out (up_ HB.out)) HC0_1.out A72.out) (fun nd => ?_); have hnb96 := NB166_167.out; have hnc96 := NB167_166.out; have hnb97 := NB166_173.out; have hnc97 := NB173_166.out; have hcz98_0 := c1_ BK166; have hfz98_0 := blk_frozen BK166.out 0; have p178 : 0 ≤ (x8_2 : Int) := od_; have q178 : x8_2 < (l1_0.length : Int) := od_; obtain ⟨ad178, e178, hx178_0⟩ := Kd.at_int HR1_0.out x8_2 p178 q178; cases e178; replace hx178_0 := bh_ HB hx178_0; replace p178 := eq_true p178; replace q178 := eq_true q178))
          go_roundg k2
          case measure => have := HJ3.out; have := HK2.out; omega
          case rel => exact ⟨(x7_2), (wrap64 (x8_2 + 1)), rs_, rs_, H', ⟨by have := HJ3.out; have := HK2.out; omega⟩, ⟨up_ HO_174001.out⟩, ⟨up_ BK165.out⟩, ⟨up_ BK166.out⟩, ⟨up_ BK167.out⟩, ⟨up_ BK173.out⟩, ⟨up_ HB.out⟩⟩
       ·have H' := Aside0.mk H
        clear H
        have hnb99 := NB165_166.out
        have hnc99 := NB166_165.out
        have hnb100 := NB165_167.out
        have hnc100 := NB167_165.out
        have hnb101 := NB165_173.out
        have hnc101 := NB173_165.out
        obtain ⟨hcz102_0, hcz102_1, hcz102_2⟩ := c3_ BK165
        have hfz102_0 := blk_frozen BK165.out 0
        have hfz102_1 := blk_frozen BK165.out 1
        have hfz102_2 := blk_frozen BK165.out 2
        go_wp2_with (first | ((refine gc_ 80 ?_); refine gq_ (some 50) Try.func80 (spec_l22Stratum.calls k2 _ _ l0_1 x8_2 t177 _ (Kd.C_below HR0_1.out (up_ HB.out)) HC0_1.out A72.out) (fun nd => ?_); have hnb103 := NB166_167.out; have hnc103 := NB167_166.out; have hnb104 := NB166_173.out; have hnc104 := NB173_166.out; have hcz105_0 := c1_ BK166; have hfz105_0 := blk_frozen BK166.out 0; have p178 : 0 ≤ (x8_2 : Int) := od_; have q178 : x8_2 < (l1_0.length : Int) := od_; obtain ⟨ad178, e178, hx178_0⟩ := Kd.at_int HR1_0.out x8_2 p178 q178; cases e178; replace hx178_0 := bh_ HB hx178_0; replace p178 := eq_true p178; replace q178 := eq_true q178))
        go_roundg k2
        case measure => have := HJ3.out; have := HK2.out; omega
        case rel => exact ⟨(x7_2), (wrap64 (x8_2 + 1)), rs_, rs_, H', ⟨by have := HJ3.out; have := HK2.out; omega⟩, ⟨up_ HO_174001.out⟩, ⟨up_ BK165.out⟩, ⟨up_ BK166.out⟩, ⟨up_ BK167.out⟩, ⟨up_ BK173.out⟩, ⟨up_ HB.out⟩⟩
      ·replace H := its_ H; rcases H with ⟨c106b0, H⟩ | ⟨c106b0, H⟩
       ·simp only [Option.some.injEq, Prod.mk.injEq] at H
        obtain ⟨rfl, rfl, rfl, rfl⟩ := H
        have hnb107 := NB165_166.out
        have hnc107 := NB166_165.out
        have hnb108 := NB165_167.out
        have hnc108 := NB167_165.out
        have hnb109 := NB165_173.out
        have hnc109 := NB173_165.out
        obtain ⟨hcz110_0, hcz110_1, hcz110_2⟩ := c3_ BK165
        have hfz110_0 := blk_frozen BK165.out 0
        have hfz110_1 := blk_frozen BK165.out 1
        have hfz110_2 := blk_frozen BK165.out 2
        have hnb111 := NB173_166.out
        have hnc111 := NB166_173.out
        have hnb112 := NB173_167.out
        have hnc112 := NB167_173.out
        obtain ⟨hcz113_0, hcz113_1, hcz113_2⟩ := c3_ BK173
        have hfz113_0 := blk_frozen BK173.out 0
        have hfz113_1 := blk_frozen BK173.out 1
        have hfz113_2 := blk_frozen BK173.out 2
        have hnb114 := NB167_166.out
        have hnc114 := NB166_167.out
        obtain ⟨hcz115_0, hcz115_1, hcz115_2⟩ := c3_ BK167
        have hfz115_0 := blk_frozen BK167.out 0
        have hfz115_1 := blk_frozen BK167.out 1
        have hfz115_2 := blk_frozen BK167.out 2
        go_wp2
        refine bodyPost_ret (results_ct rfl _ _ gb167 30 #[.int .i64 t168, .slice Ao17 t169.length co17, .int .i64 t172] (0, 0) _ rfl (by (with_reducible repeat (first | refine blk_drewN ?_ _ | refine blk_drew ?_ | refine blk_alloc ?_ _)); refine blk_put (cs := #[.int .i64 t168, .slice Ao17 t169.length co17, .int .i64 0]) ?_ 2 _ rfl; (with_reducible repeat (first | refine blk_drewN ?_ _ | refine blk_drew ?_ | refine blk_alloc ?_ _)); refine blk_put (cs := #[.int .i64 t168, .slice none 0 0, .int .i64 0]) ?_ 1 _ rfl; (with_reducible repeat (first | refine blk_drewN ?_ _ | refine blk_drew ?_ | refine blk_alloc ?_ _)); refine blk_put (cs := #[.int .i64 0, .slice none 0 0, .int .i64 0]) ?_ 0 _ rfl; (with_reducible repeat (first | refine blk_drewN ?_ _ | refine blk_drew ?_ | refine blk_alloc ?_ _)); exact BK167.out) Try.underlying30 rfl (by kernel_rfl)) rfl ?_
        exact ⟨_, re_, by (with_reducible repeat (first | apply Kd.S_alloc | apply Kd.S_drewN | apply Kd.S_drew)); exact Kd.S_mono (Kd.S_far (p := ⟨gb167, 2, none⟩) (Kd.S_far (p := ⟨gb167, 1, none⟩) (Kd.S_far (p := ⟨gb167, 0, none⟩) (Kd.S_types HO_174001.out BK167.out (by decide)) (fun _ hk => hk.2) (.int .i64 t168)) (fun _ hk => hk.2) (.slice Ao17 t169.length co17)) (fun _ hk => hk.2) (.int .i64 t172)) (fun _ hk => trivial), up_ HB.out⟩
       ·obtain ⟨y179, hy179⟩ : ∃ y_ : List Int, y_ = (([] : List Int)) := ⟨_, rfl⟩
        replace H : (spec_HearRow.l1 k2 x7_2 y179 (([] : List (List Int))) 0 a0_0 l0_1 a0_2 l1_0 t168 t169 t172) = some (r1, r2, r3, r4) := rh_ hy179 H
        have Ny179 := Aside0.mk hy179
        clear hy179
        obtain ⟨y182, hy182⟩ : ∃ y_ : List (List Int), y_ = (([] : List (List Int))) := ⟨_, rfl⟩
        replace H : (spec_HearRow.l1 k2 x7_2 y179 y182 0 a0_0 l0_1 a0_2 l1_0 t168 t169 t172) = some (r1, r2, r3, r4) := rh_ hy182 H
        have Ny182 := Aside0.mk hy182
        clear hy182
        have H' := Aside0.mk H
        clear H
        have hnb116 := NB165_166.out
        have hnc116 := NB166_165.out
        have hnb117 := NB165_167.out
        have hnc117 := NB167_165.out
        have hnb118 := NB165_173.out
        have hnc118 := NB173_165.out
        obtain ⟨hcz119_0, hcz119_1, hcz119_2⟩ := c3_ BK165
        have hfz119_0 := blk_frozen BK165.out 0
        have hfz119_1 := blk_frozen BK165.out 1
        have hfz119_2 := blk_frozen BK165.out 2
        go_wp2_with (first | ((refine gd_ 70 ?_); refine Kd.R_lit (Kd.int .i64) _ 3 ?hg (N := 70) ?hd (xs := ([] : List Int)) (inner := []) (ok := fun _ => True) (okp := fun _ => True) ?hr ?hp (fun _ hk => hk) trivial (Below.refl _ _) (Nat.le_refl _) (by simp) ?_; (case hd => rfl); (case hg => rfl); (case hr => first | (go_simp; done) | (go_simp; rfl)); (case hp => exact (Reps.none _ _)); intro v180 w120 ho121 hb hg_ hnew_; clear hg_ hnew_; (first | rw [← Ny179.out] at ho121 | (simp only [Int.reduceToNat] at ho121; rw [← Ny179.out] at ho121)); replace HO_174001 := Aside0.mk (Kd.S_elder' (up_ HO_174001.out) (Kd.R_base ho121) hb); have HO181 := Aside0.mk (Kd.R_lower ho121 (below_size (up_ HB.out))); replace BK165 := bb_ BK165 hb; replace BK166 := bb_ BK166 hb; replace BK167 := bb_ BK167 hb; replace BK173 := bb_ BK173 hb; replace HB := bs_ HB hb; clear hb ho121) | ((refine gd_ 71 ?_); refine Kd.S_lit (Kd.slice 3 (Kd.int .i64)) _ 25 ?hg (N := 71) ?hd (xs := ([] : List (List Int))) (inner := []) (ok := fun _ => True) (okp := fun _ => True) ?hr ?hp (fun _ hk => hk) trivial (Below.refl _ _) (Nat.le_refl _) (by simp) ?_; (case hd => rfl); (case hg => rfl); (case hr => first | (go_simp; done) | (go_simp; rfl)); (case hp => exact (Reps.none _ _)); intro v183 w122 ho123 hb hg_ hnew_; clear hg_ hnew_; (first | rw [← Ny182.out] at ho123 | (simp only [Int.reduceToNat] at ho123; rw [← Ny182.out] at ho123)); have HO184 := Aside0.mk (Kd.S_lower (Kd.S_new' (Kd.S_new' ho123 (Kd.S_lt (up_ HO_174001.out))) (Kd.R_lt (up_ HO181.out))) (below_size (up_ HB.out))); replace HO_174001 := Aside0.mk (Kd.S_elder' (up_ HO_174001.out) (Kd.S_base ho123) hb); replace HO181 := Aside0.mk (Kd.R_below (up_ HO181.out) hb); replace BK165 := bb_ BK165 hb; replace BK166 := bb_ BK166 hb; replace BK167 := bb_ BK167 hb; replace BK173 := bb_ BK173 hb; replace HB := bs_ HB hb; clear hb ho123))
        go_loopg [10, 11, 12] k2 (fun kq v10 v11 v12 w' => ∃ (x10_3 : List Int) (x11_3 : List (List Int)) (x12_3 : Int), v12 = .int .i64 x12_3 ∧ Aside0 (spec_HearRow.l1 kq x7_2 x10_3 x11_3 x12_3 a0_0 l0_1 a0_2 l1_0 t168 t169 t172 = some (r1, r2, r3, r4)) ∧ Aside0 (kq ≤ k2) ∧ Aside0 (Kd.R (Kd.int .i64) 3 w' w.heap.size (fun _ => True) v10 x10_3) ∧ Aside0 (Kd.S (Kd.slice 3 (Kd.int .i64)) 25 w' w.heap.size (fun k_ => some k_ ≠ (v10 : Value).ownBlock ∧ some k_ ≠ ((.slice Ao17 t169.length co17) : Value).ownBlock) v11 x11_3) ∧ Aside0 (Kd.S (Kd.slice 3 (Kd.int .i64)) 25 w' w.heap.size (fun k_ => some k_ ≠ (v10 : Value).ownBlock ∧ some k_ ≠ (v11 : Value).ownBlock) (.slice Ao17 t169.length co17) t169) ∧ Aside0 (w'.heap[gb165]? = some (.cells #[.int .i64 a0_0, (.slice A0_1 l0_1.length c0_1), .int .i64 a0_2] 30 (0, 0))) ∧ Aside0 (w'.heap[gb166]? = some (.cells #[(.slice A1_0 l1_0.length c1_0)] 34 (0, 0))) ∧ Aside0 (w'.heap[gb167]? = some (.cells #[.int .i64 0, (.slice none 0 0), .int .i64 0] 30 (0, 0))) ∧ Aside0 (w'.heap[gb173]? = some (.cells #[.int .i64 t168, (.slice Ao17 t169.length co17), .int .i64 t172] 30 (0, 0))) ∧ Aside0 (Below w.heap.size w w'))
        case atStart => exact ⟨(y179), (y182), (0), rs_, H', ⟨Nat.le_refl _⟩, ⟨up_ HO181.out⟩, ⟨by (with_reducible repeat (first | apply Kd.S_alloc | apply Kd.S_drewN | apply Kd.S_drew)); exact Kd.S_mono HO184.out (fun _ hk => ⟨hk.2, hk.1.2⟩)⟩, ⟨by (with_reducible repeat (first | apply Kd.S_alloc | apply Kd.S_drewN | apply Kd.S_drew)); exact Kd.S_mono HO_174001.out (fun _ hk => ⟨hk.1.2, hk.2⟩)⟩, ⟨up_ BK165.out⟩, ⟨up_ BK166.out⟩, ⟨up_ BK167.out⟩, ⟨up_ BK173.out⟩, ⟨up_ HB.out⟩⟩
        case round =>
         clear H'
         try clear c1
         try clear p1
         try clear q1
         try clear hx1
         try clear c2
         try clear p2
         try clear c3
         try clear c4
         try clear c5
         try clear c6
         try clear p6
         try clear c7
         try clear c8
         try clear c9
         try clear c10
         try clear c11
         try clear c13
         try clear c14
         try clear c15
         try clear p17
         try clear q17
         try clear hx17
         try clear c19
         try clear c21
         try clear c22
         try clear c22b0
         try clear c23
         try clear c24
         try clear c25
         try clear c28
         try clear c29
         try clear c35
         try clear c36
         try clear c37
         try clear c40
         try clear c41
         try clear c48
         try clear c49
         try clear c50
         try clear c53
         try clear c54
         try clear c58
         try clear c59
         try clear c60
         try clear c63
         try clear c64
         try clear p64
         try clear c65
         try clear c66
         try clear c68
         try clear c69
         try clear c71
         try clear c71b0
         try clear c73
         try clear c73b0
         try clear c74
         try clear c74b0
         try clear c75
         try clear c75b0
         try clear c75b1
         try clear c76
         try clear c76b0
         try clear c77
         try clear c78
         try clear c79
         try clear c80
         try clear c81
         try clear c82
         try clear c84
         try clear c84b0
         try clear c85
         try clear c86
         try clear c87
         try clear c89
         try clear c90
         try clear c92
         try clear c93
         try clear c94
         try clear c96
         try clear c97
         try clear c99
         try clear c100
         try clear c101
         try clear c103
         try clear c104
         try clear c106
         try clear c106b0
         try clear c107
         try clear c108
         try clear c109
         try clear c111
         try clear c112
         try clear c114
         try clear c116
         try clear c117
         try clear c118
         try clear hcz102_0
         try clear hcz102_1
         try clear hcz102_2
         try clear hcz105_0
         try clear hcz10_0
         try clear hcz10_1
         try clear hcz10_2
         try clear hcz110_0
         try clear hcz110_1
         try clear hcz110_2
         try clear hcz113_0
         try clear hcz113_1
         try clear hcz113_2
         try clear hcz115_0
         try clear hcz115_1
         try clear hcz115_2
         try clear hcz119_0
         try clear hcz119_1
         try clear hcz119_2
         try clear hcz16_0
         try clear hcz16_1
         try clear hcz16_2
         try clear hcz26_0
         try clear hcz26_1
         try clear hcz26_2
         try clear hcz30_0
         try clear hcz31_0
         try clear hcz31_1
         try clear hcz31_2
         try clear hcz33_0
         try clear hcz33_1
         try clear hcz33_2
         try clear hcz38_0
         try clear hcz38_1
         try clear hcz38_2
         try clear hcz42_0
         try clear hcz43_0
         try clear hcz43_1
         try clear hcz43_2
         try clear hcz45_0
         try clear hcz45_1
         try clear hcz45_2
         try clear hcz46_0
         try clear hcz51_0
         try clear hcz51_1
         try clear hcz51_2
         try clear hcz55_0
         try clear hcz56_0
         try clear hcz56_1
         try clear hcz56_2
         try clear hcz61_0
         try clear hcz61_1
         try clear hcz61_2
         try clear hcz67_0
         try clear hcz67_1
         try clear hcz67_2
         try clear hcz70_0
         try clear hcz70_1
         try clear hcz70_2
         try clear hcz80_0
         try clear hcz80_1
         try clear hcz80_2
         try clear hcz83_0
         try clear hcz88_0
         try clear hcz88_1
         try clear hcz88_2
         try clear hcz91_0
         try clear hcz95_0
         try clear hcz95_1
         try clear hcz95_2
         try clear hcz98_0
         try clear hfz102_0
         try clear hfz102_1
         try clear hfz102_2
         try clear hfz105_0
         try clear hfz10_0
         try clear hfz10_1
         try clear hfz10_2
         try clear hfz110_0
         try clear hfz110_1
         try clear hfz110_2
         try clear hfz113_0
         try clear hfz113_1
         try clear hfz113_2
         try clear hfz115_0
         try clear hfz115_1
         try clear hfz115_2
         try clear hfz119_0
         try clear hfz119_1
         try clear hfz119_2
         try clear hfz16_0
         try clear hfz16_1
         try clear hfz16_2
         try clear hfz26_0
         try clear hfz26_1
         try clear hfz26_2
         try clear hfz30_0
         try clear hfz31_0
         try clear hfz31_1
         try clear hfz31_2
         try clear hfz33_0
         try clear hfz33_1
         try clear hfz33_2
         try clear hfz38_0
         try clear hfz38_1
         try clear hfz38_2
         try clear hfz42_0
         try clear hfz43_0
         try clear hfz43_1
         try clear hfz43_2
         try clear hfz45_0
         try clear hfz45_1
         try clear hfz45_2
         try clear hfz46_0
         try clear hfz51_0
         try clear hfz51_1
         try clear hfz51_2
         try clear hfz55_0
         try clear hfz56_0
         try clear hfz56_1
         try clear hfz56_2
         try clear hfz61_0
         try clear hfz61_1
         try clear hfz61_2
         try clear hfz67_0
         try clear hfz67_1
         try clear hfz67_2
         try clear hfz70_0
         try clear hfz70_1
         try clear hfz70_2
         try clear hfz80_0
         try clear hfz80_1
         try clear hfz80_2
         try clear hfz83_0
         try clear hfz88_0
         try clear hfz88_1
         try clear hfz88_2
         try clear hfz91_0
         try clear hfz95_0
         try clear hfz95_1
         try clear hfz95_2
         try clear hfz98_0
         try clear hx178_0
         try clear p178
         try clear p2
         try clear q178
         obtain ⟨x10_3, x11_3, x12_3, rfl, HA, HK3, HO_10, HO_11, HO_174001, BK165, BK166, BK167, BK173, HB⟩ := hrel
         cases gk with
         | zero => exact absurd HA.out (by simp [spec_HearRow.l1])
         | succ k3 =>
          have H := HA.out
          clear HA
          simp only [spec_HearRow.l1] at H
          replace H := its_ H; rcases H with ⟨c124b0, H⟩ | ⟨c124b0, H⟩
          ·obtain ⟨y185, hy185⟩ : ∃ y_ : List Int, y_ = (([] : List Int)) := ⟨_, rfl⟩
           replace H : (spec_HearRow.l2 k3 x7_2 x10_3 x11_3 x12_3 y185 0 a0_0 l0_1 a0_2 l1_0 t168 t169 t172) = some (r1, r2, r3, r4) := rh_ hy185 H
           have Ny185 := Aside0.mk hy185
           clear hy185
           have H' := Aside0.mk H
           clear H
           have hnb125 := NB165_166.out
           have hnc125 := NB166_165.out
           have hnb126 := NB165_167.out
           have hnc126 := NB167_165.out
           have hnb127 := NB165_173.out
           have hnc127 := NB173_165.out
           obtain ⟨hcz128_0, hcz128_1, hcz128_2⟩ := c3_ BK165
           have hfz128_0 := blk_frozen BK165.out 0
           have hfz128_1 := blk_frozen BK165.out 1
           have hfz128_2 := blk_frozen BK165.out 2
           go_wp2_with (first | ((refine gd_ 79 ?_); refine Kd.R_lit (Kd.int .i64) _ 3 ?hg (N := 79) ?hd (xs := ([] : List Int)) (inner := []) (ok := fun _ => True) (okp := fun _ => True) ?hr ?hp (fun _ hk => hk) trivial (Below.refl _ _) (Nat.le_refl _) (by simp) ?_; (case hd => rfl); (case hg => rfl); (case hr => first | (go_simp; done) | (go_simp; rfl)); (case hp => exact (Reps.none _ _)); intro v186 w129 ho130 hb hg_ hnew_; clear hg_ hnew_; (first | rw [← Ny185.out] at ho130 | (simp only [Int.reduceToNat] at ho130; rw [← Ny185.out] at ho130)); replace HO_11 := Aside0.mk (Kd.S_elder' (up_ HO_11.out) (Kd.R_base ho130) hb); replace HO_174001 := Aside0.mk (Kd.S_elder' (up_ HO_174001.out) (Kd.R_base ho130) hb); have HO187 := Aside0.mk (Kd.R_lower (Kd.R_new' ho130 (Kd.R_lt (up_ HO_10.out))) (below_size (up_ HB.out))); replace HO_10 := Aside0.mk (Kd.R_elder' (up_ HO_10.out) (Kd.R_base ho130) hb); replace BK165 := bb_ BK165 hb; replace BK166 := bb_ BK166 hb; replace BK167 := bb_ BK167 hb; replace BK173 := bb_ BK173 hb; replace HB := bs_ HB hb; clear hb ho130))
           go_loopg [10, 13, 14] k3 (fun kq v10 v13 v14 w' => ∃ (x10_4 : List Int) (x13_4 : List Int) (x14_4 : Int), v14 = .int .i64 x14_4 ∧ Aside0 (spec_HearRow.l2 kq x7_2 x10_4 x11_3 x12_3 x13_4 x14_4 a0_0 l0_1 a0_2 l1_0 t168 t169 t172 = some (r1, r2, r3, r4)) ∧ Aside0 (kq ≤ k3) ∧ Aside0 (Kd.R (Kd.int .i64) 3 w' w.heap.size (fun k_ => some k_ ≠ (v13 : Value).ownBlock) v10 x10_4) ∧ Aside0 (Kd.S (Kd.slice 3 (Kd.int .i64)) 25 w' w.heap.size (fun k_ => some k_ ≠ (v10 : Value).ownBlock ∧ some k_ ≠ (v13 : Value).ownBlock ∧ some k_ ≠ ((.slice Ao17 t169.length co17) : Value).ownBlock) u11 x11_3) ∧ Aside0 (Kd.R (Kd.int .i64) 3 w' w.heap.size (fun k_ => some k_ ≠ (v10 : Value).ownBlock) v13 x13_4) ∧ Aside0 (Kd.S (Kd.slice 3 (Kd.int .i64)) 25 w' w.heap.size (fun k_ => some k_ ≠ (v10 : Value).ownBlock ∧ some k_ ≠ (u11 : Value).ownBlock ∧ some k_ ≠ (v13 : Value).ownBlock) (.slice Ao17 t169.length co17) t169) ∧ Aside0 (w'.heap[gb165]? = some (.cells #[.int .i64 a0_0, (.slice A0_1 l0_1.length c0_1), .int .i64 a0_2] 30 (0, 0))) ∧ Aside0 (w'.heap[gb166]? = some (.cells #[(.slice A1_0 l1_0.length c1_0)] 34 (0, 0))) ∧ Aside0 (w'.heap[gb167]? = some (.cells #[.int .i64 0, (.slice none 0 0), .int .i64 0] 30 (0, 0))) ∧ Aside0 (w'.heap[gb173]? = some (.cells #[.int .i64 t168, (.slice Ao17 t169.length co17), .int .i64 t172] 30 (0, 0))) ∧ Aside0 (Below w.heap.size w w'))
           case atStart => exact ⟨(x10_3), (y185), (0), rs_, H', ⟨Nat.le_refl _⟩, ⟨by (with_reducible repeat (first | apply Kd.R_alloc | apply Kd.R_drewN | apply Kd.R_drew)); exact Kd.R_mono HO_10.out (fun _ hk => hk.2)⟩, ⟨by (with_reducible repeat (first | apply Kd.S_alloc | apply Kd.S_drewN | apply Kd.S_drew)); exact Kd.S_mono HO_11.out (fun _ hk => ⟨hk.1.1, ⟨hk.2, hk.1.2⟩⟩)⟩, ⟨by (with_reducible repeat (first | apply Kd.R_alloc | apply Kd.R_drewN | apply Kd.R_drew)); exact Kd.R_mono HO187.out (fun _ hk => hk.2)⟩, ⟨by (with_reducible repeat (first | apply Kd.S_alloc | apply Kd.S_drewN | apply Kd.S_drew)); exact Kd.S_mono HO_174001.out (fun _ hk => ⟨hk.1.1, ⟨hk.1.2, hk.2⟩⟩)⟩, ⟨up_ BK165.out⟩, ⟨up_ BK166.out⟩, ⟨up_ BK167.out⟩, ⟨up_ BK173.out⟩, ⟨up_ HB.out⟩⟩
           case round =>
            clear H'
            try clear c1
            try clear p1
            try clear q1
            try clear hx1
            try clear c2
            try clear p2
            try clear c3
            try clear c4
            try clear c5
            try clear c6
            try clear p6
            try clear c7
            try clear c8
            try clear c9
            try clear c10
            try clear c11
            try clear c12
            try clear c13
            try clear c14
            try clear c15
            try clear p17
            try clear q17
            try clear hx17
            try clear c19
            try clear c21
            try clear c22
            try clear c22b0
            try clear c23
            try clear c24
            try clear c25
            try clear c28
            try clear c29
            try clear c35
            try clear c36
            try clear c37
            try clear c40
            try clear c41
            try clear c48
            try clear c49
            try clear c50
            try clear c53
            try clear c54
            try clear c58
            try clear c59
            try clear c60
            try clear c63
            try clear c64
            try clear p64
            try clear c65
            try clear c66
            try clear c68
            try clear c69
            try clear c71
            try clear c71b0
            try clear c73
            try clear c73b0
            try clear c74
            try clear c74b0
            try clear c75
            try clear c75b0
            try clear c75b1
            try clear c76
            try clear c76b0
            try clear c77
            try clear c78
            try clear c79
            try clear c80
            try clear c81
            try clear c82
            try clear c84
            try clear c84b0
            try clear c85
            try clear c86
            try clear c87
            try clear c89
            try clear c90
            try clear c92
            try clear c93
            try clear c94
            try clear c96
            try clear c97
            try clear c99
            try clear c100
            try clear c101
            try clear c103
            try clear c104
            try clear c106
            try clear c106b0
            try clear c107
            try clear c108
            try clear c109
            try clear c111
            try clear c112
            try clear c114
            try clear c116
            try clear c117
            try clear c118
            try clear c124
            try clear c124b0
            try clear c125
            try clear c126
            try clear c127
            try clear hcz102_0
            try clear hcz102_1
            try clear hcz102_2
            try clear hcz105_0
            try clear hcz10_0
            try clear hcz10_1
            try clear hcz10_2
            try clear hcz110_0
            try clear hcz110_1
            try clear hcz110_2
            try clear hcz113_0
            try clear hcz113_1
            try clear hcz113_2
            try clear hcz115_0
            try clear hcz115_1
            try clear hcz115_2
            try clear hcz119_0
            try clear hcz119_1
            try clear hcz119_2
            try clear hcz128_0
            try clear hcz128_1
            try clear hcz128_2
            try clear hcz16_0
            try clear hcz16_1
            try clear hcz16_2
            try clear hcz26_0
            try clear hcz26_1
            try clear hcz26_2
            try clear hcz30_0
            try clear hcz31_0
            try clear hcz31_1
            try clear hcz31_2
            try clear hcz33_0
            try clear hcz33_1
            try clear hcz33_2
            try clear hcz38_0
            try clear hcz38_1
            try clear hcz38_2
            try clear hcz42_0
            try clear hcz43_0
            try clear hcz43_1
            try clear hcz43_2
            try clear hcz45_0
            try clear hcz45_1
            try clear hcz45_2
            try clear hcz46_0
            try clear hcz51_0
            try clear hcz51_1
            try clear hcz51_2
            try clear hcz55_0
            try clear hcz56_0
            try clear hcz56_1
            try clear hcz56_2
            try clear hcz61_0
            try clear hcz61_1
            try clear hcz61_2
            try clear hcz67_0
            try clear hcz67_1
            try clear hcz67_2
            try clear hcz70_0
            try clear hcz70_1
            try clear hcz70_2
            try clear hcz80_0
            try clear hcz80_1
            try clear hcz80_2
            try clear hcz83_0
            try clear hcz88_0
            try clear hcz88_1
            try clear hcz88_2
            try clear hcz91_0
            try clear hcz95_0
            try clear hcz95_1
            try clear hcz95_2
            try clear hcz98_0
            try clear hfz102_0
            try clear hfz102_1
            try clear hfz102_2
            try clear hfz105_0
            try clear hfz10_0
            try clear hfz10_1
            try clear hfz10_2
            try clear hfz110_0
            try clear hfz110_1
            try clear hfz110_2
            try clear hfz113_0
            try clear hfz113_1
            try clear hfz113_2
            try clear hfz115_0
            try clear hfz115_1
            try clear hfz115_2
            try clear hfz119_0
            try clear hfz119_1
            try clear hfz119_2
            try clear hfz128_0
            try clear hfz128_1
            try clear hfz128_2
            try clear hfz16_0
            try clear hfz16_1
            try clear hfz16_2
            try clear hfz26_0
            try clear hfz26_1
            try clear hfz26_2
            try clear hfz30_0
            try clear hfz31_0
            try clear hfz31_1
            try clear hfz31_2
            try clear hfz33_0
            try clear hfz33_1
            try clear hfz33_2
            try clear hfz38_0
            try clear hfz38_1
            try clear hfz38_2
            try clear hfz42_0
            try clear hfz43_0
            try clear hfz43_1
            try clear hfz43_2
            try clear hfz45_0
            try clear hfz45_1
            try clear hfz45_2
            try clear hfz46_0
            try clear hfz51_0
            try clear hfz51_1
            try clear hfz51_2
            try clear hfz55_0
            try clear hfz56_0
            try clear hfz56_1
            try clear hfz56_2
            try clear hfz61_0
            try clear hfz61_1
            try clear hfz61_2
            try clear hfz67_0
            try clear hfz67_1
            try clear hfz67_2
            try clear hfz70_0
            try clear hfz70_1
            try clear hfz70_2
            try clear hfz80_0
            try clear hfz80_1
            try clear hfz80_2
            try clear hfz83_0
            try clear hfz88_0
            try clear hfz88_1
            try clear hfz88_2
            try clear hfz91_0
            try clear hfz95_0
            try clear hfz95_1
            try clear hfz95_2
            try clear hfz98_0
            try clear hx178_0
            try clear p1
            try clear p17
            try clear p178
            try clear p2
            try clear p6
            try clear p64
            try clear q1
            try clear q17
            try clear q178
            obtain ⟨x10_4, x13_4, x14_4, rfl, HA, HK4, HO_10, HO_11, HO_13, HO_174001, BK165, BK166, BK167, BK173, HB⟩ := hrel
            cases gk with
            | zero => exact absurd HA.out (by simp [spec_HearRow.l2])
            | succ k4 =>
             have H := HA.out
             clear HA
             simp only [spec_HearRow.l2] at H
             replace H := its_ H; rcases H with ⟨c131b0, H⟩ | ⟨_, ⟨⟩⟩
             replace H := its_ H; rcases H with ⟨c132b0, H⟩ | ⟨_, ⟨⟩⟩
             replace H := its_ H; rcases H with ⟨c133b0, H⟩ | ⟨c133b0, H⟩
             ·replace H := its_ H; rcases H with ⟨c134b0, H⟩ | ⟨_, ⟨⟩⟩
              replace H := its_ H; rcases H with ⟨c135b0, H⟩ | ⟨c135b0, H⟩
              ·replace H := its_ H; rcases H with ⟨c136b0, H⟩ | ⟨_, ⟨⟩⟩
               replace H := its_ H; rcases H with ⟨c137b0, H⟩ | ⟨_, ⟨⟩⟩
               replace H := ieq_ H; rcases H with ⟨-, c138b0, c138b1, H⟩ | ⟨c138, c138b0, c138b1, H⟩
               ·by_cases c139 : x10_4.length < 17592186044416
                ·rw [if_pos c139] at H
                 have LMc139 := Aside0.mk c139
                 clear c139
                 obtain ⟨y192, hy192⟩ : ∃ y_ : List Int, y_ = (x10_4 ++ [rd (rd_L1 l0_1 x12_3) x14_4]) := ⟨_, rfl⟩
                 replace H : (spec_HearRow.l2 k4 x7_2 y192 x11_3 x12_3 x13_4 (wrap64 (x14_4 + 1)) a0_0 l0_1 a0_2 l1_0 t168 t169 t172) = some (r1, r2, r3, r4) := rh_ hy192 H
                 have Ny192 := Aside0.mk hy192
                 clear hy192
                 have H' := Aside0.mk H
                 clear H
                 have hnb140 := NB165_166.out
                 have hnc140 := NB166_165.out
                 have hnb141 := NB165_167.out
                 have hnc141 := NB167_165.out
                 have hnb142 := NB165_173.out
                 have hnc142 := NB173_165.out
                 obtain ⟨hcz143_0, hcz143_1, hcz143_2⟩ := c3_ BK165
                 have hfz143_0 := blk_frozen BK165.out 0
                 have hfz143_1 := blk_frozen BK165.out 1
                 have hfz143_2 := blk_frozen BK165.out 2
                 have p188 : 0 ≤ (x12_3 : Int) := od_
                 have q188 : x12_3 < (l0_1.length : Int) := od_
                 obtain ⟨ad188, A188_0, c188_0, e188, hx188_0, hl188_0, hi188_0⟩ := at_L1 HR0_1.out x12_3 p188 q188
                 cases e188
                 replace hx188_0 := bh_ HB hx188_0
                 have HR188_0 := Aside0.mk hi188_0
                 have HC188_0 := Aside0.mk hl188_0
                 clear hi188_0 hl188_0
                 replace p188 := eq_true p188
                 replace q188 := eq_true q188
                 have p189 : 0 ≤ (x12_3 : Int) := od_
                 have q189 : x12_3 < (l0_1.length : Int) := od_
                 obtain ⟨ad189, A189_0, c189_0, e189, hx189_0, hl189_0, hi189_0⟩ := at_L1 HR0_1.out x12_3 p189 q189
                 obtain rfl : ad188 = ad189 := (by injection e189)
                 replace hx189_0 := bh_ HB hx189_0
                 have HR189_0 := Aside0.mk hi189_0
                 have HC189_0 := Aside0.mk hl189_0
                 clear hi189_0 hl189_0
                 replace p189 := eq_true p189
                 replace q189 := eq_true q189
                 have ea_ := Option.some.inj (hx188_0.symm.trans hx189_0)
                 injection ea_ with ea_ en_ ec_
                 subst ea_
                 subst ec_
                 clear en_
                 have p190 : 0 ≤ (x14_4 : Int) := od_
                 have q190 : x14_4 < ((rd_L1 l0_1 x12_3).length : Int) := od_
                 obtain ⟨ad190, e190, hx190_0⟩ := Kd.at_int HR189_0.out x14_4 p190 q190
                 cases e190
                 replace hx190_0 := bh_ HB hx190_0
                 replace p190 := eq_true p190
                 replace q190 := eq_true q190
                 have hnb144 := NB166_167.out
                 have hnc144 := NB167_166.out
                 have hnb145 := NB166_173.out
                 have hnc145 := NB173_166.out
                 have hcz146_0 := c1_ BK166
                 have hfz146_0 := blk_frozen BK166.out 0
                 have p191 : 0 ≤ ((rd (rd_L1 l0_1 x12_3) x14_4) : Int) := od_
                 have q191 : (rd (rd_L1 l0_1 x12_3) x14_4) < (l1_0.length : Int) := od_
                 obtain ⟨ad191, e191, hx191_0⟩ := Kd.at_int HR1_0.out (rd (rd_L1 l0_1 x12_3) x14_4) p191 q191
                 cases e191
                 replace hx191_0 := bh_ HB hx191_0
                 replace p191 := eq_true p191
                 replace q191 := eq_true q191
                 go_wp2_with (first | ((with_reducible refine gate_builtin (b := .append) (xs := #[.tmp 109, .tmp 111]) rfl ?_); at_builtin; refine Kd.R_append (Kd.int .i64) (w0 := w) w.heap.size rfl (.tmp 109) (.tmp 111) 25 3 (.int .i64 0) 8 rfl Try.underlying25 info3 rfl (by decide) (by omega) u10 x10_4 (rd (rd_L1 l0_1 x12_3) x14_4) [.int .i64 (rd (rd_L1 l0_1 x12_3) x14_4)] (fun k_ => some k_ ≠ (u13 : Value).ownBlock) (fun _ => False) rfl rfl ?aP (fun _ hk => hk.elim) ?aF ?aO ?aB ?aS ?aL ?_; (case aP => exact rfl); (case aB => exact (up_ HB.out)); (case aF => exact (fun k_ hk => Kd.fresh' (Kd.R_lt (up_ HO_13.out)) k_ hk)); (case aO => exact (up_ HO_10.out)); (case aS => exact (below_size (up_ HB.out))); (case aL => have := LMc139.out; omega); intro v193 w147 ho hb hg hat; rw [← Ny192.out] at ho; have n0_ := Aside0.mk (Kd.S_after (ok := (fun k_ => some k_ ≠ (u13 : Value).ownBlock ∧ some k_ ≠ (.slice Ao17 t169.length co17 : Value).ownBlock)) (by (with_reducible repeat (first | apply Kd.S_alloc | apply Kd.S_drewN | apply Kd.S_drew)); exact Kd.S_mono HO_11.out (fun _ hk => ⟨⟨hk.2.1, hk.2.2⟩, hk.1⟩)) hg hat); have n1_ := Aside0.mk (Kd.R_after (ok := (fun _ => True)) (by (with_reducible repeat (first | apply Kd.R_alloc | apply Kd.R_drewN | apply Kd.R_drew)); exact Kd.R_mono HO_13.out (fun _ hk => ⟨trivial, hk⟩)) hg hat); have n2_ := Aside0.mk (Kd.S_after (ok := (fun k_ => some k_ ≠ (u11 : Value).ownBlock ∧ some k_ ≠ (u13 : Value).ownBlock)) (by (with_reducible repeat (first | apply Kd.S_alloc | apply Kd.S_drewN | apply Kd.S_drew)); exact Kd.S_mono HO_174001.out (fun _ hk => ⟨⟨hk.2.1, hk.2.2⟩, hk.1⟩)) hg hat); have n3_ := Aside0.mk (blk_grown (g := gb165) (o := .cells #[.int .i64 a0_0, .slice (some ad188) l0_1.length c0_1, .int .i64 a0_2] 30 (0, 0)) (up_ BK165.out) hg (Kd.R_ne HO_10.out BK165.out (by decide))); have n4_ := Aside0.mk (blk_grown (g := gb166) (o := .cells #[.slice (some ad191) l1_0.length c1_0] 34 (0, 0)) (up_ BK166.out) hg (Kd.R_ne HO_10.out BK166.out (by decide))); have n5_ := Aside0.mk (blk_grown (g := gb167) (o := .cells #[.int .i64 0, .slice none 0 0, .int .i64 0] 30 (0, 0)) (up_ BK167.out) hg (Kd.R_ne HO_10.out BK167.out (by decide))); have n6_ := Aside0.mk (blk_grown (g := gb173) (o := .cells #[.int .i64 t168, .slice Ao17 t169.length co17, .int .i64 t172] 30 (0, 0)) (up_ BK173.out) hg (Kd.R_ne HO_10.out BK173.out (by decide))); have n7_ := Aside0.mk (hb); have n8_ := Aside0.mk (ho); clear HO_11; clear HO_13; clear HO_174001; clear BK165; clear BK166; clear BK167; clear BK173; clear HB; clear HO_10; have HO_11 := n0_; have HO_13 := n1_; have HO_174001 := n2_; have BK165 := n3_; have BK166 := n4_; have BK167 := n5_; have BK173 := n6_; have HB := n7_; have HO194 := n8_; clear n0_ n1_ n2_ n3_ n4_ n5_ n6_ n7_ n8_; clear ho hb hg hat))
                 go_roundg k4
                 case measure => have := HJ3.out; have := HK2.out; have := HK3.out; have := HK4.out; omega
                 case rel => exact ⟨(y192), (x13_4), (wrap64 (x14_4 + 1)), rs_, H', ⟨by have := HJ3.out; have := HK2.out; have := HK3.out; have := HK4.out; omega⟩, ⟨up_ HO194.out⟩, ⟨by (with_reducible repeat (first | apply Kd.S_alloc | apply Kd.S_drewN | apply Kd.S_drew)); exact Kd.S_mono HO_11.out (fun _ hk => ⟨hk.2, ⟨hk.1.1, hk.1.2⟩⟩)⟩, ⟨by (with_reducible repeat (first | apply Kd.R_alloc | apply Kd.R_drewN | apply Kd.R_drew)); exact Kd.R_mono HO_13.out (fun _ hk => hk.2)⟩, ⟨by (with_reducible repeat (first | apply Kd.S_alloc | apply Kd.S_drewN | apply Kd.S_drew)); exact Kd.S_mono HO_174001.out (fun _ hk => ⟨hk.2, ⟨hk.1.1, hk.1.2⟩⟩)⟩, ⟨up_ BK165.out⟩, ⟨up_ BK166.out⟩, ⟨up_ BK167.out⟩, ⟨up_ BK173.out⟩, ⟨up_ HB.out⟩⟩
                ·rw [if_neg c139] at H
                 exact absurd H (by simp)
               ·by_cases c148 : x13_4.length < 17592186044416
                ·rw [if_pos c148] at H
                 have LMc148 := Aside0.mk c148
                 clear c148
                 obtain ⟨y195, hy195⟩ : ∃ y_ : List Int, y_ = (x13_4 ++ [rd (rd_L1 l0_1 x12_3) x14_4]) := ⟨_, rfl⟩
                 replace H : (spec_HearRow.l2 k4 x7_2 x10_4 x11_3 x12_3 y195 (wrap64 (x14_4 + 1)) a0_0 l0_1 a0_2 l1_0 t168 t169 t172) = some (r1, r2, r3, r4) := rh_ hy195 H
                 have Ny195 := Aside0.mk hy195
                 clear hy195
                 have H' := Aside0.mk H
                 clear H
                 have hnb149 := NB165_166.out
                 have hnc149 := NB166_165.out
                 have hnb150 := NB165_167.out
                 have hnc150 := NB167_165.out
                 have hnb151 := NB165_173.out
                 have hnc151 := NB173_165.out
                 obtain ⟨hcz152_0, hcz152_1, hcz152_2⟩ := c3_ BK165
                 have hfz152_0 := blk_frozen BK165.out 0
                 have hfz152_1 := blk_frozen BK165.out 1
                 have hfz152_2 := blk_frozen BK165.out 2
                 have p188 : 0 ≤ (x12_3 : Int) := od_
                 have q188 : x12_3 < (l0_1.length : Int) := od_
                 obtain ⟨ad188, A188_0, c188_0, e188, hx188_0, hl188_0, hi188_0⟩ := at_L1 HR0_1.out x12_3 p188 q188
                 cases e188
                 replace hx188_0 := bh_ HB hx188_0
                 have HR188_0 := Aside0.mk hi188_0
                 have HC188_0 := Aside0.mk hl188_0
                 clear hi188_0 hl188_0
                 replace p188 := eq_true p188
                 replace q188 := eq_true q188
                 have p189 : 0 ≤ (x12_3 : Int) := od_
                 have q189 : x12_3 < (l0_1.length : Int) := od_
                 obtain ⟨ad189, A189_0, c189_0, e189, hx189_0, hl189_0, hi189_0⟩ := at_L1 HR0_1.out x12_3 p189 q189
                 obtain rfl : ad188 = ad189 := (by injection e189)
                 replace hx189_0 := bh_ HB hx189_0
                 have HR189_0 := Aside0.mk hi189_0
                 have HC189_0 := Aside0.mk hl189_0
                 clear hi189_0 hl189_0
                 replace p189 := eq_true p189
                 replace q189 := eq_true q189
                 have ea_ := Option.some.inj (hx188_0.symm.trans hx189_0)
                 injection ea_ with ea_ en_ ec_
                 subst ea_
                 subst ec_
                 clear en_
                 have p190 : 0 ≤ (x14_4 : Int) := od_
                 have q190 : x14_4 < ((rd_L1 l0_1 x12_3).length : Int) := od_
                 obtain ⟨ad190, e190, hx190_0⟩ := Kd.at_int HR189_0.out x14_4 p190 q190
                 cases e190
                 replace hx190_0 := bh_ HB hx190_0
                 replace p190 := eq_true p190
                 replace q190 := eq_true q190
                 have hnb153 := NB166_167.out
                 have hnc153 := NB167_166.out
                 have hnb154 := NB166_173.out
                 have hnc154 := NB173_166.out
                 have hcz155_0 := c1_ BK166
                 have hfz155_0 := blk_frozen BK166.out 0
                 have p191 : 0 ≤ ((rd (rd_L1 l0_1 x12_3) x14_4) : Int) := od_
                 have q191 : (rd (rd_L1 l0_1 x12_3) x14_4) < (l1_0.length : Int) := od_
                 obtain ⟨ad191, e191, hx191_0⟩ := Kd.at_int HR1_0.out (rd (rd_L1 l0_1 x12_3) x14_4) p191 q191
                 cases e191
                 replace hx191_0 := bh_ HB hx191_0
                 replace p191 := eq_true p191
                 replace q191 := eq_true q191
                 go_wp2_with (first | ((with_reducible refine gate_builtin (b := .append) (xs := #[.tmp 113, .tmp 115]) rfl ?_); at_builtin; refine Kd.R_append (Kd.int .i64) (w0 := w) w.heap.size rfl (.tmp 113) (.tmp 115) 25 3 (.int .i64 0) 8 rfl Try.underlying25 info3 rfl (by decide) (by omega) u13 x13_4 (rd (rd_L1 l0_1 x12_3) x14_4) [.int .i64 (rd (rd_L1 l0_1 x12_3) x14_4)] (fun k_ => some k_ ≠ (u10 : Value).ownBlock) (fun _ => False) rfl rfl ?aP (fun _ hk => hk.elim) ?aF ?aO ?aB ?aS ?aL ?_; (case aP => exact rfl); (case aB => exact (up_ HB.out)); (case aF => exact (fun k_ hk => Kd.fresh' (Kd.R_lt (up_ HO_10.out)) k_ hk)); (case aO => exact (up_ HO_13.out)); (case aS => exact (below_size (up_ HB.out))); (case aL => have := LMc148.out; omega); intro v196 w156 ho hb hg hat; rw [← Ny195.out] at ho; have n0_ := Aside0.mk (Kd.R_after (ok := (fun _ => True)) (by (with_reducible repeat (first | apply Kd.R_alloc | apply Kd.R_drewN | apply Kd.R_drew)); exact Kd.R_mono HO_10.out (fun _ hk => ⟨trivial, hk⟩)) hg hat); have n1_ := Aside0.mk (Kd.S_after (ok := (fun k_ => some k_ ≠ (u10 : Value).ownBlock ∧ some k_ ≠ (.slice Ao17 t169.length co17 : Value).ownBlock)) (by (with_reducible repeat (first | apply Kd.S_alloc | apply Kd.S_drewN | apply Kd.S_drew)); exact Kd.S_mono HO_11.out (fun _ hk => ⟨⟨hk.1, hk.2.2⟩, hk.2.1⟩)) hg hat); have n2_ := Aside0.mk (Kd.S_after (ok := (fun k_ => some k_ ≠ (u10 : Value).ownBlock ∧ some k_ ≠ (u11 : Value).ownBlock)) (by (with_reducible repeat (first | apply Kd.S_alloc | apply Kd.S_drewN | apply Kd.S_drew)); exact Kd.S_mono HO_174001.out (fun _ hk => ⟨⟨hk.1, hk.2.1⟩, hk.2.2⟩)) hg hat); have n3_ := Aside0.mk (blk_grown (g := gb165) (o := .cells #[.int .i64 a0_0, .slice (some ad188) l0_1.length c0_1, .int .i64 a0_2] 30 (0, 0)) (up_ BK165.out) hg (Kd.R_ne HO_13.out BK165.out (by decide))); have n4_ := Aside0.mk (blk_grown (g := gb166) (o := .cells #[.slice (some ad191) l1_0.length c1_0] 34 (0, 0)) (up_ BK166.out) hg (Kd.R_ne HO_13.out BK166.out (by decide))); have n5_ := Aside0.mk (blk_grown (g := gb167) (o := .cells #[.int .i64 0, .slice none 0 0, .int .i64 0] 30 (0, 0)) (up_ BK167.out) hg (Kd.R_ne HO_13.out BK167.out (by decide))); have n6_ := Aside0.mk (blk_grown (g := gb173) (o := .cells #[.int .i64 t168, .slice Ao17 t169.length co17, .int .i64 t172] 30 (0, 0)) (up_ BK173.out) hg (Kd.R_ne HO_13.out BK173.out (by decide))); have n7_ := Aside0.mk (hb); have n8_ := Aside0.mk (ho); clear HO_10; clear HO_11; clear HO_174001; clear BK165; clear BK166; clear BK167; clear BK173; clear HB; clear HO_13; have HO_10 := n0_; have HO_11 := n1_; have HO_174001 := n2_; have BK165 := n3_; have BK166 := n4_; have BK167 := n5_; have BK173 := n6_; have HB := n7_; have HO197 := n8_; clear n0_ n1_ n2_ n3_ n4_ n5_ n6_ n7_ n8_; clear ho hb hg hat))
                 go_roundg k4
                 case measure => have := HJ3.out; have := HK2.out; have := HK3.out; have := HK4.out; omega
                 case rel => exact ⟨(x10_4), (y195), (wrap64 (x14_4 + 1)), rs_, H', ⟨by have := HJ3.out; have := HK2.out; have := HK3.out; have := HK4.out; omega⟩, ⟨by (with_reducible repeat (first | apply Kd.R_alloc | apply Kd.R_drewN | apply Kd.R_drew)); exact Kd.R_mono HO_10.out (fun _ hk => hk.2)⟩, ⟨by (with_reducible repeat (first | apply Kd.S_alloc | apply Kd.S_drewN | apply Kd.S_drew)); exact Kd.S_mono HO_11.out (fun _ hk => ⟨hk.1.1, ⟨hk.2, hk.1.2⟩⟩)⟩, ⟨up_ HO197.out⟩, ⟨by (with_reducible repeat (first | apply Kd.S_alloc | apply Kd.S_drewN | apply Kd.S_drew)); exact Kd.S_mono HO_174001.out (fun _ hk => ⟨hk.1.1, ⟨hk.1.2, hk.2⟩⟩)⟩, ⟨up_ BK165.out⟩, ⟨up_ BK166.out⟩, ⟨up_ BK167.out⟩, ⟨up_ BK173.out⟩, ⟨up_ HB.out⟩⟩
                ·rw [if_neg c148] at H
                 exact absurd H (by simp)
              ·by_cases c157 : x13_4.length < 17592186044416
               ·rw [if_pos c157] at H
                have LMc157 := Aside0.mk c157
                clear c157
                obtain ⟨y198, hy198⟩ : ∃ y_ : List Int, y_ = (x13_4 ++ [rd (rd_L1 l0_1 x12_3) x14_4]) := ⟨_, rfl⟩
                replace H : (spec_HearRow.l2 k4 x7_2 x10_4 x11_3 x12_3 y198 (wrap64 (x14_4 + 1)) a0_0 l0_1 a0_2 l1_0 t168 t169 t172) = some (r1, r2, r3, r4) := rh_ hy198 H
                have Ny198 := Aside0.mk hy198
                clear hy198
                have H' := Aside0.mk H
                clear H
                have hnb158 := NB165_166.out
                have hnc158 := NB166_165.out
                have hnb159 := NB165_167.out
                have hnc159 := NB167_165.out
                have hnb160 := NB165_173.out
                have hnc160 := NB173_165.out
                obtain ⟨hcz161_0, hcz161_1, hcz161_2⟩ := c3_ BK165
                have hfz161_0 := blk_frozen BK165.out 0
                have hfz161_1 := blk_frozen BK165.out 1
                have hfz161_2 := blk_frozen BK165.out 2
                have p188 : 0 ≤ (x12_3 : Int) := od_
                have q188 : x12_3 < (l0_1.length : Int) := od_
                obtain ⟨ad188, A188_0, c188_0, e188, hx188_0, hl188_0, hi188_0⟩ := at_L1 HR0_1.out x12_3 p188 q188
                cases e188
                replace hx188_0 := bh_ HB hx188_0
                have HR188_0 := Aside0.mk hi188_0
                have HC188_0 := Aside0.mk hl188_0
                clear hi188_0 hl188_0
                replace p188 := eq_true p188
                replace q188 := eq_true q188
                have p189 : 0 ≤ (x12_3 : Int) := od_
                have q189 : x12_3 < (l0_1.length : Int) := od_
                obtain ⟨ad189, A189_0, c189_0, e189, hx189_0, hl189_0, hi189_0⟩ := at_L1 HR0_1.out x12_3 p189 q189
                obtain rfl : ad188 = ad189 := (by injection e189)
                replace hx189_0 := bh_ HB hx189_0
                have HR189_0 := Aside0.mk hi189_0
                have HC189_0 := Aside0.mk hl189_0
                clear hi189_0 hl189_0
                replace p189 := eq_true p189
                replace q189 := eq_true q189
                have ea_ := Option.some.inj (hx188_0.symm.trans hx189_0)
                injection ea_ with ea_ en_ ec_
                subst ea_
                subst ec_
                clear en_
                have p190 : 0 ≤ (x14_4 : Int) := od_
                have q190 : x14_4 < ((rd_L1 l0_1 x12_3).length : Int) := od_
                obtain ⟨ad190, e190, hx190_0⟩ := Kd.at_int HR189_0.out x14_4 p190 q190
                cases e190
                replace hx190_0 := bh_ HB hx190_0
                replace p190 := eq_true p190
                replace q190 := eq_true q190
                go_wp2_with (first | ((with_reducible refine gate_builtin (b := .append) (xs := #[.tmp 113, .tmp 115]) rfl ?_); at_builtin; refine Kd.R_append (Kd.int .i64) (w0 := w) w.heap.size rfl (.tmp 113) (.tmp 115) 25 3 (.int .i64 0) 8 rfl Try.underlying25 info3 rfl (by decide) (by omega) u13 x13_4 (rd (rd_L1 l0_1 x12_3) x14_4) [.int .i64 (rd (rd_L1 l0_1 x12_3) x14_4)] (fun k_ => some k_ ≠ (u10 : Value).ownBlock) (fun _ => False) rfl rfl ?aP (fun _ hk => hk.elim) ?aF ?aO ?aB ?aS ?aL ?_; (case aP => exact rfl); (case aB => exact (up_ HB.out)); (case aF => exact (fun k_ hk => Kd.fresh' (Kd.R_lt (up_ HO_10.out)) k_ hk)); (case aO => exact (up_ HO_13.out)); (case aS => exact (below_size (up_ HB.out))); (case aL => have := LMc157.out; omega); intro v199 w162 ho hb hg hat; rw [← Ny198.out] at ho; have n0_ := Aside0.mk (Kd.R_after (ok := (fun _ => True)) (by (with_reducible repeat (first | apply Kd.R_alloc | apply Kd.R_drewN | apply Kd.R_drew)); exact Kd.R_mono HO_10.out (fun _ hk => ⟨trivial, hk⟩)) hg hat); have n1_ := Aside0.mk (Kd.S_after (ok := (fun k_ => some k_ ≠ (u10 : Value).ownBlock ∧ some k_ ≠ (.slice Ao17 t169.length co17 : Value).ownBlock)) (by (with_reducible repeat (first | apply Kd.S_alloc | apply Kd.S_drewN | apply Kd.S_drew)); exact Kd.S_mono HO_11.out (fun _ hk => ⟨⟨hk.1, hk.2.2⟩, hk.2.1⟩)) hg hat); have n2_ := Aside0.mk (Kd.S_after (ok := (fun k_ => some k_ ≠ (u10 : Value).ownBlock ∧ some k_ ≠ (u11 : Value).ownBlock)) (by (with_reducible repeat (first | apply Kd.S_alloc | apply Kd.S_drewN | apply Kd.S_drew)); exact Kd.S_mono HO_174001.out (fun _ hk => ⟨⟨hk.1, hk.2.1⟩, hk.2.2⟩)) hg hat); have n3_ := Aside0.mk (blk_grown (g := gb165) (o := .cells #[.int .i64 a0_0, .slice (some ad188) l0_1.length c0_1, .int .i64 a0_2] 30 (0, 0)) (up_ BK165.out) hg (Kd.R_ne HO_13.out BK165.out (by decide))); have n4_ := Aside0.mk (blk_grown (g := gb166) (o := .cells #[.slice A1_0 l1_0.length c1_0] 34 (0, 0)) (up_ BK166.out) hg (Kd.R_ne HO_13.out BK166.out (by decide))); have n5_ := Aside0.mk (blk_grown (g := gb167) (o := .cells #[.int .i64 0, .slice none 0 0, .int .i64 0] 30 (0, 0)) (up_ BK167.out) hg (Kd.R_ne HO_13.out BK167.out (by decide))); have n6_ := Aside0.mk (blk_grown (g := gb173) (o := .cells #[.int .i64 t168, .slice Ao17 t169.length co17, .int .i64 t172] 30 (0, 0)) (up_ BK173.out) hg (Kd.R_ne HO_13.out BK173.out (by decide))); have n7_ := Aside0.mk (hb); have n8_ := Aside0.mk (ho); clear HO_10; clear HO_11; clear HO_174001; clear BK165; clear BK166; clear BK167; clear BK173; clear HB; clear HO_13; have HO_10 := n0_; have HO_11 := n1_; have HO_174001 := n2_; have BK165 := n3_; have BK166 := n4_; have BK167 := n5_; have BK173 := n6_; have HB := n7_; have HO200 := n8_; clear n0_ n1_ n2_ n3_ n4_ n5_ n6_ n7_ n8_; clear ho hb hg hat))
                go_roundg k4
                case measure => have := HJ3.out; have := HK2.out; have := HK3.out; have := HK4.out; omega
                case rel => exact ⟨(x10_4), (y198), (wrap64 (x14_4 + 1)), rs_, H', ⟨by have := HJ3.out; have := HK2.out; have := HK3.out; have := HK4.out; omega⟩, ⟨by (with_reducible repeat (first | apply Kd.R_alloc | apply Kd.R_drewN | apply Kd.R_drew)); exact Kd.R_mono HO_10.out (fun _ hk => hk.2)⟩, ⟨by (with_reducible repeat (first | apply Kd.S_alloc | apply Kd.S_drewN | apply Kd.S_drew)); exact Kd.S_mono HO_11.out (fun _ hk => ⟨hk.1.1, ⟨hk.2, hk.1.2⟩⟩)⟩, ⟨up_ HO200.out⟩, ⟨by (with_reducible repeat (first | apply Kd.S_alloc | apply Kd.S_drewN | apply Kd.S_drew)); exact Kd.S_mono HO_174001.out (fun _ hk => ⟨hk.1.1, ⟨hk.1.2, hk.2⟩⟩)⟩, ⟨up_ BK165.out⟩, ⟨up_ BK166.out⟩, ⟨up_ BK167.out⟩, ⟨up_ BK173.out⟩, ⟨up_ HB.out⟩⟩
               ·rw [if_neg c157] at H
                exact absurd H (by simp)
             ·replace H := ieq_ H; rcases H with ⟨-, c163b0, c163b1, H⟩ | ⟨c163, c163b0, c163b1, H⟩
              ·by_cases c164 : x13_4.length + x10_4.length < 17592186044416
               ·rw [if_pos c164] at H
                have LMc164 := Aside0.mk c164
                clear c164
                obtain ⟨y201, hy201⟩ : ∃ y_ : List Int, y_ = (x13_4 ++ x10_4) := ⟨_, rfl⟩
                replace H : (if x11_3.length < 5864062014805 then (spec_HearRow.l1 k4 x7_2 x10_4 (x11_3 ++ [y201]) (wrap64 (x12_3 + 1)) a0_0 l0_1 a0_2 l1_0 t168 t169 t172) else (none)) = some (r1, r2, r3, r4) := rh_ hy201 H
                have Ny201 := Aside0.mk hy201
                clear hy201
                by_cases c165 : x11_3.length < 5864062014805
                ·rw [if_pos c165] at H
                 have LMc165 := Aside0.mk c165
                 clear c165
                 obtain ⟨y204, hy204⟩ : ∃ y_ : List (List Int), y_ = (x11_3 ++ [y201]) := ⟨_, rfl⟩
                 replace H : (spec_HearRow.l1 k4 x7_2 x10_4 y204 (wrap64 (x12_3 + 1)) a0_0 l0_1 a0_2 l1_0 t168 t169 t172) = some (r1, r2, r3, r4) := rh_ hy204 H
                 have Ny204 := Aside0.mk hy204
                 clear hy204
                 have H' := Aside0.mk H
                 clear H
                 have hnb166 := NB165_166.out
                 have hnc166 := NB166_165.out
                 have hnb167 := NB165_167.out
                 have hnc167 := NB167_165.out
                 have hnb168 := NB165_173.out
                 have hnc168 := NB173_165.out
                 obtain ⟨hcz169_0, hcz169_1, hcz169_2⟩ := c3_ BK165
                 have hfz169_0 := blk_frozen BK165.out 0
                 have hfz169_1 := blk_frozen BK165.out 1
                 have hfz169_2 := blk_frozen BK165.out 2
                 have p188 : 0 ≤ (x12_3 : Int) := od_
                 have q188 : x12_3 < (l0_1.length : Int) := od_
                 obtain ⟨ad188, A188_0, c188_0, e188, hx188_0, hl188_0, hi188_0⟩ := at_L1 HR0_1.out x12_3 p188 q188
                 cases e188
                 replace hx188_0 := bh_ HB hx188_0
                 have HR188_0 := Aside0.mk hi188_0
                 have HC188_0 := Aside0.mk hl188_0
                 clear hi188_0 hl188_0
                 replace p188 := eq_true p188
                 replace q188 := eq_true q188
                 obtain ⟨Ao171, co171, eo171⟩ := Kd.R_slice HO_10.out
                 subst eo171
                 go_wp2_with (first | ((with_reducible refine gate_builtin (b := .append) (xs := #[.tmp 121, .tmp 122]) rfl ?_); at_builtin; refine Kd.R_append_rows (Kd.int .i64) (w0 := w) w.heap.size rfl (.tmp 121) (.tmp 122) 25 3 (.int .i64 0) 8 rfl Try.underlying25 info3 rfl (by decide) (by omega) u13 x13_4 x10_4 _ _ _ (fun k_ => some k_ ≠ (.slice Ao171 x10_4.length co171 : Value).ownBlock) (fun _ => False) rfl rfl ?aO ?aR (fun _ _ h => h) (fun _ h => h.elim) ?aF ?aB ?aS ?aL ?_; (case aR => repeat (first | exact (Kd.R_reads' HO_10.out).2.2 | (with_reducible refine Kd.C_alloc ?_ _) | (with_reducible refine Kd.C_drewN ?_ _) | (with_reducible refine Kd.C_drew ?_))); (case aB => exact (up_ HB.out)); (case aF => exact (fun k_ hk => Kd.fresh' (Kd.R_lt (up_ HO_10.out)) k_ hk)); (case aO => exact (up_ HO_13.out)); (case aS => exact (below_size (up_ HB.out))); (case aL => have := LMc164.out; omega); intro v202 w170 ho hb hg hat; rw [← Ny201.out] at ho; have n0_ := Aside0.mk (Kd.R_after (ok := (fun _ => True)) (by (with_reducible repeat (first | apply Kd.R_alloc | apply Kd.R_drewN | apply Kd.R_drew)); exact Kd.R_mono HO_10.out (fun _ hk => ⟨trivial, hk⟩)) hg hat); have n1_ := Aside0.mk (Kd.S_after (ok := (fun k_ => some k_ ≠ (.slice Ao171 x10_4.length co171 : Value).ownBlock ∧ some k_ ≠ (.slice Ao17 t169.length co17 : Value).ownBlock)) (by (with_reducible repeat (first | apply Kd.S_alloc | apply Kd.S_drewN | apply Kd.S_drew)); exact Kd.S_mono HO_11.out (fun _ hk => ⟨⟨hk.1, hk.2.2⟩, hk.2.1⟩)) hg hat); have n2_ := Aside0.mk (Kd.S_after (ok := (fun k_ => some k_ ≠ (.slice Ao171 x10_4.length co171 : Value).ownBlock ∧ some k_ ≠ (u11 : Value).ownBlock)) (by (with_reducible repeat (first | apply Kd.S_alloc | apply Kd.S_drewN | apply Kd.S_drew)); exact Kd.S_mono HO_174001.out (fun _ hk => ⟨⟨hk.1, hk.2.1⟩, hk.2.2⟩)) hg hat); have n3_ := Aside0.mk (blk_grown (g := gb165) (o := .cells #[.int .i64 a0_0, .slice (some ad188) l0_1.length c0_1, .int .i64 a0_2] 30 (0, 0)) (up_ BK165.out) hg (Kd.R_ne HO_13.out BK165.out (by decide))); have n4_ := Aside0.mk (blk_grown (g := gb166) (o := .cells #[.slice A1_0 l1_0.length c1_0] 34 (0, 0)) (up_ BK166.out) hg (Kd.R_ne HO_13.out BK166.out (by decide))); have n5_ := Aside0.mk (blk_grown (g := gb167) (o := .cells #[.int .i64 0, .slice none 0 0, .int .i64 0] 30 (0, 0)) (up_ BK167.out) hg (Kd.R_ne HO_13.out BK167.out (by decide))); have n6_ := Aside0.mk (blk_grown (g := gb173) (o := .cells #[.int .i64 t168, .slice Ao17 t169.length co17, .int .i64 t172] 30 (0, 0)) (up_ BK173.out) hg (Kd.R_ne HO_13.out BK173.out (by decide))); have n7_ := Aside0.mk (hb); have n8_ := Aside0.mk (ho); clear HO_10; clear HO_11; clear HO_174001; clear BK165; clear BK166; clear BK167; clear BK173; clear HB; clear HO_13; have HO_10 := n0_; have HO_11 := n1_; have HO_174001 := n2_; have BK165 := n3_; have BK166 := n4_; have BK167 := n5_; have BK173 := n6_; have HB := n7_; have HO203 := n8_; clear n0_ n1_ n2_ n3_ n4_ n5_ n6_ n7_ n8_; clear ho hb hg hat; obtain ⟨Ao173, co173, eo173⟩ := Kd.R_slice HO203.out; subst eo173) | ((with_reducible refine gate_builtin (b := .append) (xs := #[.tmp 124, .tmp 126]) rfl ?_); at_builtin; refine Kd.S_append (Kd.slice 3 (Kd.int .i64)) (w0 := w) w.heap.size rfl (.tmp 124) (.tmp 126) 22 25 (.slice none 0 0) 24 rfl Try.underlying22 info25 rfl (by decide) (by omega) u11 x11_3 y201 [.slice Ao173 y201.length co173] (fun k_ => some k_ ≠ (.slice Ao171 x10_4.length co171 : Value).ownBlock ∧ some k_ ≠ (.slice Ao17 t169.length co17 : Value).ownBlock) (fun k_ => some k_ = (.slice Ao173 y201.length co173 : Value).ownBlock) rfl rfl ?aP (fun k_ hk_ => ((Kd.R_mono (ok' := fun k_ => ((fun k_ => some k_ ≠ (.slice Ao171 x10_4.length co171 : Value).ownBlock ∧ some k_ ≠ (.slice Ao17 t169.length co17 : Value).ownBlock)) k_ ∧ some k_ ≠ (u11 : Value).ownBlock) (Kd.R_apart' (Kd.R_apart' (HO203.out) (Kd.S_typed HO_174001.out) (by decide)) (Kd.S_typed HO_11.out) (by decide)) (fun k_ hk => ⟨⟨hk.1.1, hk.1.2⟩, hk.2⟩))).1 k_ hk_.symm) ?aF ?aO ?aB ?aS ?aL ?_; (case aP => exact Kd.M_row (Kd.R_mono (Kd.R_tight rfl (Kd.R_mono (ok' := fun k_ => ((fun k_ => some k_ ≠ (.slice Ao171 x10_4.length co171 : Value).ownBlock ∧ some k_ ≠ (.slice Ao17 t169.length co17 : Value).ownBlock)) k_ ∧ some k_ ≠ (u11 : Value).ownBlock) (Kd.R_apart' (Kd.R_apart' (HO203.out) (Kd.S_typed HO_174001.out) (by decide)) (Kd.S_typed HO_11.out) (by decide)) (fun k_ hk => ⟨⟨hk.1.1, hk.1.2⟩, hk.2⟩))) (fun _ h_ => h_))); (case aB => exact (up_ HB.out)); (case aF => exact (fun k_ hk => ⟨Kd.fresh' (Kd.R_lt (up_ HO_10.out)) k_ hk, Kd.fresh' (Kd.S_lt (up_ HO_174001.out)) k_ hk⟩)); (case aO => exact (by (with_reducible repeat (first | apply Kd.S_alloc | apply Kd.S_drewN | apply Kd.S_drew)); exact Kd.S_mono HO_11.out (fun k_ hk => ⟨⟨hk.1.1, hk.1.2⟩, fun e_ => hk.2 e_⟩))); (case aS => exact (below_size (up_ HB.out))); (case aL => have := LMc165.out; omega); intro v205 w172 ho hb hg hat; rw [← Ny204.out] at ho; have n0_ := Aside0.mk (Kd.R_over' (up_ HO_10.out) (Kd.S_typed (up_ HO_11.out)) (by decide) hg); have n1_ := Aside0.mk (Kd.S_after (ok := (fun k_ => some k_ ≠ (.slice Ao171 x10_4.length co171 : Value).ownBlock ∧ some k_ ≠ (.slice Ao173 y201.length co173 : Value).ownBlock)) (by (with_reducible repeat (first | apply Kd.S_alloc | apply Kd.S_drewN | apply Kd.S_drew)); exact Kd.S_mono HO_174001.out (fun _ hk => ⟨⟨hk.1.1, hk.2⟩, hk.1.2⟩)) hg hat); have n2_ := Aside0.mk (blk_grown (g := gb165) (o := .cells #[.int .i64 a0_0, .slice (some ad188) l0_1.length c0_1, .int .i64 a0_2] 30 (0, 0)) (up_ BK165.out) hg (Kd.S_ne HO_11.out BK165.out (by decide))); have n3_ := Aside0.mk (blk_grown (g := gb166) (o := .cells #[.slice A1_0 l1_0.length c1_0] 34 (0, 0)) (up_ BK166.out) hg (Kd.S_ne HO_11.out BK166.out (by decide))); have n4_ := Aside0.mk (blk_grown (g := gb167) (o := .cells #[.int .i64 0, .slice none 0 0, .int .i64 0] 30 (0, 0)) (up_ BK167.out) hg (Kd.S_ne HO_11.out BK167.out (by decide))); have n5_ := Aside0.mk (blk_grown (g := gb173) (o := .cells #[.int .i64 t168, .slice Ao17 t169.length co17, .int .i64 t172] 30 (0, 0)) (up_ BK173.out) hg (Kd.S_ne HO_11.out BK173.out (by decide))); have n6_ := Aside0.mk (hb); have n7_ := Aside0.mk (ho); clear HO_10; clear HO_174001; clear BK165; clear BK166; clear BK167; clear BK173; clear HB; clear HO_11; clear HO203; have HO_10 := n0_; have HO_174001 := n1_; have BK165 := n2_; have BK166 := n3_; have BK167 := n4_; have BK173 := n5_; have HB := n6_; have HO206 := n7_; clear n0_ n1_ n2_ n3_ n4_ n5_ n6_ n7_; clear ho hb hg hat))
                 go_roundg k4
                 case measure => have := HJ3.out; have := HK2.out; have := HK3.out; have := HK4.out; omega
                 case rel => exact ⟨(x10_4), (y204), (wrap64 (x12_3 + 1)), rs_, H', ⟨by have := HJ3.out; have := HK2.out; have := HK3.out; have := HK4.out; omega⟩, ⟨by (with_reducible repeat (first | apply Kd.R_alloc | apply Kd.R_drewN | apply Kd.R_drew)); exact Kd.R_mono HO_10.out (fun _ hk => trivial)⟩, ⟨up_ HO206.out⟩, ⟨by (with_reducible repeat (first | apply Kd.S_alloc | apply Kd.S_drewN | apply Kd.S_drew)); exact Kd.S_mono HO_174001.out (fun _ hk => ⟨hk.1.1, hk.2⟩)⟩, ⟨up_ BK165.out⟩, ⟨up_ BK166.out⟩, ⟨up_ BK167.out⟩, ⟨up_ BK173.out⟩, ⟨up_ HB.out⟩⟩
                ·rw [if_neg c165] at H
                 exact absurd H (by simp)
               ·rw [if_neg c164] at H
                exact absurd H (by simp)
              ·by_cases c174 : x11_3.length < 5864062014805
               ·rw [if_pos c174] at H
                have LMc174 := Aside0.mk c174
                clear c174
                obtain ⟨y207, hy207⟩ : ∃ y_ : List (List Int), y_ = (x11_3 ++ [x13_4]) := ⟨_, rfl⟩
                replace H : (spec_HearRow.l1 k4 x7_2 x10_4 y207 (wrap64 (x12_3 + 1)) a0_0 l0_1 a0_2 l1_0 t168 t169 t172) = some (r1, r2, r3, r4) := rh_ hy207 H
                have Ny207 := Aside0.mk hy207
                clear hy207
                have H' := Aside0.mk H
                clear H
                have hnb175 := NB165_166.out
                have hnc175 := NB166_165.out
                have hnb176 := NB165_167.out
                have hnc176 := NB167_165.out
                have hnb177 := NB165_173.out
                have hnc177 := NB173_165.out
                obtain ⟨hcz178_0, hcz178_1, hcz178_2⟩ := c3_ BK165
                have hfz178_0 := blk_frozen BK165.out 0
                have hfz178_1 := blk_frozen BK165.out 1
                have hfz178_2 := blk_frozen BK165.out 2
                have p188 : 0 ≤ (x12_3 : Int) := od_
                have q188 : x12_3 < (l0_1.length : Int) := od_
                obtain ⟨ad188, A188_0, c188_0, e188, hx188_0, hl188_0, hi188_0⟩ := at_L1 HR0_1.out x12_3 p188 q188
                cases e188
                replace hx188_0 := bh_ HB hx188_0
                have HR188_0 := Aside0.mk hi188_0
                have HC188_0 := Aside0.mk hl188_0
                clear hi188_0 hl188_0
                replace p188 := eq_true p188
                replace q188 := eq_true q188
                obtain ⟨Ao180, co180, eo180⟩ := Kd.R_slice HO_13.out
                subst eo180
                go_wp2_with (first | ((with_reducible refine gate_builtin (b := .append) (xs := #[.tmp 124, .tmp 126]) rfl ?_); at_builtin; refine Kd.S_append (Kd.slice 3 (Kd.int .i64)) (w0 := w) w.heap.size rfl (.tmp 124) (.tmp 126) 22 25 (.slice none 0 0) 24 rfl Try.underlying22 info25 rfl (by decide) (by omega) u11 x11_3 x13_4 [.slice Ao180 x13_4.length co180] (fun k_ => some k_ ≠ (u10 : Value).ownBlock ∧ some k_ ≠ (.slice Ao17 t169.length co17 : Value).ownBlock) (fun k_ => some k_ = (.slice Ao180 x13_4.length co180 : Value).ownBlock) rfl rfl ?aP (fun k_ hk_ => ((Kd.R_mono (ok' := fun k_ => ((fun k_ => some k_ ≠ (u10 : Value).ownBlock ∧ some k_ ≠ (.slice Ao17 t169.length co17 : Value).ownBlock)) k_ ∧ some k_ ≠ (u11 : Value).ownBlock) (Kd.R_apart' (Kd.R_apart' (HO_13.out) (Kd.S_typed HO_174001.out) (by decide)) (Kd.S_typed HO_11.out) (by decide)) (fun k_ hk => ⟨⟨hk.1.1, hk.1.2⟩, hk.2⟩))).1 k_ hk_.symm) ?aF ?aO ?aB ?aS ?aL ?_; (case aP => exact Kd.M_row (Kd.R_mono (Kd.R_tight rfl (Kd.R_mono (ok' := fun k_ => ((fun k_ => some k_ ≠ (u10 : Value).ownBlock ∧ some k_ ≠ (.slice Ao17 t169.length co17 : Value).ownBlock)) k_ ∧ some k_ ≠ (u11 : Value).ownBlock) (Kd.R_apart' (Kd.R_apart' (HO_13.out) (Kd.S_typed HO_174001.out) (by decide)) (Kd.S_typed HO_11.out) (by decide)) (fun k_ hk => ⟨⟨hk.1.1, hk.1.2⟩, hk.2⟩))) (fun _ h_ => h_))); (case aB => exact (up_ HB.out)); (case aF => exact (fun k_ hk => ⟨Kd.fresh' (Kd.R_lt (up_ HO_10.out)) k_ hk, Kd.fresh' (Kd.S_lt (up_ HO_174001.out)) k_ hk⟩)); (case aO => exact (by (with_reducible repeat (first | apply Kd.S_alloc | apply Kd.S_drewN | apply Kd.S_drew)); exact Kd.S_mono HO_11.out (fun k_ hk => ⟨⟨hk.1, hk.2.2⟩, fun e_ => hk.2.1 e_⟩))); (case aS => exact (below_size (up_ HB.out))); (case aL => have := LMc174.out; omega); intro v208 w179 ho hb hg hat; rw [← Ny207.out] at ho; have n0_ := Aside0.mk (Kd.R_over' (up_ HO_10.out) (Kd.S_typed (up_ HO_11.out)) (by decide) hg); have n1_ := Aside0.mk (Kd.S_after (ok := (fun k_ => some k_ ≠ (u10 : Value).ownBlock ∧ some k_ ≠ (.slice Ao180 x13_4.length co180 : Value).ownBlock)) (by (with_reducible repeat (first | apply Kd.S_alloc | apply Kd.S_drewN | apply Kd.S_drew)); exact Kd.S_mono HO_174001.out (fun _ hk => ⟨⟨hk.1, hk.2.2⟩, hk.2.1⟩)) hg hat); have n2_ := Aside0.mk (blk_grown (g := gb165) (o := .cells #[.int .i64 a0_0, .slice (some ad188) l0_1.length c0_1, .int .i64 a0_2] 30 (0, 0)) (up_ BK165.out) hg (Kd.S_ne HO_11.out BK165.out (by decide))); have n3_ := Aside0.mk (blk_grown (g := gb166) (o := .cells #[.slice A1_0 l1_0.length c1_0] 34 (0, 0)) (up_ BK166.out) hg (Kd.S_ne HO_11.out BK166.out (by decide))); have n4_ := Aside0.mk (blk_grown (g := gb167) (o := .cells #[.int .i64 0, .slice none 0 0, .int .i64 0] 30 (0, 0)) (up_ BK167.out) hg (Kd.S_ne HO_11.out BK167.out (by decide))); have n5_ := Aside0.mk (blk_grown (g := gb173) (o := .cells #[.int .i64 t168, .slice Ao17 t169.length co17, .int .i64 t172] 30 (0, 0)) (up_ BK173.out) hg (Kd.S_ne HO_11.out BK173.out (by decide))); have n6_ := Aside0.mk (hb); have n7_ := Aside0.mk (ho); clear HO_10; clear HO_174001; clear BK165; clear BK166; clear BK167; clear BK173; clear HB; clear HO_11; clear HO_13; have HO_10 := n0_; have HO_174001 := n1_; have BK165 := n2_; have BK166 := n3_; have BK167 := n4_; have BK173 := n5_; have HB := n6_; have HO209 := n7_; clear n0_ n1_ n2_ n3_ n4_ n5_ n6_ n7_; clear ho hb hg hat))
                go_roundg k4
                case measure => have := HJ3.out; have := HK2.out; have := HK3.out; have := HK4.out; omega
                case rel => exact ⟨(x10_4), (y207), (wrap64 (x12_3 + 1)), rs_, H', ⟨by have := HJ3.out; have := HK2.out; have := HK3.out; have := HK4.out; omega⟩, ⟨by (with_reducible repeat (first | apply Kd.R_alloc | apply Kd.R_drewN | apply Kd.R_drew)); exact Kd.R_mono HO_10.out (fun _ hk => trivial)⟩, ⟨up_ HO209.out⟩, ⟨by (with_reducible repeat (first | apply Kd.S_alloc | apply Kd.S_drewN | apply Kd.S_drew)); exact Kd.S_mono HO_174001.out (fun _ hk => ⟨hk.1.1, hk.2⟩)⟩, ⟨up_ BK165.out⟩, ⟨up_ BK166.out⟩, ⟨up_ BK167.out⟩, ⟨up_ BK173.out⟩, ⟨up_ HB.out⟩⟩
               ·rw [if_neg c174] at H
                exact absurd H (by simp)
          ·have HC181 := Aside0.mk H
           clear H
           have hnb182 := NB165_166.out
           have hnc182 := NB166_165.out
           have hnb183 := NB165_167.out
           have hnc183 := NB167_165.out
           have hnb184 := NB165_173.out
           have hnc184 := NB173_165.out
           obtain ⟨hcz185_0, hcz185_1, hcz185_2⟩ := c3_ BK165
           have hfz185_0 := blk_frozen BK165.out 0
           have hfz185_1 := blk_frozen BK165.out 1
           have hfz185_2 := blk_frozen BK165.out 2
           go_upto_if 133 with (fail)
           go_cut [11] (fun v11 wc => ∃ (kq : Nat) (x11_180 : List (List Int)), Aside0 (spec_HearRow.j4 kq x11_180 a0_0 l0_1 a0_2 t168 t169 t172 = some (r1, r2, r3, r4)) ∧ Aside0 (kq ≤ k3) ∧ Aside0 (Kd.S (Kd.slice 3 (Kd.int .i64)) 25 wc w.heap.size (fun k_ => some k_ ≠ ((.slice Ao17 t169.length co17) : Value).ownBlock) v11 x11_180) ∧ Aside0 (Kd.S (Kd.slice 3 (Kd.int .i64)) 25 wc w.heap.size (fun k_ => some k_ ≠ (v11 : Value).ownBlock) (.slice Ao17 t169.length co17) t169) ∧ Aside0 (wc.heap[gb165]? = some (.cells #[.int .i64 a0_0, (.slice A0_1 l0_1.length c0_1), .int .i64 a0_2] 30 (0, 0))) ∧ Aside0 (wc.heap[gb166]? = some (.cells #[(.slice A1_0 l1_0.length c1_0)] 34 (0, 0))) ∧ Aside0 (wc.heap[gb167]? = some (.cells #[.int .i64 0, (.slice none 0 0), .int .i64 0] 30 (0, 0))) ∧ Aside0 (wc.heap[gb173]? = some (.cells #[.int .i64 t168, (.slice Ao17 t169.length co17), .int .i64 t172] 30 (0, 0))) ∧ Aside0 (Below w.heap.size w wc))
           case first =>
            have H := HC181.out
            clear HC181
            replace H := ieq_ H; rcases H with ⟨-, c186b0, c186b1, H⟩ | ⟨c186, c186b0, c186b1, H⟩
            ·(first | rw [c186b0] | (simp only [i64_w, i32_w]; rw [c186b0]) | skip)
             by_cases c187 : x11_3.length < 5864062014805
             ·rw [if_pos c187] at H
              have LMc187 := Aside0.mk c187
              clear c187
              obtain ⟨y210, hy210⟩ : ∃ y_ : List (List Int), y_ = (x11_3 ++ [x10_3]) := ⟨_, rfl⟩
              replace H : (spec_HearRow.j4 k3 y210 a0_0 l0_1 a0_2 t168 t169 t172) = some (r1, r2, r3, r4) := rh_ hy210 H
              have Ny210 := Aside0.mk hy210
              clear hy210
              have H' := Aside0.mk H
              clear H
              obtain ⟨Ao189, co189, eo189⟩ := Kd.R_slice HO_10.out
              subst eo189
              go_wp2_with (first | ((with_reducible refine gate_builtin (b := .append) (xs := #[.tmp 134, .tmp 136]) rfl ?_); at_builtin; refine Kd.S_append (Kd.slice 3 (Kd.int .i64)) (w0 := w) w.heap.size rfl (.tmp 134) (.tmp 136) 22 25 (.slice none 0 0) 24 rfl Try.underlying22 info25 rfl (by decide) (by omega) u11 x11_3 x10_3 [.slice Ao189 x10_3.length co189] (fun k_ => some k_ ≠ (.slice Ao17 t169.length co17 : Value).ownBlock) (fun k_ => some k_ = (.slice Ao189 x10_3.length co189 : Value).ownBlock) rfl rfl ?aP (fun k_ hk_ => ((Kd.R_mono (ok' := fun k_ => ((fun k_ => some k_ ≠ (.slice Ao17 t169.length co17 : Value).ownBlock)) k_ ∧ some k_ ≠ (u11 : Value).ownBlock) (Kd.R_apart' (Kd.R_apart' (HO_10.out) (Kd.S_typed HO_174001.out) (by decide)) (Kd.S_typed HO_11.out) (by decide)) (fun k_ hk => ⟨hk.1.2, hk.2⟩))).1 k_ hk_.symm) ?aF ?aO ?aB ?aS ?aL ?_; (case aP => exact Kd.M_row (Kd.R_mono (Kd.R_tight rfl (Kd.R_mono (ok' := fun k_ => ((fun k_ => some k_ ≠ (.slice Ao17 t169.length co17 : Value).ownBlock)) k_ ∧ some k_ ≠ (u11 : Value).ownBlock) (Kd.R_apart' (Kd.R_apart' (HO_10.out) (Kd.S_typed HO_174001.out) (by decide)) (Kd.S_typed HO_11.out) (by decide)) (fun k_ hk => ⟨hk.1.2, hk.2⟩))) (fun _ h_ => h_))); (case aB => exact (up_ HB.out)); (case aF => exact (fun k_ hk => Kd.fresh' (Kd.S_lt (up_ HO_174001.out)) k_ hk)); (case aO => exact (by (with_reducible repeat (first | apply Kd.S_alloc | apply Kd.S_drewN | apply Kd.S_drew)); exact Kd.S_mono HO_11.out (fun k_ hk => ⟨hk.2, fun e_ => hk.1 e_⟩))); (case aS => exact (below_size (up_ HB.out))); (case aL => have := LMc187.out; omega); intro v211 w188 ho hb hg hat; rw [← Ny210.out] at ho; have n0_ := Aside0.mk (Kd.S_after (ok := (fun k_ => some k_ ≠ (.slice Ao189 x10_3.length co189 : Value).ownBlock)) (up_ HO_174001.out) hg hat); have n1_ := Aside0.mk (blk_grown (g := gb165) (o := .cells #[.int .i64 a0_0, .slice A0_1 l0_1.length c0_1, .int .i64 a0_2] 30 (0, 0)) (up_ BK165.out) hg (Kd.S_ne HO_11.out BK165.out (by decide))); have n2_ := Aside0.mk (blk_grown (g := gb166) (o := .cells #[.slice A1_0 l1_0.length c1_0] 34 (0, 0)) (up_ BK166.out) hg (Kd.S_ne HO_11.out BK166.out (by decide))); have n3_ := Aside0.mk (blk_grown (g := gb167) (o := .cells #[.int .i64 0, .slice none 0 0, .int .i64 0] 30 (0, 0)) (up_ BK167.out) hg (Kd.S_ne HO_11.out BK167.out (by decide))); have n4_ := Aside0.mk (blk_grown (g := gb173) (o := .cells #[.int .i64 t168, .slice Ao17 t169.length co17, .int .i64 t172] 30 (0, 0)) (up_ BK173.out) hg (Kd.S_ne HO_11.out BK173.out (by decide))); have n5_ := Aside0.mk (hb); have n6_ := Aside0.mk (ho); clear HO_174001; clear BK165; clear BK166; clear BK167; clear BK173; clear HB; clear HO_11; clear HO_10; have HO_174001 := n0_; have BK165 := n1_; have BK166 := n2_; have BK167 := n3_; have BK173 := n4_; have HB := n5_; have HO212 := n6_; clear n0_ n1_ n2_ n3_ n4_ n5_ n6_; clear ho hb hg hat))
              go_meet
              case rel => exact ⟨_, (y210), H', ⟨by have := HJ3.out; have := HK2.out; have := HK3.out; first | omega | exact Nat.le_refl _⟩, ⟨up_ HO212.out⟩, ⟨by (with_reducible repeat (first | apply Kd.S_alloc | apply Kd.S_drewN | apply Kd.S_drew)); exact Kd.S_mono HO_174001.out (fun _ hk => hk.2)⟩, ⟨up_ BK165.out⟩, ⟨up_ BK166.out⟩, ⟨up_ BK167.out⟩, ⟨up_ BK173.out⟩, ⟨up_ HB.out⟩⟩
             ·rw [if_neg c187] at H
              exact absurd H (by simp)
            ·(first | rw [c186b0] | (simp only [i64_w, i32_w]; rw [c186b0]) | skip)
             have H' := Aside0.mk H
             clear H
             go_wp2
             go_meet
             case rel => exact ⟨_, (x11_3), H', ⟨by have := HJ3.out; have := HK2.out; have := HK3.out; first | omega | exact Nat.le_refl _⟩, ⟨by (with_reducible repeat (first | apply Kd.S_alloc | apply Kd.S_drewN | apply Kd.S_drew)); exact Kd.S_mono HO_11.out (fun _ hk => hk.2)⟩, ⟨by (with_reducible repeat (first | apply Kd.S_alloc | apply Kd.S_drewN | apply Kd.S_drew)); exact Kd.S_mono HO_174001.out (fun _ hk => hk.2)⟩, ⟨up_ BK165.out⟩, ⟨up_ BK166.out⟩, ⟨up_ BK167.out⟩, ⟨up_ BK173.out⟩, ⟨up_ HB.out⟩⟩
           case rest =>
            clear HC181
            try clear c1
            try clear p1
            try clear q1
            try clear hx1
            try clear p2
            try clear p6
            try clear c9
            try clear c10
            try clear c11
            try clear c12
            try clear c13
            try clear c14
            try clear c15
            try clear c16
            try clear c17
            try clear p17
            try clear q17
            try clear hx17
            try clear c18
            try clear p18
            try clear q18
            try clear hx18
            try clear p19
            try clear q19
            try clear hx19
            try clear p64
            try clear c96
            try clear c97
            try clear c99
            try clear c100
            try clear c101
            try clear c103
            try clear c104
            try clear c106
            try clear c106b0
            try clear c107
            try clear c108
            try clear c109
            try clear c111
            try clear c112
            try clear c114
            try clear c116
            try clear c117
            try clear c118
            try clear c124
            try clear c124b0
            try clear c125
            try clear c126
            try clear c127
            try clear c131
            try clear c131b0
            try clear c132
            try clear c132b0
            try clear c133
            try clear c133b0
            try clear c134
            try clear c134b0
            try clear c135
            try clear c135b0
            try clear c136
            try clear c136b0
            try clear c137
            try clear c137b0
            try clear c138
            try clear c138b0
            try clear c138b1
            try clear c139
            try clear c140
            try clear c141
            try clear c142
            try clear c144
            try clear c145
            try clear c148
            try clear c149
            try clear c150
            try clear c151
            try clear c153
            try clear c154
            try clear c157
            try clear c158
            try clear c159
            try clear c160
            try clear c163
            try clear c163b0
            try clear c163b1
            try clear c164
            try clear c165
            try clear c166
            try clear c167
            try clear c168
            try clear c174
            try clear c175
            try clear c176
            try clear c177
            try clear p178
            try clear q178
            try clear hx178
            try clear c182
            try clear c183
            try clear c184
            try clear c186
            try clear c186b0
            try clear c186b1
            try clear c187
            try clear c188
            try clear p188
            try clear q188
            try clear hx188
            try clear c189
            try clear p189
            try clear q189
            try clear hx189
            try clear hcz102_0
            try clear hcz102_1
            try clear hcz102_2
            try clear hcz105_0
            try clear hcz10_0
            try clear hcz10_1
            try clear hcz10_2
            try clear hcz110_0
            try clear hcz110_1
            try clear hcz110_2
            try clear hcz113_0
            try clear hcz113_1
            try clear hcz113_2
            try clear hcz115_0
            try clear hcz115_1
            try clear hcz115_2
            try clear hcz119_0
            try clear hcz119_1
            try clear hcz119_2
            try clear hcz128_0
            try clear hcz128_1
            try clear hcz128_2
            try clear hcz143_0
            try clear hcz143_1
            try clear hcz143_2
            try clear hcz146_0
            try clear hcz152_0
            try clear hcz152_1
            try clear hcz152_2
            try clear hcz155_0
            try clear hcz161_0
            try clear hcz161_1
            try clear hcz161_2
            try clear hcz169_0
            try clear hcz169_1
            try clear hcz169_2
            try clear hcz16_0
            try clear hcz16_1
            try clear hcz16_2
            try clear hcz178_0
            try clear hcz178_1
            try clear hcz178_2
            try clear hcz185_0
            try clear hcz185_1
            try clear hcz185_2
            try clear hcz26_0
            try clear hcz26_1
            try clear hcz26_2
            try clear hcz30_0
            try clear hcz31_0
            try clear hcz31_1
            try clear hcz31_2
            try clear hcz33_0
            try clear hcz33_1
            try clear hcz33_2
            try clear hcz38_0
            try clear hcz38_1
            try clear hcz38_2
            try clear hcz42_0
            try clear hcz43_0
            try clear hcz43_1
            try clear hcz43_2
            try clear hcz45_0
            try clear hcz45_1
            try clear hcz45_2
            try clear hcz46_0
            try clear hcz51_0
            try clear hcz51_1
            try clear hcz51_2
            try clear hcz55_0
            try clear hcz56_0
            try clear hcz56_1
            try clear hcz56_2
            try clear hcz61_0
            try clear hcz61_1
            try clear hcz61_2
            try clear hcz67_0
            try clear hcz67_1
            try clear hcz67_2
            try clear hcz70_0
            try clear hcz70_1
            try clear hcz70_2
            try clear hcz80_0
            try clear hcz80_1
            try clear hcz80_2
            try clear hcz83_0
            try clear hcz88_0
            try clear hcz88_1
            try clear hcz88_2
            try clear hcz91_0
            try clear hcz95_0
            try clear hcz95_1
            try clear hcz95_2
            try clear hcz98_0
            try clear hfz102_0
            try clear hfz102_1
            try clear hfz102_2
            try clear hfz105_0
            try clear hfz10_0
            try clear hfz10_1
            try clear hfz10_2
            try clear hfz110_0
            try clear hfz110_1
            try clear hfz110_2
            try clear hfz113_0
            try clear hfz113_1
            try clear hfz113_2
            try clear hfz115_0
            try clear hfz115_1
            try clear hfz115_2
            try clear hfz119_0
            try clear hfz119_1
            try clear hfz119_2
            try clear hfz128_0
            try clear hfz128_1
            try clear hfz128_2
            try clear hfz143_0
            try clear hfz143_1
            try clear hfz143_2
            try clear hfz146_0
            try clear hfz152_0
            try clear hfz152_1
            try clear hfz152_2
            try clear hfz155_0
            try clear hfz161_0
            try clear hfz161_1
            try clear hfz161_2
            try clear hfz169_0
            try clear hfz169_1
            try clear hfz169_2
            try clear hfz16_0
            try clear hfz16_1
            try clear hfz16_2
            try clear hfz178_0
            try clear hfz178_1
            try clear hfz178_2
            try clear hfz185_0
            try clear hfz185_1
            try clear hfz185_2
            try clear hfz26_0
            try clear hfz26_1
            try clear hfz26_2
            try clear hfz30_0
            try clear hfz31_0
            try clear hfz31_1
            try clear hfz31_2
            try clear hfz33_0
            try clear hfz33_1
            try clear hfz33_2
            try clear hfz38_0
            try clear hfz38_1
            try clear hfz38_2
            try clear hfz42_0
            try clear hfz43_0
            try clear hfz43_1
            try clear hfz43_2
            try clear hfz45_0
            try clear hfz45_1
            try clear hfz45_2
            try clear hfz46_0
            try clear hfz51_0
            try clear hfz51_1
            try clear hfz51_2
            try clear hfz55_0
            try clear hfz56_0
            try clear hfz56_1
            try clear hfz56_2
            try clear hfz61_0
            try clear hfz61_1
            try clear hfz61_2
            try clear hfz67_0
            try clear hfz67_1
            try clear hfz67_2
            try clear hfz70_0
            try clear hfz70_1
            try clear hfz70_2
            try clear hfz80_0
            try clear hfz80_1
            try clear hfz80_2
            try clear hfz83_0
            try clear hfz88_0
            try clear hfz88_1
            try clear hfz88_2
            try clear hfz91_0
            try clear hfz95_0
            try clear hfz95_1
            try clear hfz95_2
            try clear hfz98_0
            try clear hx178_0
            try clear hx188_0
            try clear hx189_0
            try clear hx190_0
            try clear hx191_0
            try clear p1
            try clear p17
            try clear p178
            try clear p188
            try clear p189
            try clear p190
            try clear p191
            try clear p2
            try clear p6
            try clear p64
            try clear q1
            try clear q17
            try clear q178
            try clear q188
            try clear q189
            try clear q190
            try clear q191
            obtain ⟨kq, x11_180, HA, HJ180, HO_11, HO_174001, BK165, BK166, BK167, BK173, HB⟩ := hcut
            cases kq with
            | zero => exact absurd HA.out (by simp [spec_HearRow.j4])
            | succ kj180 =>
             have H := HA.out
             clear HA
             simp only [spec_HearRow.j4] at H
             obtain ⟨y213, hy213⟩ : ∃ y_ : List (List Int), y_ = (([] : List (List Int))) := ⟨_, rfl⟩
             replace H : (spec_HearRow.l3 kj180 x11_180 0 a0_0 l0_1 a0_2 t168 y213 t172) = some (r1, r2, r3, r4) := rh_ hy213 H
             have Ny213 := Aside0.mk hy213
             clear hy213
             have H' := Aside0.mk H
             clear H
             go_wp2_with (first | ((refine gd_ 138 ?_); refine Kd.S_lit (Kd.slice 3 (Kd.int .i64)) _ 25 ?hg (N := 138) ?hd (xs := ([] : List (List Int))) (inner := []) (ok := fun _ => True) (okp := fun _ => True) ?hr ?hp (fun _ hk => hk) trivial (Below.refl _ _) (Nat.le_refl _) (by simp) ?_; (case hd => rfl); (case hg => rfl); (case hr => first | (go_simp; done) | (go_simp; rfl)); (case hp => exact (Reps.none _ _)); intro v214 w190 ho191 hb hg_ hnew_; clear hg_ hnew_; (first | rw [← Ny213.out] at ho191 | (simp only [Int.reduceToNat] at ho191; rw [← Ny213.out] at ho191)); have HO215 := Aside0.mk (Kd.S_lower (Kd.S_new' (Kd.S_new' ho191 (Kd.S_lt (up_ HO_11.out))) (Kd.S_lt (up_ HO_174001.out))) (below_size (up_ HB.out))); replace HO_11 := Aside0.mk (Kd.S_elder' (up_ HO_11.out) (Kd.S_base ho191) hb); replace HO_174001 := Aside0.mk (Kd.S_elder' (up_ HO_174001.out) (Kd.S_base ho191) hb); replace BK165 := bb_ BK165 hb; replace BK166 := bb_ BK166 hb; replace BK167 := bb_ BK167 hb; replace BK173 := bb_ BK173 hb; replace HB := bs_ HB hb; clear hb ho191; obtain ⟨Ao192, co192, eo192⟩ := Kd.S_slice HO215.out; subst eo192; have hnb193 := NB173_165.out; have hnc193 := NB165_173.out; have hnb194 := NB173_166.out; have hnc194 := NB166_173.out; have hnb195 := NB173_167.out; have hnc195 := NB167_173.out; obtain ⟨hcz196_0, hcz196_1, hcz196_2⟩ := c3_ BK173; have hfz196_0 := blk_frozen BK173.out 0; have hfz196_1 := blk_frozen BK173.out 1; have hfz196_2 := blk_frozen BK173.out 2))
             go_loopg [16] kj180 (fun kq v16 w' => ∃ (x16_5 : Int) (x174001_5 : List (List Int)) (u174001 : Value), v16 = .int .i64 x16_5 ∧ Aside0 (spec_HearRow.l3 kq x11_180 x16_5 a0_0 l0_1 a0_2 t168 x174001_5 t172 = some (r1, r2, r3, r4)) ∧ Aside0 (kq ≤ kj180) ∧ Aside0 (Kd.S (Kd.slice 3 (Kd.int .i64)) 25 w' w.heap.size (fun k_ => some k_ ≠ (u174001 : Value).ownBlock) u11 x11_180) ∧ Aside0 (Kd.S (Kd.slice 3 (Kd.int .i64)) 25 w' w.heap.size (fun k_ => some k_ ≠ (u11 : Value).ownBlock) u174001 x174001_5) ∧ Aside0 (w'.heap[gb165]? = some (.cells #[.int .i64 a0_0, (.slice A0_1 l0_1.length c0_1), .int .i64 a0_2] 30 (0, 0))) ∧ Aside0 (w'.heap[gb166]? = some (.cells #[(.slice A1_0 l1_0.length c1_0)] 34 (0, 0))) ∧ Aside0 (w'.heap[gb167]? = some (.cells #[.int .i64 0, (.slice none 0 0), .int .i64 0] 30 (0, 0))) ∧ Aside0 (w'.heap[gb173]? = some (.cells #[.int .i64 t168, u174001, .int .i64 t172] 30 (0, 0))) ∧ Aside0 (Below w.heap.size w w'))
             case atStart => exact ⟨(0), (y213), (.slice Ao192 y213.length co192), rs_, H', ⟨Nat.le_refl _⟩, ⟨by (with_reducible repeat (first | apply Kd.S_alloc | apply Kd.S_drewN | apply Kd.S_drew)); exact Kd.S_mono (Kd.S_far (p := ⟨gb173, 1, none⟩) (Kd.S_types HO_11.out BK173.out (by decide)) (fun _ hk => hk.2) (.slice Ao192 y213.length co192)) (fun _ hk => hk.1.2)⟩, ⟨by (with_reducible repeat (first | apply Kd.S_alloc | apply Kd.S_drewN | apply Kd.S_drew)); exact Kd.S_mono (Kd.S_far (p := ⟨gb173, 1, none⟩) (Kd.S_types HO215.out BK173.out (by decide)) (fun _ hk => hk.2) (.slice Ao192 y213.length co192)) (fun _ hk => hk.1.1.2)⟩, ⟨by (with_reducible repeat (first | refine blk_drewN ?_ _ | refine blk_drew ?_ | refine blk_alloc ?_ _)); refine blk_far ?_ NB165_173.out _; (with_reducible repeat (first | refine blk_drewN ?_ _ | refine blk_drew ?_ | refine blk_alloc ?_ _)); exact BK165.out⟩, ⟨by (with_reducible repeat (first | refine blk_drewN ?_ _ | refine blk_drew ?_ | refine blk_alloc ?_ _)); refine blk_far ?_ NB166_173.out _; (with_reducible repeat (first | refine blk_drewN ?_ _ | refine blk_drew ?_ | refine blk_alloc ?_ _)); exact BK166.out⟩, ⟨by (with_reducible repeat (first | refine blk_drewN ?_ _ | refine blk_drew ?_ | refine blk_alloc ?_ _)); refine blk_far ?_ NB167_173.out _; (with_reducible repeat (first | refine blk_drewN ?_ _ | refine blk_drew ?_ | refine blk_alloc ?_ _)); exact BK167.out⟩, ⟨by (with_reducible repeat (first | refine blk_drewN ?_ _ | refine blk_drew ?_ | refine blk_alloc ?_ _)); refine blk_put (cs := #[.int .i64 t168, .slice Ao17 t169.length co17, .int .i64 t172]) ?_ 1 _ rfl; (with_reducible repeat (first | refine blk_drewN ?_ _ | refine blk_drew ?_ | refine blk_alloc ?_ _)); exact BK173.out⟩, ⟨up_ HB.out⟩⟩
             case round =>
              clear H'
              try clear c1
              try clear p1
              try clear q1
              try clear hx1
              try clear p2
              try clear p6
              try clear c9
              try clear c10
              try clear c11
              try clear c12
              try clear c13
              try clear c14
              try clear c15
              try clear c16
              try clear c17
              try clear p17
              try clear q17
              try clear hx17
              try clear c18
              try clear p18
              try clear q18
              try clear hx18
              try clear c19
              try clear p19
              try clear q19
              try clear hx19
              try clear p64
              try clear c96
              try clear c97
              try clear c99
              try clear c100
              try clear c101
              try clear c103
              try clear c104
              try clear c106
              try clear c106b0
              try clear c107
              try clear c108
              try clear c109
              try clear c111
              try clear c112
              try clear c114
              try clear c116
              try clear c117
              try clear c118
              try clear c124
              try clear c124b0
              try clear c125
              try clear c126
              try clear c127
              try clear c131
              try clear c131b0
              try clear c132
              try clear c132b0
              try clear c133
              try clear c133b0
              try clear c134
              try clear c134b0
              try clear c135
              try clear c135b0
              try clear c136
              try clear c136b0
              try clear c137
              try clear c137b0
              try clear c138
              try clear c138b0
              try clear c138b1
              try clear c139
              try clear c140
              try clear c141
              try clear c142
              try clear c144
              try clear c145
              try clear c148
              try clear c149
              try clear c150
              try clear c151
              try clear c153
              try clear c154
              try clear c157
              try clear c158
              try clear c159
              try clear c160
              try clear c163
              try clear c163b0
              try clear c163b1
              try clear c164
              try clear c165
              try clear c166
              try clear c167
              try clear c168
              try clear c174
              try clear c175
              try clear c176
              try clear c177
              try clear p178
              try clear q178
              try clear hx178
              try clear c182
              try clear c183
              try clear c184
              try clear c186
              try clear c186b0
              try clear c186b1
              try clear c187
              try clear c188
              try clear p188
              try clear q188
              try clear hx188
              try clear c189
              try clear p189
              try clear q189
              try clear hx189
              try clear p190
              try clear q190
              try clear hx190
              try clear p191
              try clear q191
              try clear hx191
              try clear c193
              try clear c194
              try clear c195
              try clear hcz102_0
              try clear hcz102_1
              try clear hcz102_2
              try clear hcz105_0
              try clear hcz10_0
              try clear hcz10_1
              try clear hcz10_2
              try clear hcz110_0
              try clear hcz110_1
              try clear hcz110_2
              try clear hcz113_0
              try clear hcz113_1
              try clear hcz113_2
              try clear hcz115_0
              try clear hcz115_1
              try clear hcz115_2
              try clear hcz119_0
              try clear hcz119_1
              try clear hcz119_2
              try clear hcz128_0
              try clear hcz128_1
              try clear hcz128_2
              try clear hcz143_0
              try clear hcz143_1
              try clear hcz143_2
              try clear hcz146_0
              try clear hcz152_0
              try clear hcz152_1
              try clear hcz152_2
              try clear hcz155_0
              try clear hcz161_0
              try clear hcz161_1
              try clear hcz161_2
              try clear hcz169_0
              try clear hcz169_1
              try clear hcz169_2
              try clear hcz16_0
              try clear hcz16_1
              try clear hcz16_2
              try clear hcz178_0
              try clear hcz178_1
              try clear hcz178_2
              try clear hcz185_0
              try clear hcz185_1
              try clear hcz185_2
              try clear hcz196_0
              try clear hcz196_1
              try clear hcz196_2
              try clear hcz26_0
              try clear hcz26_1
              try clear hcz26_2
              try clear hcz30_0
              try clear hcz31_0
              try clear hcz31_1
              try clear hcz31_2
              try clear hcz33_0
              try clear hcz33_1
              try clear hcz33_2
              try clear hcz38_0
              try clear hcz38_1
              try clear hcz38_2
              try clear hcz42_0
              try clear hcz43_0
              try clear hcz43_1
              try clear hcz43_2
              try clear hcz45_0
              try clear hcz45_1
              try clear hcz45_2
              try clear hcz46_0
              try clear hcz51_0
              try clear hcz51_1
              try clear hcz51_2
              try clear hcz55_0
              try clear hcz56_0
              try clear hcz56_1
              try clear hcz56_2
              try clear hcz61_0
              try clear hcz61_1
              try clear hcz61_2
              try clear hcz67_0
              try clear hcz67_1
              try clear hcz67_2
              try clear hcz70_0
              try clear hcz70_1
              try clear hcz70_2
              try clear hcz80_0
              try clear hcz80_1
              try clear hcz80_2
              try clear hcz83_0
              try clear hcz88_0
              try clear hcz88_1
              try clear hcz88_2
              try clear hcz91_0
              try clear hcz95_0
              try clear hcz95_1
              try clear hcz95_2
              try clear hcz98_0
              try clear hfz102_0
              try clear hfz102_1
              try clear hfz102_2
              try clear hfz105_0
              try clear hfz10_0
              try clear hfz10_1
              try clear hfz10_2
              try clear hfz110_0
              try clear hfz110_1
              try clear hfz110_2
              try clear hfz113_0
              try clear hfz113_1
              try clear hfz113_2
              try clear hfz115_0
              try clear hfz115_1
              try clear hfz115_2
              try clear hfz119_0
              try clear hfz119_1
              try clear hfz119_2
              try clear hfz128_0
              try clear hfz128_1
              try clear hfz128_2
              try clear hfz143_0
              try clear hfz143_1
              try clear hfz143_2
              try clear hfz146_0
              try clear hfz152_0
              try clear hfz152_1
              try clear hfz152_2
              try clear hfz155_0
              try clear hfz161_0
              try clear hfz161_1
              try clear hfz161_2
              try clear hfz169_0
              try clear hfz169_1
              try clear hfz169_2
              try clear hfz16_0
              try clear hfz16_1
              try clear hfz16_2
              try clear hfz178_0
              try clear hfz178_1
              try clear hfz178_2
              try clear hfz185_0
              try clear hfz185_1
              try clear hfz185_2
              try clear hfz196_0
              try clear hfz196_1
              try clear hfz196_2
              try clear hfz26_0
              try clear hfz26_1
              try clear hfz26_2
              try clear hfz30_0
              try clear hfz31_0
              try clear hfz31_1
              try clear hfz31_2
              try clear hfz33_0
              try clear hfz33_1
              try clear hfz33_2
              try clear hfz38_0
              try clear hfz38_1
              try clear hfz38_2
              try clear hfz42_0
              try clear hfz43_0
              try clear hfz43_1
              try clear hfz43_2
              try clear hfz45_0
              try clear hfz45_1
              try clear hfz45_2
              try clear hfz46_0
              try clear hfz51_0
              try clear hfz51_1
              try clear hfz51_2
              try clear hfz55_0
              try clear hfz56_0
              try clear hfz56_1
              try clear hfz56_2
              try clear hfz61_0
              try clear hfz61_1
              try clear hfz61_2
              try clear hfz67_0
              try clear hfz67_1
              try clear hfz67_2
              try clear hfz70_0
              try clear hfz70_1
              try clear hfz70_2
              try clear hfz80_0
              try clear hfz80_1
              try clear hfz80_2
              try clear hfz83_0
              try clear hfz88_0
              try clear hfz88_1
              try clear hfz88_2
              try clear hfz91_0
              try clear hfz95_0
              try clear hfz95_1
              try clear hfz95_2
              try clear hfz98_0
              try clear hx178_0
              try clear hx188_0
              try clear hx189_0
              try clear hx190_0
              try clear hx191_0
              try clear p1
              try clear p17
              try clear p178
              try clear p18
              try clear p188
              try clear p189
              try clear p19
              try clear p190
              try clear p191
              try clear p2
              try clear p6
              try clear p64
              try clear q1
              try clear q17
              try clear q178
              try clear q18
              try clear q188
              try clear q189
              try clear q19
              try clear q190
              try clear q191
              obtain ⟨x16_5, x174001_5, u174001, rfl, HA, HK5, HO_11, HO_174001, BK165, BK166, BK167, BK173, HB⟩ := hrel
              cases gk with
              | zero => exact absurd HA.out (by simp [spec_HearRow.l3])
              | succ k5 =>
               have H := HA.out
               clear HA
               simp only [spec_HearRow.l3] at H
               replace H := its_ H; rcases H with ⟨c197b0, H⟩ | ⟨c197b0, H⟩
               ·replace H := its_ H; rcases H with ⟨c198b0, H⟩ | ⟨_, ⟨⟩⟩
                by_cases c199 : ((rd_L1 x11_180 x16_5).length : Int) > 0
                ·rw [if_pos c199] at H
                 have c199b0 : decide (0 < ((rd_L1 x11_180 x16_5).length : Int)) = true := decide_eq_true c199
                 have c199b1 : decide (0 < (rd_L1 x11_180 x16_5).length) = true := decide_eq_true (by omega)
                 clear c199
                 replace H := Option.bind_eq_some_iff.mp H
                 obtain ⟨t218, A2000, H⟩ := H
                 replace H : (if x174001_5.length < 5864062014805 then (spec_HearRow.l3 k5 x11_180 (wrap64 (x16_5 + 1)) a0_0 l0_1 a0_2 t168 (x174001_5 ++ [t218]) t172) else (none)) = some (r1, r2, r3, r4) := H
                 have A200 := Aside0.mk A2000
                 clear A2000
                 by_cases c201 : x174001_5.length < 5864062014805
                 ·rw [if_pos c201] at H
                  have LMc201 := Aside0.mk c201
                  clear c201
                  obtain ⟨y221, hy221⟩ : ∃ y_ : List (List Int), y_ = (x174001_5 ++ [t218]) := ⟨_, rfl⟩
                  replace H : (spec_HearRow.l3 k5 x11_180 (wrap64 (x16_5 + 1)) a0_0 l0_1 a0_2 t168 y221 t172) = some (r1, r2, r3, r4) := rh_ hy221 H
                  have Ny221 := Aside0.mk hy221
                  clear hy221
                  have H' := Aside0.mk H
                  clear H
                  obtain ⟨Ao202, co202, eo202⟩ := Kd.S_slice HO_11.out
                  subst eo202
                  have p216 : 0 ≤ (x16_5 : Int) := od_
                  have q216 : x16_5 < (x11_180.length : Int) := od_
                  obtain ⟨ad216, A216_0, c216_0, e216, hx216_0, hl216_0, hi216_0⟩ := at_L1 (Kd.S_reads' HO_11.out).2.2 x16_5 p216 q216
                  cases e216
                  obtain ⟨ce216, hce216, hMe216, hcc216⟩ := Kd.S_get HO_11.out [] x16_5 p216 (by first | exact q216 | exact od_ | (have e_ := (Kd.S_reads' HO_11.out).1; omega))
                  obtain ⟨ve216_0, rfl, ge216_0⟩ := hMe216
                  have hv216_0 := hcc216 0 _ rfl
                  rw [Nat.add_zero, show ((Kd.slice 3 (Kd.int .i64))).sz = 1 from rfl, Nat.mul_one] at hv216_0
                  replace hv216_0 := Option.some.inj (hv216_0.symm.trans hx216_0)
                  rw [hv216_0] at ge216_0
                  have HL216_0 := Aside0.mk (show Kd.R (Kd.int .i64) 3 _ _ _ _ (rd_L1 x11_180 x16_5) from ge216_0)
                  clear hv216_0 ge216_0
                  clear hcc216 hce216
                  have HR216_0 := Aside0.mk hi216_0
                  have HC216_0 := Aside0.mk hl216_0
                  clear hi216_0 hl216_0
                  replace p216 := eq_true p216
                  replace q216 := eq_true q216
                  try go_wp2
                  have n0_ := Aside0.mk (Kd.S_drew HO_11.out)
                  have n1_ := Aside0.mk (Kd.S_drew HO_174001.out)
                  have n2_ := Aside0.mk (Kd.R_drew HL216_0.out)
                  have n3_ := Aside0.mk (blk_drew BK165.out)
                  have n4_ := Aside0.mk (blk_drew BK166.out)
                  have n5_ := Aside0.mk (blk_drew BK167.out)
                  have n6_ := Aside0.mk (blk_drew BK173.out)
                  have n7_ := Aside0.mk (Kd.C_drew HR216_0.out)
                  have n8_ := Aside0.mk (below_drew1 HB.out)
                  clear HO_11
                  clear HO_174001
                  clear HL216_0
                  clear BK165
                  clear BK166
                  clear BK167
                  clear BK173
                  clear HR216_0
                  clear HB
                  have HO_11 := n0_
                  have HO_174001 := n1_
                  have HL216_0 := n2_
                  have BK165 := n3_
                  have BK166 := n4_
                  have BK167 := n5_
                  have BK173 := n6_
                  have HR216_0 := n7_
                  have HB := n8_
                  clear n0_ n1_ n2_ n3_ n4_ n5_ n6_ n7_ n8_
                  have p217 : 0 ≤ (x16_5 : Int) := od_
                  have q217 : x16_5 < (x11_180.length : Int) := od_
                  obtain ⟨ad217, A217_0, c217_0, e217, hx217_0, hl217_0, hi217_0⟩ := at_L1 (Kd.S_reads' HO_11.out).2.2 x16_5 p217 q217
                  obtain rfl : ad216 = ad217 := (by injection e217)
                  obtain ⟨ce217, hce217, hMe217, hcc217⟩ := Kd.S_get HO_11.out [] x16_5 p217 (by first | exact q217 | exact od_ | (have e_ := (Kd.S_reads' HO_11.out).1; omega))
                  obtain ⟨ve217_0, rfl, ge217_0⟩ := hMe217
                  have hv217_0 := hcc217 0 _ rfl
                  rw [Nat.add_zero, show ((Kd.slice 3 (Kd.int .i64))).sz = 1 from rfl, Nat.mul_one] at hv217_0
                  replace hv217_0 := Option.some.inj (hv217_0.symm.trans hx217_0)
                  rw [hv217_0] at ge217_0
                  have HL217_0 := Aside0.mk (show Kd.R (Kd.int .i64) 3 _ _ _ _ (rd_L1 x11_180 x16_5) from ge217_0)
                  clear hv217_0 ge217_0
                  clear hcc217 hce217
                  have HR217_0 := Aside0.mk hi217_0
                  have HC217_0 := Aside0.mk hl217_0
                  clear hi217_0 hl217_0
                  replace p217 := eq_true p217
                  replace q217 := eq_true q217
                  refine start_ (n := 11) (S := fun w' => w'.cell? ⟨gb173, 0, none⟩ = some (.int .i64 t168) ∧ w'.cell? ⟨gb173, 1, none⟩ = some (u174001) ∧ w'.cell? ⟨gb173, 2, none⟩ = some (.int .i64 t172) ∧ w'.cell? (ad216.add (x16_5).toNat) = some (.slice A217_0 (rd_L1 x11_180 x16_5).length c217_0)) (ds := [8, 10]) #[false, false, false, false, false, false, false, false, false, false, false] (by kernel_rfl) rfl rfl ⟨(blk_cell BK173.out 0).trans rfl, (blk_cell BK173.out 1).trans rfl, (blk_cell BK173.out 2).trans rfl, hx217_0⟩ (fun hHeld => ?_); refine with_tabW spec_HearRow.tab36 spec_HearRow.bits36 (fun HT_ HW_ => ?_)
                  generalize wr.drew = w203 at HO_11 HO_174001 HL216_0 BK165 BK166 BK167 BK173 HR216_0 HB HL217_0 HR217_0 hx217_0 hHeld ⊢
                  refine pu_ 0 (some 152) ?_
                  refine pu_ 2 (some 154) ?_
                  refine pu_ 3 (some 155) ?_
                  refine pu_ 4 (some 156) ?_
                  refine tk_ 1 (some 153) hHeld ?_
                  refine tk_ 5 (some 157) hHeld ?_
                  refine one_ (i := 6) (N := some 158) #[true, true, true, true, true, true, true, false, false, false, false] rfl rfl (one_of HT_.out (by kernel_rfl)) (by decide) (fun K hK => ?_)
                  refine goes_ Try.func81 (by kernel_rfl) rfl #[.slice A217_0 (rd_L1 x11_180 x16_5).length c217_0] (by rfl) rfl rfl am_ ?_
                  with_reducible refine (spec_l22Sorted.calls k5 _ _ (rd_L1 x11_180 x16_5) t218 _ ?side1 ?side2 A200.out).mono ?_
                  (case side1 => exact up_ HR217_0.out)
                  (case side2 => exact HC217_0.out)
                  rintro e w204 ⟨v219, rfl, ho0, hb⟩
                  have HS3_ := (hb.cell (World.block_lt_of_cell? _ _ (hHeld.2.2.2))).trans (hHeld.2.2.2)
                  refine ⟨_, rfl, ?_⟩
                  have n0_ := Aside0.mk (Kd.S_elder' (up_ HO_11.out) (Kd.R_base ho0) hb)
                  have n1_ := Aside0.mk (Kd.S_elder' (up_ HO_174001.out) (Kd.R_base ho0) hb)
                  have n2_ := Aside0.mk (Kd.R_elder' (up_ HL216_0.out) (Kd.R_base ho0) hb)
                  have n3_ := Aside0.mk (Kd.R_elder' (up_ HL217_0.out) (Kd.R_base ho0) hb)
                  have n4_ := Aside0.mk (Kd.R_lower (Kd.R_new' (Kd.R_new' ho0 (Kd.R_lt (up_ HL216_0.out))) (Kd.R_lt (up_ HL217_0.out))) (below_size (up_ HB.out)))
                  have n5_ := bb_ BK165 hb
                  have n6_ := bb_ BK166 hb
                  have n7_ := bb_ BK167 hb
                  have n8_ := bb_ BK173 hb
                  have n9_ := Aside0.mk (Kd.C_below (up_ HR216_0.out) hb)
                  have n10_ := Aside0.mk (Kd.C_below (up_ HR217_0.out) hb)
                  have n11_ := bs_ HB hb
                  clear HO_11
                  clear HO_174001
                  clear HL216_0
                  clear HL217_0
                  clear BK165
                  clear BK166
                  clear BK167
                  clear BK173
                  clear HR216_0
                  clear HR217_0
                  clear HB
                  have HO_11 := n0_
                  have HO_174001 := n1_
                  have HL216_0 := n2_
                  have HL217_0 := n3_
                  have HO220 := n4_
                  have BK165 := n5_
                  have BK166 := n6_
                  have BK167 := n7_
                  have BK173 := n8_
                  have HR216_0 := n9_
                  have HR217_0 := n10_
                  have HB := n11_
                  clear n0_ n1_ n2_ n3_ n4_ n5_ n6_ n7_ n8_ n9_ n10_ n11_
                  (try clear hb)
                  (try clear hb2)
                  (try clear hk)
                  (try clear hi)
                  (try clear ho0)
                  obtain ⟨Ao206, co206, eo206⟩ := Kd.R_slice HO220.out
                  (first | subst eo206 | (injection eo206 with f1_ f2_ f3_; have f4_ := f1_.symm; have f5_ := f3_.symm; clear f1_ f2_ f3_; subst f4_; subst f5_))
                  refine hK.out _ _ ⟨(blk_cell BK173.out 0).trans rfl, (blk_cell BK173.out 1).trans rfl, (blk_cell BK173.out 2).trans rfl, HS3_⟩ (fun hHeld => ?_)
                  clear hK K
                  refine nm_ ?_
                  refine one_ (i := 7) (N := some 159) #[true, true, true, true, true, true, true, true, false, false, false] rfl rfl (one_of HT_.out (by kernel_rfl)) (by decide) (fun K hK => ?_)
                  refine value_ (w1 := ?_) (v := ?_) (by rfl) rfl ?_ ?_
                  rotate_left 2
                  ·go_simp
                   constructor
                   ·rfl
                   ·rfl
                  refine hK.out _ _ ⟨(blk_cell (blk_alloc BK173.out _) 0).trans rfl, (blk_cell (blk_alloc BK173.out _) 1).trans rfl, (blk_cell (blk_alloc BK173.out _) 2).trans rfl, (World.cell?_alloc_lt _ _ _ (World.block_lt_of_cell? _ _ (hHeld.2.2.2))).trans (hHeld.2.2.2)⟩ (fun hHeld => ?_)
                  clear hK K
                  refine nm_ ?_
                  refine last_ (i := 8) (N := some 160) #[true, true, true, true, true, true, true, true, true, false, false] rfl rfl (one_of HT_.out (by kernel_rfl)) (by decide) (fun K hK => ?_)
                  refine Kd.S_append_step (Kd.slice 3 (Kd.int .i64)) (w0 := w) w.heap.size (by rfl) (.tmp 153) (.tmp 159) 22 25 (.slice none 0 0) 24 rfl Try.underlying22 info25 rfl (by decide) (by omega) u174001 x174001_5 t218 [.slice Ao206 t218.length co206] (fun k_ => some k_ ≠ (.slice (some ad216) x11_180.length co202 : Value).ownBlock) (fun k_ => some k_ = (.slice Ao206 t218.length co206 : Value).ownBlock) rfl rfl ?aP (fun k_ hk_ => ((Kd.R_mono (ok' := fun k_ => ((fun k_ => some k_ ≠ (.slice (some ad216) x11_180.length co202 : Value).ownBlock)) k_ ∧ some k_ ≠ (u174001 : Value).ownBlock) (Kd.R_apart' (Kd.R_apart' (HO220.out) (Kd.S_typed HO_11.out) (by decide)) (Kd.S_typed HO_174001.out) (by decide)) (fun k_ hk => ⟨hk.1.2, hk.2⟩))).1 k_ hk_.symm) ?aF ?aO ?aB ?aS ?aL ?_
                  (case aP => exact Kd.M_row (Kd.R_mono (Kd.R_tight rfl (Kd.R_mono (ok' := fun k_ => ((fun k_ => some k_ ≠ (.slice (some ad216) x11_180.length co202 : Value).ownBlock)) k_ ∧ some k_ ≠ (u174001 : Value).ownBlock) (Kd.R_apart' (Kd.R_apart' (HO220.out) (Kd.S_typed HO_11.out) (by decide)) (Kd.S_typed HO_174001.out) (by decide)) (fun k_ hk => ⟨hk.1.2, hk.2⟩))) (fun _ h_ => h_)))
                  (case aB => exact (up_ HB.out))
                  (case aF => exact (fun k_ hk => Kd.fresh' (Kd.S_lt (up_ HO_11.out)) k_ hk))
                  (case aO => exact (by (with_reducible repeat (first | apply Kd.S_alloc | apply Kd.S_drewN | apply Kd.S_drew)); exact Kd.S_mono HO_174001.out (fun k_ hk => ⟨hk.1, fun e_ => hk.2 e_⟩)))
                  (case aS => exact (below_size (up_ HB.out)))
                  (case aL => have := LMc201.out; omega)
                  intro v222 w205 ho hb hg hat
                  rw [← Ny221.out] at ho
                  have n0_ := Aside0.mk (Kd.S_after (ok := (fun k_ => some k_ ≠ (.slice Ao206 t218.length co206 : Value).ownBlock)) (by (with_reducible repeat (first | apply Kd.S_alloc | apply Kd.S_drewN | apply Kd.S_drew)); exact Kd.S_mono HO_11.out (fun _ hk => ⟨hk.2, hk.1⟩)) hg hat)
                  have n1_ := Aside0.mk (blk_grown (g := gb165) (o := .cells #[.int .i64 a0_0, .slice A0_1 l0_1.length c0_1, .int .i64 a0_2] 30 (0, 0)) (up_ BK165.out) hg (Kd.S_ne HO_174001.out BK165.out (by decide)))
                  have n2_ := Aside0.mk (blk_grown (g := gb166) (o := .cells #[.slice A1_0 l1_0.length c1_0] 34 (0, 0)) (up_ BK166.out) hg (Kd.S_ne HO_174001.out BK166.out (by decide)))
                  have n3_ := Aside0.mk (blk_grown (g := gb167) (o := .cells #[.int .i64 0, .slice none 0 0, .int .i64 0] 30 (0, 0)) (up_ BK167.out) hg (Kd.S_ne HO_174001.out BK167.out (by decide)))
                  have n4_ := Aside0.mk (blk_grown (g := gb173) (o := .cells #[.int .i64 t168, u174001, .int .i64 t172] 30 (0, 0)) (up_ BK173.out) hg (Kd.S_ne HO_174001.out BK173.out (by decide)))
                  have n5_ := Aside0.mk (Kd.R_after (ok := (fun k_ => some k_ ≠ (.slice (some ad216) x11_180.length co202 : Value).ownBlock ∧ some k_ ≠ (.slice Ao206 t218.length co206 : Value).ownBlock)) (by (with_reducible repeat (first | apply Kd.R_alloc | apply Kd.R_drewN | apply Kd.R_drew)); exact Kd.R_mono HL216_0.out (fun _ hk => ⟨⟨hk.1.2, hk.2⟩, hk.1.1⟩)) hg hat)
                  have n6_ := Aside0.mk (Kd.R_after (ok := (fun k_ => some k_ ≠ (.slice (some ad216) x11_180.length co202 : Value).ownBlock ∧ some k_ ≠ (.slice Ao206 t218.length co206 : Value).ownBlock)) (by (with_reducible repeat (first | apply Kd.R_alloc | apply Kd.R_drewN | apply Kd.R_drew)); exact Kd.R_mono HL217_0.out (fun _ hk => ⟨⟨hk.1.2, hk.2⟩, hk.1.1⟩)) hg hat)
                  have n7_ := Aside0.mk (hb)
                  have n8_ := Aside0.mk (ho)
                  clear HO_11
                  clear BK165
                  clear BK166
                  clear BK167
                  clear BK173
                  clear HL216_0
                  clear HL217_0
                  clear HB
                  clear HO_174001
                  clear HO220
                  have HO_11 := n0_
                  have BK165 := n1_
                  have BK166 := n2_
                  have BK167 := n3_
                  have BK173 := n4_
                  have HL216_0 := n5_
                  have HL217_0 := n6_
                  have HB := n7_
                  have HO223 := n8_
                  clear n0_ n1_ n2_ n3_ n4_ n5_ n6_ n7_ n8_
                  clear ho hb hg hat
                  obtain ⟨Ao207, co207, eo207⟩ := Kd.S_slice HO223.out
                  (first | subst eo207 | (injection eo207 with f1_ f2_ f3_; have f4_ := f1_.symm; have f5_ := f3_.symm; clear f1_ f2_ f3_; subst f4_; subst f5_))
                  refine hK.out _ _ ?_
                  clear hK K
                  refine nm_ ?_
                  refine pu_ 9 (some 161) ?_
                  refine last_ (i := 10) (N := none) #[true, true, true, true, true, true, true, true, true, true, true] rfl rfl (one_of HT_.out (by kernel_rfl)) (by decide) (fun K hK => ?_)
                  have hs208 : w205.cell? ⟨gb173, 1, none⟩ = some (u174001) := (blk_cell BK173.out 1).trans rfl
                  have hfs208 := blk_frozen BK173.out 1
                  have hns208_0 := NB165_173.out
                  have hns208_1 := NB166_173.out
                  have hns208_2 := NB167_173.out
                  have hms208_0 := NB173_165.out
                  have hms208_1 := NB173_166.out
                  have hms208_2 := NB173_167.out
                  refine skip_ (w1 := ?_) (by rfl) rfl ?_ ?_
                  rotate_left
                  ·go_simp
                   rfl
                  refine hK.out _ _ ?_
                  clear hK K
                  refine done_ (done_of HT_.out (by kernel_rfl)) ?_
                  try go_wp2
                  go_roundg k5
                  case measure => have := HJ3.out; have := HK2.out; have := HK3.out; have := HJ180.out; have := HK5.out; omega
                  case rel => exact ⟨(wrap64 (x16_5 + 1)), (y221), (.slice Ao207 y221.length co207), rs_, H', ⟨by have := HJ3.out; have := HK2.out; have := HK3.out; have := HJ180.out; have := HK5.out; omega⟩, ⟨by (with_reducible repeat (first | apply Kd.S_alloc | apply Kd.S_drewN | apply Kd.S_drew)); exact Kd.S_mono (Kd.S_far (p := ⟨gb173, 1, none⟩) (Kd.S_types HO_11.out BK173.out (by decide)) (fun _ hk => hk.2) (.slice Ao207 y221.length co207)) (fun _ hk => hk.1.2)⟩, ⟨by (with_reducible repeat (first | apply Kd.S_alloc | apply Kd.S_drewN | apply Kd.S_drew)); exact Kd.S_mono (Kd.S_far (p := ⟨gb173, 1, none⟩) (Kd.S_types HO223.out BK173.out (by decide)) (fun _ hk => hk.2) (.slice Ao207 y221.length co207)) (fun _ hk => hk.1)⟩, ⟨by (with_reducible repeat (first | refine blk_drewN ?_ _ | refine blk_drew ?_ | refine blk_alloc ?_ _)); refine blk_far ?_ NB165_173.out _; (with_reducible repeat (first | refine blk_drewN ?_ _ | refine blk_drew ?_ | refine blk_alloc ?_ _)); exact BK165.out⟩, ⟨by (with_reducible repeat (first | refine blk_drewN ?_ _ | refine blk_drew ?_ | refine blk_alloc ?_ _)); refine blk_far ?_ NB166_173.out _; (with_reducible repeat (first | refine blk_drewN ?_ _ | refine blk_drew ?_ | refine blk_alloc ?_ _)); exact BK166.out⟩, ⟨by (with_reducible repeat (first | refine blk_drewN ?_ _ | refine blk_drew ?_ | refine blk_alloc ?_ _)); refine blk_far ?_ NB167_173.out _; (with_reducible repeat (first | refine blk_drewN ?_ _ | refine blk_drew ?_ | refine blk_alloc ?_ _)); exact BK167.out⟩, ⟨by (with_reducible repeat (first | refine blk_drewN ?_ _ | refine blk_drew ?_ | refine blk_alloc ?_ _)); refine blk_put (cs := #[.int .i64 t168, u174001, .int .i64 t172]) ?_ 1 _ rfl; (with_reducible repeat (first | refine blk_drewN ?_ _ | refine blk_drew ?_ | refine blk_alloc ?_ _)); exact BK173.out⟩, ⟨up_ HB.out⟩⟩
                 ·rw [if_neg c201] at H
                  exact absurd H (by simp)
                ·rw [if_neg c199] at H
                 have c199b0 : decide (0 < ((rd_L1 x11_180 x16_5).length : Int)) = false := decide_eq_false c199
                 have c199b1 : decide (0 < (rd_L1 x11_180 x16_5).length) = false := decide_eq_false (by omega)
                 clear c199
                 have H' := Aside0.mk H
                 clear H
                 obtain ⟨Ao209, co209, eo209⟩ := Kd.S_slice HO_11.out
                 subst eo209
                 have p216 : 0 ≤ (x16_5 : Int) := od_
                 have q216 : x16_5 < (x11_180.length : Int) := od_
                 obtain ⟨ad216, A216_0, c216_0, e216, hx216_0, hl216_0, hi216_0⟩ := at_L1 (Kd.S_reads' HO_11.out).2.2 x16_5 p216 q216
                 cases e216
                 obtain ⟨ce216, hce216, hMe216, hcc216⟩ := Kd.S_get HO_11.out [] x16_5 p216 (by first | exact q216 | exact od_ | (have e_ := (Kd.S_reads' HO_11.out).1; omega))
                 obtain ⟨ve216_0, rfl, ge216_0⟩ := hMe216
                 have hv216_0 := hcc216 0 _ rfl
                 rw [Nat.add_zero, show ((Kd.slice 3 (Kd.int .i64))).sz = 1 from rfl, Nat.mul_one] at hv216_0
                 replace hv216_0 := Option.some.inj (hv216_0.symm.trans hx216_0)
                 rw [hv216_0] at ge216_0
                 have HL216_0 := Aside0.mk (show Kd.R (Kd.int .i64) 3 _ _ _ _ (rd_L1 x11_180 x16_5) from ge216_0)
                 clear hv216_0 ge216_0
                 clear hcc216 hce216
                 have HR216_0 := Aside0.mk hi216_0
                 have HC216_0 := Aside0.mk hl216_0
                 clear hi216_0 hl216_0
                 replace p216 := eq_true p216
                 replace q216 := eq_true q216
                 go_wp2
                 go_roundg k5
                 case measure => have := HJ3.out; have := HK2.out; have := HK3.out; have := HJ180.out; have := HK5.out; omega
                 case rel => exact ⟨(wrap64 (x16_5 + 1)), (x174001_5), (u174001), rs_, H', ⟨by have := HJ3.out; have := HK2.out; have := HK3.out; have := HJ180.out; have := HK5.out; omega⟩, ⟨up_ HO_11.out⟩, ⟨up_ HO_174001.out⟩, ⟨up_ BK165.out⟩, ⟨up_ BK166.out⟩, ⟨up_ BK167.out⟩, ⟨up_ BK173.out⟩, ⟨up_ HB.out⟩⟩
               ·simp only [Option.some.injEq, Prod.mk.injEq] at H
                obtain ⟨rfl, rfl, rfl, rfl⟩ := H
                obtain ⟨Ao210, co210, eo210⟩ := Kd.S_slice HO_11.out
                subst eo210
                have hnb211 := NB165_166.out
                have hnc211 := NB166_165.out
                have hnb212 := NB165_167.out
                have hnc212 := NB167_165.out
                have hnb213 := NB165_173.out
                have hnc213 := NB173_165.out
                obtain ⟨hcz214_0, hcz214_1, hcz214_2⟩ := c3_ BK165
                have hfz214_0 := blk_frozen BK165.out 0
                have hfz214_1 := blk_frozen BK165.out 1
                have hfz214_2 := blk_frozen BK165.out 2
                have hnb215 := NB173_166.out
                have hnc215 := NB166_173.out
                have hnb216 := NB173_167.out
                have hnc216 := NB167_173.out
                obtain ⟨hcz217_0, hcz217_1, hcz217_2⟩ := c3_ BK173
                have hfz217_0 := blk_frozen BK173.out 0
                have hfz217_1 := blk_frozen BK173.out 1
                have hfz217_2 := blk_frozen BK173.out 2
                have hnb218 := NB167_166.out
                have hnc218 := NB166_167.out
                obtain ⟨hcz219_0, hcz219_1, hcz219_2⟩ := c3_ BK167
                have hfz219_0 := blk_frozen BK167.out 0
                have hfz219_1 := blk_frozen BK167.out 1
                have hfz219_2 := blk_frozen BK167.out 2
                obtain ⟨Ao220, co220, eo220⟩ := Kd.S_slice HO_174001.out
                subst eo220
                go_wp2
                refine bodyPost_ret (results_ct rfl _ _ gb167 30 #[.int .i64 t168, .slice Ao220 x174001_5.length co220, .int .i64 (wrap64 (a0_2 + 1))] (0, 0) _ rfl (by (with_reducible repeat (first | refine blk_drewN ?_ _ | refine blk_drew ?_ | refine blk_alloc ?_ _)); refine blk_put (cs := #[.int .i64 t168, .slice Ao220 x174001_5.length co220, .int .i64 0]) ?_ 2 _ rfl; (with_reducible repeat (first | refine blk_drewN ?_ _ | refine blk_drew ?_ | refine blk_alloc ?_ _)); refine blk_put (cs := #[.int .i64 t168, .slice none 0 0, .int .i64 0]) ?_ 1 _ rfl; (with_reducible repeat (first | refine blk_drewN ?_ _ | refine blk_drew ?_ | refine blk_alloc ?_ _)); refine blk_put (cs := #[.int .i64 0, .slice none 0 0, .int .i64 0]) ?_ 0 _ rfl; (with_reducible repeat (first | refine blk_drewN ?_ _ | refine blk_drew ?_ | refine blk_alloc ?_ _)); refine blk_far ?_ NB167_173.out _; (with_reducible repeat (first | refine blk_drewN ?_ _ | refine blk_drew ?_ | refine blk_alloc ?_ _)); exact BK167.out) Try.underlying30 rfl (by kernel_rfl)) rfl ?_
                exact ⟨_, re_, by (with_reducible repeat (first | apply Kd.S_alloc | apply Kd.S_drewN | apply Kd.S_drew)); exact Kd.S_mono (Kd.S_far (p := ⟨gb167, 2, none⟩) (Kd.S_far (p := ⟨gb167, 1, none⟩) (Kd.S_far (p := ⟨gb167, 0, none⟩) (Kd.S_far (p := ⟨gb173, 2, none⟩) (Kd.S_types (Kd.S_types HO_174001.out BK173.out (by decide)) BK167.out (by decide)) (fun _ hk => hk.1.2) (.int .i64 (wrap64 (a0_2 + 1)))) (fun _ hk => hk.2) (.int .i64 t168)) (fun _ hk => hk.2) (.slice Ao220 x174001_5.length co220)) (fun _ hk => hk.2) (.int .i64 (wrap64 (a0_2 + 1)))) (fun _ hk => trivial), up_ HB.out⟩

end Go.Proofs.Ytkddpilambnicaa.PFnExactHearRow
