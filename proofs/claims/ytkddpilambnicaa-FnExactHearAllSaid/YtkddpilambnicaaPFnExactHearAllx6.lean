/- Walks of Go functions that the law FnExactHearAll uses: written by this session's program out of the kit's printer; each shows that a call comes to the answers of the Lean function beside it. Conditions: each contract's own. -/
import Derived.Test.YtkddpilambnicaaPFnExactHearAllx0
import Derived.Test.YtkddpilambnicaaPFnExactHearAllx3
import Derived.Test.YtkddpilambnicaaPFnExactHearAllx4
import Derived.Test.YtkddpilambnicaaPFnExactHearAllx5
namespace Go.Proofs.Ytkddpilambnicaa.PFnExactHearAll
open Go.RowKit Go.Proofs.YtkddpilambnicaaW.PrintWords Go.Proofs.YtkddpilambnicaaW.PrintLast Go.Proofs.YtkddpilambnicaaW.PrintMore Go.Proofs.Ytkddpilambnicaa.Mac Go.Proofs.Ytkddpilambnicaa.Law
attribute [local go_sem] max2_int min2_int max_two min_two max_three min_three max_four min_four   -- for this text's walks alone
set_option linter.unusedVariables false
set_option linter.unusedSimpArgs false

/-! ### spec_HearRow: function 14 -/
mutual
def spec_HearRow.j0 : Nat → Bool → Int → List (List Int) → Int → List Int → Int → List (List Int) → Int → Option (Int × (List (List Int)) × Int × Bool)
 | 0, _, _, _, _, _, _, _, _ => none
 | k + 1, x39, x201000, x201001, x201002, x202000, x209000, x209001, x209002 => if x39 = true then (some (x209000, x209001, x209002, false)) else (spec_HearRow.l0 k (-1) 0 x201000 x201001 x201002 x202000 x209000 x209001 x209002)
def spec_HearRow.l0 : Nat → Int → Int → Int → List (List Int) → Int → List Int → Int → List (List Int) → Int → Option (Int × (List (List Int)) × Int × Bool)
 | 0, _, _, _, _, _, _, _, _, _ => none
 | k + 1, x7, x8, x201000, x201001, x201002, x202000, x209000, x209001, x209002 => if x8 < x201000 then ((spec_l22Stratum.f k x201001 x8).bind fun t212 => (if 0 ≤ x8 then (if x8 < (x202000.length : Int) then (if (rd x202000 x8) = 1 then (if x7 < 0 then (spec_HearRow.l0 k t212 (wrap64 (x8 + 1)) x201000 x201001 x201002 x202000 x209000 x209001 x209002) else (if t212 < x7 then (spec_HearRow.l0 k t212 (wrap64 (x8 + 1)) x201000 x201001 x201002 x202000 x209000 x209001 x209002) else (spec_HearRow.l0 k x7 (wrap64 (x8 + 1)) x201000 x201001 x201002 x202000 x209000 x209001 x209002))) else (spec_HearRow.l0 k x7 (wrap64 (x8 + 1)) x201000 x201001 x201002 x202000 x209000 x209001 x209002)) else (none)) else (none))) else (if x7 < 0 then (some (x209000, x209001, x209002, false)) else (spec_HearRow.l1 k x7 (([] : List Int)) (([] : List (List Int))) 0 x201000 x201001 x201002 x202000 x209000 x209001 x209002))
def spec_HearRow.l1 : Nat → Int → List Int → List (List Int) → Int → Int → List (List Int) → Int → List Int → Int → List (List Int) → Int → Option (Int × (List (List Int)) × Int × Bool)
 | 0, _, _, _, _, _, _, _, _, _, _, _ => none
 | k + 1, x7, x10, x11, x12, x201000, x201001, x201002, x202000, x209000, x209001, x209002 => if x12 < (x201001.length : Int) then (spec_HearRow.l2 k x7 x10 x11 x12 (([] : List Int)) 0 x201000 x201001 x201002 x202000 x209000 x209001 x209002) else (if (wrap64 (x7 + 1)) = (x201001.length : Int) then (if x11.length < 5864062014805 then (spec_HearRow.j4 k (x11 ++ [x10]) x201000 x201001 x201002 x209000 x209001 x209002) else (none)) else (spec_HearRow.j4 k x11 x201000 x201001 x201002 x209000 x209001 x209002))
def spec_HearRow.l2 : Nat → Int → List Int → List (List Int) → Int → List Int → Int → Int → List (List Int) → Int → List Int → Int → List (List Int) → Int → Option (Int × (List (List Int)) × Int × Bool)
 | 0, _, _, _, _, _, _, _, _, _, _, _, _, _ => none
 | k + 1, x7, x10, x11, x12, x13, x14, x201000, x201001, x201002, x202000, x209000, x209001, x209002 => if 0 ≤ x12 then (if x12 < (x201001.length : Int) then (if x14 < ((rd_L1 x201001 x12).length : Int) then (if 0 ≤ x14 then (if x12 ≤ x7 then (if 0 ≤ (rd (rd_L1 x201001 x12) x14) then (if (rd (rd_L1 x201001 x12) x14) < (x202000.length : Int) then (if (rd x202000 (rd (rd_L1 x201001 x12) x14)) = (-1) then (if x10.length < 17592186044416 then (spec_HearRow.l2 k x7 (x10 ++ [rd (rd_L1 x201001 x12) x14]) x11 x12 x13 (wrap64 (x14 + 1)) x201000 x201001 x201002 x202000 x209000 x209001 x209002) else (none)) else (if x13.length < 17592186044416 then (spec_HearRow.l2 k x7 x10 x11 x12 (x13 ++ [rd (rd_L1 x201001 x12) x14]) (wrap64 (x14 + 1)) x201000 x201001 x201002 x202000 x209000 x209001 x209002) else (none))) else (none)) else (none)) else (if x13.length < 17592186044416 then (spec_HearRow.l2 k x7 x10 x11 x12 (x13 ++ [rd (rd_L1 x201001 x12) x14]) (wrap64 (x14 + 1)) x201000 x201001 x201002 x202000 x209000 x209001 x209002) else (none))) else (none)) else (if x12 = (wrap64 (x7 + 1)) then (if x13.length + x10.length < 17592186044416 then (if x11.length < 5864062014805 then (spec_HearRow.l1 k x7 x10 (x11 ++ [(x13 ++ x10)]) (wrap64 (x12 + 1)) x201000 x201001 x201002 x202000 x209000 x209001 x209002) else (none)) else (none)) else (if x11.length < 5864062014805 then (spec_HearRow.l1 k x7 x10 (x11 ++ [x13]) (wrap64 (x12 + 1)) x201000 x201001 x201002 x202000 x209000 x209001 x209002) else (none)))) else (none)) else (none)
def spec_HearRow.j4 : Nat → List (List Int) → Int → List (List Int) → Int → Int → List (List Int) → Int → Option (Int × (List (List Int)) × Int × Bool)
 | 0, _, _, _, _, _, _, _ => none
 | k + 1, x11, x201000, x201001, x201002, x209000, x209001, x209002 => spec_HearRow.l3 k x11 0 x201000 x201001 x201002 x209000 (([] : List (List Int))) x209002
def spec_HearRow.l3 : Nat → List (List Int) → Int → Int → List (List Int) → Int → Int → List (List Int) → Int → Option (Int × (List (List Int)) × Int × Bool)
 | 0, _, _, _, _, _, _, _, _ => none
 | k + 1, x11, x16, x201000, x201001, x201002, x209000, x209001, x209002 => if x16 < (x11.length : Int) then (if 0 ≤ x16 then (if ((rd_L1 x11 x16).length : Int) > 0 then ((spec_l22Sorted.f k (rd_L1 x11 x16)).bind fun t253 => (if x209001.length < 5864062014805 then (spec_HearRow.l3 k x11 (wrap64 (x16 + 1)) x201000 x201001 x201002 x209000 (x209001 ++ [t253]) x209002) else (none))) else (spec_HearRow.l3 k x11 (wrap64 (x16 + 1)) x201000 x201001 x201002 x209000 x209001 x209002)) else (none)) else (some (x209000, x209001, wrap64 (x201002 + 1), true))
end
def spec_HearRow.f (k : Nat) (a0_0 : Int) (l0_1 : List (List Int)) (a0_2 : Int) (l1_0 : List Int) : Option (Int × (List (List Int)) × Int × Bool) := (spec_l22Copy.f k a0_0 l0_1 a0_2).bind fun bt203 => ((spec_IsLearner.f k a0_0 l0_1 a0_2).bind fun t209 => (if t209 = true then ((spec_IsRow.f k l1_0 a0_0).bind fun t210 => (if t210 = true then (if a0_2 ≥ 1000 then (spec_HearRow.j0 k true a0_0 l0_1 a0_2 l1_0 bt203.1 bt203.2.1 bt203.2.2) else ((spec_StrataSatisfy.f k l0_1 l1_0).bind fun t211 => (spec_HearRow.j0 k t211 a0_0 l0_1 a0_2 l1_0 bt203.1 bt203.2.1 bt203.2.2))) else (spec_HearRow.j0 k true a0_0 l0_1 a0_2 l1_0 bt203.1 bt203.2.1 bt203.2.2))) else (spec_HearRow.j0 k true a0_0 l0_1 a0_2 l1_0 bt203.1 bt203.2.1 bt203.2.2)))
def spec_HearRow.T36 : Bool × List (List Nat × List Nat) := (true, [([], []), ([0], [0]), ([], []), ([], []), ([2, 3], [2, 3]), ([4], [4]), ([5], [5]), ([6], [6]), ([1, 7, 6], [1, 7]), ([0, 1, 2, 3, 4, 5, 6, 7, 8], []), ([9, 8, 8, 0, 1, 2, 3, 4, 5, 6, 7, 8], [8, 9])])
def spec_HearRow.B36 : List Nat := [0, 1, 0, 0, 12, 28, 60, 124, 255, 511, 1023]
theorem spec_HearRow.tab36 : rtab .any (opsOf Try.f14 36) = spec_HearRow.T36 := by kernel_rfl
theorem spec_HearRow.bits36 : waitsOk spec_HearRow.T36.2 spec_HearRow.B36 = true := by kernel_rfl
set_option maxHeartbeats 8000000 in
set_option maxRecDepth 100000 in
theorem spec_HearRow.calls (k : Nat) (a0_0 : Int) (A0_1 : Option Addr) (c0_1 : Nat) (l0_1 : List (List Int)) (a0_2 : Int) (A1_0 : Option Addr) (c1_0 : Nat) (l1_0 : List Int) (r1 : Int) (r2 : List (List Int)) (r3 : Int) (r4 : Bool) (w : World) (hr0_1 : Kd.C (Kd.slice 3 (Kd.int .i64)) w A0_1 l0_1.length l0_1) (hc0_1 : l0_1.length ≤ c0_1) (hr1_0 : Kd.C (Kd.int .i64) w A1_0 l1_0.length l1_0) (hc1_0 : l1_0.length ≤ c1_0) (h : spec_HearRow.f k a0_0 l0_1 a0_2 l1_0 = some (r1, r2, r3, r4)) :
  Calls Try.prog 14 #[.agg #[.int .i64 a0_0, .slice A0_1 l0_1.length c0_1, .int .i64 a0_2], .agg #[.slice A1_0 l1_0.length c1_0]] w fun e w' => ∃ v1_ : Value, e = .returned (.tuple #[.agg #[.int .i64 r1, v1_, .int .i64 r3], .bool r4]) ∧ Kd.S (Kd.slice 3 (Kd.int .i64)) 25 w' w.heap.size (fun _ => True) v1_ r2 ∧ Below w.heap.size w w' := by
 have hu30 := Try.underlying30
 have hu34 := Try.underlying34
 have HR0_1 := Aside0.mk hr0_1
 have HC0_1 := Aside0.mk hc0_1
 clear hr0_1 hc0_1
 have HR1_0 := Aside0.mk hr1_0
 have HC1_0 := Aside0.mk hc1_0
 clear hr1_0 hc1_0
 have HB := Aside0.mk (Below.refl w.heap.size w)
 have H : ((spec_l22Copy.f k a0_0 l0_1 a0_2).bind fun bt203 => ((spec_IsLearner.f k a0_0 l0_1 a0_2).bind fun t209 => (if t209 = true then ((spec_IsRow.f k l1_0 a0_0).bind fun t210 => (if t210 = true then (if a0_2 ≥ 1000 then (spec_HearRow.j0 k true a0_0 l0_1 a0_2 l1_0 bt203.1 bt203.2.1 bt203.2.2) else ((spec_StrataSatisfy.f k l0_1 l1_0).bind fun t211 => (spec_HearRow.j0 k t211 a0_0 l0_1 a0_2 l1_0 bt203.1 bt203.2.1 bt203.2.2))) else (spec_HearRow.j0 k true a0_0 l0_1 a0_2 l1_0 bt203.1 bt203.2.1 bt203.2.2))) else (spec_HearRow.j0 k true a0_0 l0_1 a0_2 l1_0 bt203.1 bt203.2.1 bt203.2.2)))) = some (r1, r2, r3, r4) := h
 clear h
 replace H := Option.bind_eq_some_iff.mp H
 obtain ⟨⟨t203, t204, t207⟩, A30, H⟩ := H
 replace H : ((spec_IsLearner.f k a0_0 l0_1 a0_2).bind fun t209 => (if t209 = true then ((spec_IsRow.f k l1_0 a0_0).bind fun t210 => (if t210 = true then (if a0_2 ≥ 1000 then (spec_HearRow.j0 k true a0_0 l0_1 a0_2 l1_0 t203 t204 t207) else ((spec_StrataSatisfy.f k l0_1 l1_0).bind fun t211 => (spec_HearRow.j0 k t211 a0_0 l0_1 a0_2 l1_0 t203 t204 t207))) else (spec_HearRow.j0 k true a0_0 l0_1 a0_2 l1_0 t203 t204 t207))) else (spec_HearRow.j0 k true a0_0 l0_1 a0_2 l1_0 t203 t204 t207))) = some (r1, r2, r3, r4) := H
 have A3 := Aside0.mk A30
 clear A30
 have HC4 := Aside0.mk H
 clear H
 go_enter Try.func14, Try.ntmps14
 go_upto_region 2 with (first | ((refine gd_ 2 ?_); refine bx_ 2 #[.int .i64 a0_0, .slice A0_1 l0_1.length c0_1, .int .i64 a0_2] 30 ?_; intro gb200 hg w5 hbox hb; have BK200 := Aside0.mk (hbox); have GW200 := gw_ HB hg; have GE200 := gw_ HB hg; replace HB := bs_ HB hb; clear hb hbox hg) | ((refine gd_ 3 ?_); refine bx_ 3 #[.slice A1_0 l1_0.length c1_0] 34 ?_; intro gb201 hg w6 hbox hb; have BK201 := Aside0.mk (hbox); have GW201 := gw_ HB hg; have GE201 := gw_ HB hg; replace HB := bs_ HB hb; have NB200_201 := Aside0.mk ((by rw [hg]; exact Nat.ne_of_lt (blk_lt (g := gb200) (o := .cells #[.int .i64 a0_0, .slice A0_1 l0_1.length c0_1, .int .i64 a0_2] 30 (0, 0)) (up_ BK200.out)) : gb200 ≠ gb201)); have NB201_200 := Aside0.mk ((by rw [hg]; exact Nat.ne_of_gt (blk_lt (g := gb200) (o := .cells #[.int .i64 a0_0, .slice A0_1 l0_1.length c0_1, .int .i64 a0_2] 30 (0, 0)) (up_ BK200.out)) : gb201 ≠ gb200)); replace BK200 := bb_ BK200 hb; clear hb hbox hg) | ((refine gd_ 4 ?_); refine bx_ 4 #[.int .i64 0, .slice none 0 0, .int .i64 0] 30 ?_; intro gb202 hg w7 hbox hb; have BK202 := Aside0.mk (hbox); have GW202 := gw_ HB hg; have GE202 := gw_ HB hg; replace HB := bs_ HB hb; have NB200_202 := Aside0.mk ((by rw [hg]; exact Nat.ne_of_lt (blk_lt (g := gb200) (o := .cells #[.int .i64 a0_0, .slice A0_1 l0_1.length c0_1, .int .i64 a0_2] 30 (0, 0)) (up_ BK200.out)) : gb200 ≠ gb202)); have NB202_200 := Aside0.mk ((by rw [hg]; exact Nat.ne_of_gt (blk_lt (g := gb200) (o := .cells #[.int .i64 a0_0, .slice A0_1 l0_1.length c0_1, .int .i64 a0_2] 30 (0, 0)) (up_ BK200.out)) : gb202 ≠ gb200)); replace BK200 := bb_ BK200 hb; have NB201_202 := Aside0.mk ((by rw [hg]; exact Nat.ne_of_lt (blk_lt (g := gb201) (o := .cells #[.slice A1_0 l1_0.length c1_0] 34 (0, 0)) (up_ BK201.out)) : gb201 ≠ gb202)); have NB202_201 := Aside0.mk ((by rw [hg]; exact Nat.ne_of_gt (blk_lt (g := gb201) (o := .cells #[.slice A1_0 l1_0.length c1_0] 34 (0, 0)) (up_ BK201.out)) : gb202 ≠ gb201)); replace BK201 := bb_ BK201 hb; clear hb hbox hg; have hnb8 := NB200_201.out; have hnc8 := NB201_200.out; have hnb9 := NB200_202.out; have hnc9 := NB202_200.out; obtain ⟨hcz10_0, hcz10_1, hcz10_2⟩ := c3_ BK200; have hfz10_0 := blk_frozen BK200.out 0; have hfz10_1 := blk_frozen BK200.out 1; have hfz10_2 := blk_frozen BK200.out 2) | ((refine gc_ 76 ?_); refine gl_ (some 18) Try.func76 (spec_l22Copy.calls k a0_0 _ _ l0_1 a0_2 t203 t204 t207 _ (Kd.C_below HR0_1.out (up_ HB.out)) HC0_1.out A3.out) ?_; rintro e w11 ⟨v205, rfl, ho0, hb⟩; refine ⟨_, rfl, ?_⟩; have HO206 := Aside0.mk (Kd.S_lower ho0 (below_size (up_ HB.out))); replace BK200 := bb_ BK200 hb; replace BK201 := bb_ BK201 hb; replace BK202 := bb_ BK202 hb; replace HB := bs_ HB hb; (try clear hb); (try clear hb2); (try clear hk); (try clear hi); (try clear ho0)) | ((refine gd_ 6 ?_); refine bx_ 6 #[.int .i64 0, .slice none 0 0, .int .i64 0] 30 ?_; intro gb208 hg w12 hbox hb; replace HO206 := Aside0.mk (Kd.S_below (up_ HO206.out) hb); have BK208 := Aside0.mk (hbox); have GW208 := gw_ HB hg; have GE208 := gw_ HB hg; replace HB := bs_ HB hb; have NB200_208 := Aside0.mk ((by rw [hg]; exact Nat.ne_of_lt (blk_lt (g := gb200) (o := .cells #[.int .i64 a0_0, .slice A0_1 l0_1.length c0_1, .int .i64 a0_2] 30 (0, 0)) (up_ BK200.out)) : gb200 ≠ gb208)); have NB208_200 := Aside0.mk ((by rw [hg]; exact Nat.ne_of_gt (blk_lt (g := gb200) (o := .cells #[.int .i64 a0_0, .slice A0_1 l0_1.length c0_1, .int .i64 a0_2] 30 (0, 0)) (up_ BK200.out)) : gb208 ≠ gb200)); replace BK200 := bb_ BK200 hb; have NB201_208 := Aside0.mk ((by rw [hg]; exact Nat.ne_of_lt (blk_lt (g := gb201) (o := .cells #[.slice A1_0 l1_0.length c1_0] 34 (0, 0)) (up_ BK201.out)) : gb201 ≠ gb208)); have NB208_201 := Aside0.mk ((by rw [hg]; exact Nat.ne_of_gt (blk_lt (g := gb201) (o := .cells #[.slice A1_0 l1_0.length c1_0] 34 (0, 0)) (up_ BK201.out)) : gb208 ≠ gb201)); replace BK201 := bb_ BK201 hb; have NB202_208 := Aside0.mk ((by rw [hg]; exact Nat.ne_of_lt (blk_lt (g := gb202) (o := .cells #[.int .i64 0, .slice none 0 0, .int .i64 0] 30 (0, 0)) (up_ BK202.out)) : gb202 ≠ gb208)); have NB208_202 := Aside0.mk ((by rw [hg]; exact Nat.ne_of_gt (blk_lt (g := gb202) (o := .cells #[.int .i64 0, .slice none 0 0, .int .i64 0] 30 (0, 0)) (up_ BK202.out)) : gb208 ≠ gb202)); replace BK202 := bb_ BK202 hb; clear hb hbox hg; have hnb13 := NB208_200.out; have hnc13 := NB200_208.out; have hnb14 := NB208_201.out; have hnc14 := NB201_208.out; have hnb15 := NB208_202.out; have hnc15 := NB202_208.out; obtain ⟨hcz16_0, hcz16_1, hcz16_2⟩ := c3_ BK208; have hfz16_0 := blk_frozen BK208.out 0; have hfz16_1 := blk_frozen BK208.out 1; have hfz16_2 := blk_frozen BK208.out 2; obtain ⟨Ao17, co17, eo17⟩ := Kd.S_slice HO206.out; subst eo17))
 (try simp only [Act.put, List.setIfInBounds_toArray, List.set_cons_zero, List.set_cons_succ])
 go_cut [39] (fun v39 wc => ∃ (kq : Nat) (x39_3 : Bool), v39 = .bool x39_3 ∧ Aside0 (spec_HearRow.j0 kq x39_3 a0_0 l0_1 a0_2 l1_0 t203 t204 t207 = some (r1, r2, r3, r4)) ∧ Aside0 (kq ≤ k) ∧ Aside0 (Kd.S (Kd.slice 3 (Kd.int .i64)) 25 wc w.heap.size (fun _ => True) (.slice Ao17 t204.length co17) t204) ∧ Aside0 (wc.heap[gb200]? = some (.cells #[.int .i64 a0_0, (.slice A0_1 l0_1.length c0_1), .int .i64 a0_2] 30 (0, 0))) ∧ Aside0 (wc.heap[gb201]? = some (.cells #[(.slice A1_0 l1_0.length c1_0)] 34 (0, 0))) ∧ Aside0 (wc.heap[gb202]? = some (.cells #[.int .i64 0, (.slice none 0 0), .int .i64 0] 30 (0, 0))) ∧ Aside0 (wc.heap[gb208]? = some (.cells #[.int .i64 t203, (.slice Ao17 t204.length co17), .int .i64 t207] 30 (0, 0))) ∧ Aside0 (Below w.heap.size w wc))
 case first =>
  have H := HC4.out
  clear HC4
  replace H := Option.bind_eq_some_iff.mp H
  obtain ⟨t209, A180, H⟩ := H
  replace H : (if t209 = true then ((spec_IsRow.f k l1_0 a0_0).bind fun t210 => (if t210 = true then (if a0_2 ≥ 1000 then (spec_HearRow.j0 k true a0_0 l0_1 a0_2 l1_0 t203 t204 t207) else ((spec_StrataSatisfy.f k l0_1 l1_0).bind fun t211 => (spec_HearRow.j0 k t211 a0_0 l0_1 a0_2 l1_0 t203 t204 t207))) else (spec_HearRow.j0 k true a0_0 l0_1 a0_2 l1_0 t203 t204 t207))) else (spec_HearRow.j0 k true a0_0 l0_1 a0_2 l1_0 t203 t204 t207)) = some (r1, r2, r3, r4) := H
  have A18 := Aside0.mk A180
  clear A180
  replace H := itb_ H; rcases H with ⟨rfl, H⟩ | ⟨rfl, H⟩
  ·replace H := Option.bind_eq_some_iff.mp H
   obtain ⟨t210, A200, H⟩ := H
   replace H : (if t210 = true then (if a0_2 ≥ 1000 then (spec_HearRow.j0 k true a0_0 l0_1 a0_2 l1_0 t203 t204 t207) else ((spec_StrataSatisfy.f k l0_1 l1_0).bind fun t211 => (spec_HearRow.j0 k t211 a0_0 l0_1 a0_2 l1_0 t203 t204 t207))) else (spec_HearRow.j0 k true a0_0 l0_1 a0_2 l1_0 t203 t204 t207)) = some (r1, r2, r3, r4) := H
   have A20 := Aside0.mk A200
   clear A200
   replace H := itb_ H; rcases H with ⟨rfl, H⟩ | ⟨rfl, H⟩
   ·by_cases c22 : a0_2 ≥ 1000
    ·rw [if_pos c22] at H
     have c22b0 : decide (1000 ≤ a0_2) = true := decide_eq_true c22
     clear c22
     (first | rw [c22b0] | (simp only [i64_w, i32_w]; rw [c22b0]) | skip)
     have H' := Aside0.mk H
     clear H
     have hnb23 := NB200_201.out
     have hnc23 := NB201_200.out
     have hnb24 := NB200_202.out
     have hnc24 := NB202_200.out
     have hnb25 := NB200_208.out
     have hnc25 := NB208_200.out
     obtain ⟨hcz26_0, hcz26_1, hcz26_2⟩ := c3_ BK200
     have hfz26_0 := blk_frozen BK200.out 0
     have hfz26_1 := blk_frozen BK200.out 1
     have hfz26_2 := blk_frozen BK200.out 2
     go_wp2_with (first | ((refine gc_ 77 ?_); refine gl_ (some 20) Try.func77 (spec_IsLearner.calls k a0_0 _ _ l0_1 a0_2 true _ (Kd.C_below HR0_1.out (up_ HB.out)) HC0_1.out A18.out) ?_; rintro e w27 ⟨rfl, hb⟩; refine ⟨_, rfl, ?_⟩; replace HO206 := Aside0.mk (Kd.S_below (by (with_reducible repeat (first | apply Kd.S_alloc | apply Kd.S_drewN | apply Kd.S_drew)); exact (Kd.S_mono (Kd.S_far (p := ⟨gb208, 2, none⟩) (Kd.S_far (p := ⟨gb208, 1, none⟩) (Kd.S_far (p := ⟨gb208, 0, none⟩) (Kd.S_types HO206.out BK208.out (by decide)) (fun _ hk => hk.2) (.int .i64 t203)) (fun _ hk => hk.2) (.slice Ao17 t204.length co17)) (fun _ hk => hk.2) (.int .i64 t207)) (fun _ h_ => h_.1))) hb); replace BK200 := Aside0.mk (blk_below (g := gb200) (o := .cells #[.int .i64 a0_0, .slice A0_1 l0_1.length c0_1, .int .i64 a0_2] 30 (0, 0)) (by (with_reducible repeat (first | refine blk_drewN ?_ _ | refine blk_drew ?_ | refine blk_alloc ?_ _)); refine blk_far ?_ NB200_208.out _; (with_reducible repeat (first | refine blk_drewN ?_ _ | refine blk_drew ?_ | refine blk_alloc ?_ _)); refine blk_far ?_ NB200_208.out _; (with_reducible repeat (first | refine blk_drewN ?_ _ | refine blk_drew ?_ | refine blk_alloc ?_ _)); refine blk_far ?_ NB200_208.out _; (with_reducible repeat (first | refine blk_drewN ?_ _ | refine blk_drew ?_ | refine blk_alloc ?_ _)); exact BK200.out) hb); replace BK201 := Aside0.mk (blk_below (g := gb201) (o := .cells #[.slice A1_0 l1_0.length c1_0] 34 (0, 0)) (by (with_reducible repeat (first | refine blk_drewN ?_ _ | refine blk_drew ?_ | refine blk_alloc ?_ _)); refine blk_far ?_ NB201_208.out _; (with_reducible repeat (first | refine blk_drewN ?_ _ | refine blk_drew ?_ | refine blk_alloc ?_ _)); refine blk_far ?_ NB201_208.out _; (with_reducible repeat (first | refine blk_drewN ?_ _ | refine blk_drew ?_ | refine blk_alloc ?_ _)); refine blk_far ?_ NB201_208.out _; (with_reducible repeat (first | refine blk_drewN ?_ _ | refine blk_drew ?_ | refine blk_alloc ?_ _)); exact BK201.out) hb); replace BK202 := Aside0.mk (blk_below (g := gb202) (o := .cells #[.int .i64 0, .slice none 0 0, .int .i64 0] 30 (0, 0)) (by (with_reducible repeat (first | refine blk_drewN ?_ _ | refine blk_drew ?_ | refine blk_alloc ?_ _)); refine blk_far ?_ NB202_208.out _; (with_reducible repeat (first | refine blk_drewN ?_ _ | refine blk_drew ?_ | refine blk_alloc ?_ _)); refine blk_far ?_ NB202_208.out _; (with_reducible repeat (first | refine blk_drewN ?_ _ | refine blk_drew ?_ | refine blk_alloc ?_ _)); refine blk_far ?_ NB202_208.out _; (with_reducible repeat (first | refine blk_drewN ?_ _ | refine blk_drew ?_ | refine blk_alloc ?_ _)); exact BK202.out) hb); replace BK208 := Aside0.mk (blk_below (g := gb208) (o := .cells #[.int .i64 t203, .slice Ao17 t204.length co17, .int .i64 t207] 30 (0, 0)) (by (with_reducible repeat (first | refine blk_drewN ?_ _ | refine blk_drew ?_ | refine blk_alloc ?_ _)); refine blk_put (cs := #[.int .i64 t203, .slice Ao17 t204.length co17, .int .i64 0]) ?_ 2 _ rfl; (with_reducible repeat (first | refine blk_drewN ?_ _ | refine blk_drew ?_ | refine blk_alloc ?_ _)); refine blk_put (cs := #[.int .i64 t203, .slice none 0 0, .int .i64 0]) ?_ 1 _ rfl; (with_reducible repeat (first | refine blk_drewN ?_ _ | refine blk_drew ?_ | refine blk_alloc ?_ _)); refine blk_put (cs := #[.int .i64 0, .slice none 0 0, .int .i64 0]) ?_ 0 _ rfl; (with_reducible repeat (first | refine blk_drewN ?_ _ | refine blk_drew ?_ | refine blk_alloc ?_ _)); exact BK208.out) hb); replace HB := bs_ HB hb; (try clear hb); (try clear hb2); (try clear hk); (try clear hi); have hnb28 := NB201_202.out; have hnc28 := NB202_201.out; have hnb29 := NB201_208.out; have hnc29 := NB208_201.out; have hcz30_0 := c1_ BK201; have hfz30_0 := blk_frozen BK201.out 0; obtain ⟨hcz31_0, hcz31_1, hcz31_2⟩ := c3_ BK200; have hfz31_0 := blk_frozen BK200.out 0; have hfz31_1 := blk_frozen BK200.out 1; have hfz31_2 := blk_frozen BK200.out 2) | (go_at_call 78; (with_reducible refine (spec_IsRow.calls k _ _ l1_0 a0_0 true _ (Kd.C_below HR1_0.out (up_ HB.out)) HC1_0.out A20.out).mono ?_); rintro e w32 ⟨rfl, hb⟩; replace HO206 := Aside0.mk (Kd.S_below (up_ HO206.out) hb); replace BK200 := bb_ BK200 hb; replace BK201 := bb_ BK201 hb; replace BK202 := bb_ BK202 hb; replace BK208 := bb_ BK208 hb; replace HB := bs_ HB hb; (try clear hb); (try clear hb2); (try clear hk); (try clear hi); obtain ⟨hcz33_0, hcz33_1, hcz33_2⟩ := c3_ BK200; have hfz33_0 := blk_frozen BK200.out 0; have hfz33_1 := blk_frozen BK200.out 1; have hfz33_2 := blk_frozen BK200.out 2))
     go_meet
     case rel => exact ⟨_, (true), rs_, H', ⟨by first | omega | exact Nat.le_refl _⟩, ⟨up_ HO206.out⟩, ⟨up_ BK200.out⟩, ⟨up_ BK201.out⟩, ⟨up_ BK202.out⟩, ⟨up_ BK208.out⟩, ⟨up_ HB.out⟩⟩
    ·rw [if_neg c22] at H
     have c22b0 : decide (1000 ≤ a0_2) = false := decide_eq_false c22
     clear c22
     (first | rw [c22b0] | (simp only [i64_w, i32_w]; rw [c22b0]) | skip)
     replace H := Option.bind_eq_some_iff.mp H
     obtain ⟨t211, A340, H⟩ := H
     replace H : (spec_HearRow.j0 k t211 a0_0 l0_1 a0_2 l1_0 t203 t204 t207) = some (r1, r2, r3, r4) := H
     have A34 := Aside0.mk A340
     clear A340
     have H' := Aside0.mk H
     clear H
     have hnb35 := NB200_201.out
     have hnc35 := NB201_200.out
     have hnb36 := NB200_202.out
     have hnc36 := NB202_200.out
     have hnb37 := NB200_208.out
     have hnc37 := NB208_200.out
     obtain ⟨hcz38_0, hcz38_1, hcz38_2⟩ := c3_ BK200
     have hfz38_0 := blk_frozen BK200.out 0
     have hfz38_1 := blk_frozen BK200.out 1
     have hfz38_2 := blk_frozen BK200.out 2
     go_wp2_with (first | ((refine gc_ 77 ?_); refine gl_ (some 20) Try.func77 (spec_IsLearner.calls k a0_0 _ _ l0_1 a0_2 true _ (Kd.C_below HR0_1.out (up_ HB.out)) HC0_1.out A18.out) ?_; rintro e w39 ⟨rfl, hb⟩; refine ⟨_, rfl, ?_⟩; replace HO206 := Aside0.mk (Kd.S_below (by (with_reducible repeat (first | apply Kd.S_alloc | apply Kd.S_drewN | apply Kd.S_drew)); exact (Kd.S_mono (Kd.S_far (p := ⟨gb208, 2, none⟩) (Kd.S_far (p := ⟨gb208, 1, none⟩) (Kd.S_far (p := ⟨gb208, 0, none⟩) (Kd.S_types HO206.out BK208.out (by decide)) (fun _ hk => hk.2) (.int .i64 t203)) (fun _ hk => hk.2) (.slice Ao17 t204.length co17)) (fun _ hk => hk.2) (.int .i64 t207)) (fun _ h_ => h_.1))) hb); replace BK200 := Aside0.mk (blk_below (g := gb200) (o := .cells #[.int .i64 a0_0, .slice A0_1 l0_1.length c0_1, .int .i64 a0_2] 30 (0, 0)) (by (with_reducible repeat (first | refine blk_drewN ?_ _ | refine blk_drew ?_ | refine blk_alloc ?_ _)); refine blk_far ?_ NB200_208.out _; (with_reducible repeat (first | refine blk_drewN ?_ _ | refine blk_drew ?_ | refine blk_alloc ?_ _)); refine blk_far ?_ NB200_208.out _; (with_reducible repeat (first | refine blk_drewN ?_ _ | refine blk_drew ?_ | refine blk_alloc ?_ _)); refine blk_far ?_ NB200_208.out _; (with_reducible repeat (first | refine blk_drewN ?_ _ | refine blk_drew ?_ | refine blk_alloc ?_ _)); exact BK200.out) hb); replace BK201 := Aside0.mk (blk_below (g := gb201) (o := .cells #[.slice A1_0 l1_0.length c1_0] 34 (0, 0)) (by (with_reducible repeat (first | refine blk_drewN ?_ _ | refine blk_drew ?_ | refine blk_alloc ?_ _)); refine blk_far ?_ NB201_208.out _; (with_reducible repeat (first | refine blk_drewN ?_ _ | refine blk_drew ?_ | refine blk_alloc ?_ _)); refine blk_far ?_ NB201_208.out _; (with_reducible repeat (first | refine blk_drewN ?_ _ | refine blk_drew ?_ | refine blk_alloc ?_ _)); refine blk_far ?_ NB201_208.out _; (with_reducible repeat (first | refine blk_drewN ?_ _ | refine blk_drew ?_ | refine blk_alloc ?_ _)); exact BK201.out) hb); replace BK202 := Aside0.mk (blk_below (g := gb202) (o := .cells #[.int .i64 0, .slice none 0 0, .int .i64 0] 30 (0, 0)) (by (with_reducible repeat (first | refine blk_drewN ?_ _ | refine blk_drew ?_ | refine blk_alloc ?_ _)); refine blk_far ?_ NB202_208.out _; (with_reducible repeat (first | refine blk_drewN ?_ _ | refine blk_drew ?_ | refine blk_alloc ?_ _)); refine blk_far ?_ NB202_208.out _; (with_reducible repeat (first | refine blk_drewN ?_ _ | refine blk_drew ?_ | refine blk_alloc ?_ _)); refine blk_far ?_ NB202_208.out _; (with_reducible repeat (first | refine blk_drewN ?_ _ | refine blk_drew ?_ | refine blk_alloc ?_ _)); exact BK202.out) hb); replace BK208 := Aside0.mk (blk_below (g := gb208) (o := .cells #[.int .i64 t203, .slice Ao17 t204.length co17, .int .i64 t207] 30 (0, 0)) (by (with_reducible repeat (first | refine blk_drewN ?_ _ | refine blk_drew ?_ | refine blk_alloc ?_ _)); refine blk_put (cs := #[.int .i64 t203, .slice Ao17 t204.length co17, .int .i64 0]) ?_ 2 _ rfl; (with_reducible repeat (first | refine blk_drewN ?_ _ | refine blk_drew ?_ | refine blk_alloc ?_ _)); refine blk_put (cs := #[.int .i64 t203, .slice none 0 0, .int .i64 0]) ?_ 1 _ rfl; (with_reducible repeat (first | refine blk_drewN ?_ _ | refine blk_drew ?_ | refine blk_alloc ?_ _)); refine blk_put (cs := #[.int .i64 0, .slice none 0 0, .int .i64 0]) ?_ 0 _ rfl; (with_reducible repeat (first | refine blk_drewN ?_ _ | refine blk_drew ?_ | refine blk_alloc ?_ _)); exact BK208.out) hb); replace HB := bs_ HB hb; (try clear hb); (try clear hb2); (try clear hk); (try clear hi); have hnb40 := NB201_202.out; have hnc40 := NB202_201.out; have hnb41 := NB201_208.out; have hnc41 := NB208_201.out; have hcz42_0 := c1_ BK201; have hfz42_0 := blk_frozen BK201.out 0; obtain ⟨hcz43_0, hcz43_1, hcz43_2⟩ := c3_ BK200; have hfz43_0 := blk_frozen BK200.out 0; have hfz43_1 := blk_frozen BK200.out 1; have hfz43_2 := blk_frozen BK200.out 2) | (go_at_call 78; (with_reducible refine (spec_IsRow.calls k _ _ l1_0 a0_0 true _ (Kd.C_below HR1_0.out (up_ HB.out)) HC1_0.out A20.out).mono ?_); rintro e w44 ⟨rfl, hb⟩; replace HO206 := Aside0.mk (Kd.S_below (up_ HO206.out) hb); replace BK200 := bb_ BK200 hb; replace BK201 := bb_ BK201 hb; replace BK202 := bb_ BK202 hb; replace BK208 := bb_ BK208 hb; replace HB := bs_ HB hb; (try clear hb); (try clear hb2); (try clear hk); (try clear hi); obtain ⟨hcz45_0, hcz45_1, hcz45_2⟩ := c3_ BK200; have hfz45_0 := blk_frozen BK200.out 0; have hfz45_1 := blk_frozen BK200.out 1; have hfz45_2 := blk_frozen BK200.out 2; have hcz46_0 := c1_ BK201; have hfz46_0 := blk_frozen BK201.out 0) | (go_at_call 79; (with_reducible refine (spec_StrataSatisfy.calls k _ _ l0_1 _ _ l1_0 t211 _ (Kd.C_below HR0_1.out (up_ HB.out)) HC0_1.out (Kd.C_below HR1_0.out (up_ HB.out)) HC1_0.out A34.out).mono ?_); rintro e w47 ⟨rfl, hb⟩; replace HO206 := Aside0.mk (Kd.S_below (up_ HO206.out) hb); replace BK200 := bb_ BK200 hb; replace BK201 := bb_ BK201 hb; replace BK202 := bb_ BK202 hb; replace BK208 := bb_ BK208 hb; replace HB := bs_ HB hb; (try clear hb); (try clear hb2); (try clear hk); (try clear hi)))
     go_meet
     case rel => exact ⟨_, (t211), rs_, H', ⟨by first | omega | exact Nat.le_refl _⟩, ⟨up_ HO206.out⟩, ⟨up_ BK200.out⟩, ⟨up_ BK201.out⟩, ⟨up_ BK202.out⟩, ⟨up_ BK208.out⟩, ⟨up_ HB.out⟩⟩
   ·have H' := Aside0.mk H
    clear H
    have hnb48 := NB200_201.out
    have hnc48 := NB201_200.out
    have hnb49 := NB200_202.out
    have hnc49 := NB202_200.out
    have hnb50 := NB200_208.out
    have hnc50 := NB208_200.out
    obtain ⟨hcz51_0, hcz51_1, hcz51_2⟩ := c3_ BK200
    have hfz51_0 := blk_frozen BK200.out 0
    have hfz51_1 := blk_frozen BK200.out 1
    have hfz51_2 := blk_frozen BK200.out 2
    go_wp2_with (first | ((refine gc_ 77 ?_); refine gl_ (some 20) Try.func77 (spec_IsLearner.calls k a0_0 _ _ l0_1 a0_2 true _ (Kd.C_below HR0_1.out (up_ HB.out)) HC0_1.out A18.out) ?_; rintro e w52 ⟨rfl, hb⟩; refine ⟨_, rfl, ?_⟩; replace HO206 := Aside0.mk (Kd.S_below (by (with_reducible repeat (first | apply Kd.S_alloc | apply Kd.S_drewN | apply Kd.S_drew)); exact (Kd.S_mono (Kd.S_far (p := ⟨gb208, 2, none⟩) (Kd.S_far (p := ⟨gb208, 1, none⟩) (Kd.S_far (p := ⟨gb208, 0, none⟩) (Kd.S_types HO206.out BK208.out (by decide)) (fun _ hk => hk.2) (.int .i64 t203)) (fun _ hk => hk.2) (.slice Ao17 t204.length co17)) (fun _ hk => hk.2) (.int .i64 t207)) (fun _ h_ => h_.1))) hb); replace BK200 := Aside0.mk (blk_below (g := gb200) (o := .cells #[.int .i64 a0_0, .slice A0_1 l0_1.length c0_1, .int .i64 a0_2] 30 (0, 0)) (by (with_reducible repeat (first | refine blk_drewN ?_ _ | refine blk_drew ?_ | refine blk_alloc ?_ _)); refine blk_far ?_ NB200_208.out _; (with_reducible repeat (first | refine blk_drewN ?_ _ | refine blk_drew ?_ | refine blk_alloc ?_ _)); refine blk_far ?_ NB200_208.out _; (with_reducible repeat (first | refine blk_drewN ?_ _ | refine blk_drew ?_ | refine blk_alloc ?_ _)); refine blk_far ?_ NB200_208.out _; (with_reducible repeat (first | refine blk_drewN ?_ _ | refine blk_drew ?_ | refine blk_alloc ?_ _)); exact BK200.out) hb); replace BK201 := Aside0.mk (blk_below (g := gb201) (o := .cells #[.slice A1_0 l1_0.length c1_0] 34 (0, 0)) (by (with_reducible repeat (first | refine blk_drewN ?_ _ | refine blk_drew ?_ | refine blk_alloc ?_ _)); refine blk_far ?_ NB201_208.out _; (with_reducible repeat (first | refine blk_drewN ?_ _ | refine blk_drew ?_ | refine blk_alloc ?_ _)); refine blk_far ?_ NB201_208.out _; (with_reducible repeat (first | refine blk_drewN ?_ _ | refine blk_drew ?_ | refine blk_alloc ?_ _)); refine blk_far ?_ NB201_208.out _; (with_reducible repeat (first | refine blk_drewN ?_ _ | refine blk_drew ?_ | refine blk_alloc ?_ _)); exact BK201.out) hb); replace BK202 := Aside0.mk (blk_below (g := gb202) (o := .cells #[.int .i64 0, .slice none 0 0, .int .i64 0] 30 (0, 0)) (by (with_reducible repeat (first | refine blk_drewN ?_ _ | refine blk_drew ?_ | refine blk_alloc ?_ _)); refine blk_far ?_ NB202_208.out _; (with_reducible repeat (first | refine blk_drewN ?_ _ | refine blk_drew ?_ | refine blk_alloc ?_ _)); refine blk_far ?_ NB202_208.out _; (with_reducible repeat (first | refine blk_drewN ?_ _ | refine blk_drew ?_ | refine blk_alloc ?_ _)); refine blk_far ?_ NB202_208.out _; (with_reducible repeat (first | refine blk_drewN ?_ _ | refine blk_drew ?_ | refine blk_alloc ?_ _)); exact BK202.out) hb); replace BK208 := Aside0.mk (blk_below (g := gb208) (o := .cells #[.int .i64 t203, .slice Ao17 t204.length co17, .int .i64 t207] 30 (0, 0)) (by (with_reducible repeat (first | refine blk_drewN ?_ _ | refine blk_drew ?_ | refine blk_alloc ?_ _)); refine blk_put (cs := #[.int .i64 t203, .slice Ao17 t204.length co17, .int .i64 0]) ?_ 2 _ rfl; (with_reducible repeat (first | refine blk_drewN ?_ _ | refine blk_drew ?_ | refine blk_alloc ?_ _)); refine blk_put (cs := #[.int .i64 t203, .slice none 0 0, .int .i64 0]) ?_ 1 _ rfl; (with_reducible repeat (first | refine blk_drewN ?_ _ | refine blk_drew ?_ | refine blk_alloc ?_ _)); refine blk_put (cs := #[.int .i64 0, .slice none 0 0, .int .i64 0]) ?_ 0 _ rfl; (with_reducible repeat (first | refine blk_drewN ?_ _ | refine blk_drew ?_ | refine blk_alloc ?_ _)); exact BK208.out) hb); replace HB := bs_ HB hb; (try clear hb); (try clear hb2); (try clear hk); (try clear hi); have hnb53 := NB201_202.out; have hnc53 := NB202_201.out; have hnb54 := NB201_208.out; have hnc54 := NB208_201.out; have hcz55_0 := c1_ BK201; have hfz55_0 := blk_frozen BK201.out 0; obtain ⟨hcz56_0, hcz56_1, hcz56_2⟩ := c3_ BK200; have hfz56_0 := blk_frozen BK200.out 0; have hfz56_1 := blk_frozen BK200.out 1; have hfz56_2 := blk_frozen BK200.out 2) | (go_at_call 78; (with_reducible refine (spec_IsRow.calls k _ _ l1_0 a0_0 false _ (Kd.C_below HR1_0.out (up_ HB.out)) HC1_0.out A20.out).mono ?_); rintro e w57 ⟨rfl, hb⟩; replace HO206 := Aside0.mk (Kd.S_below (up_ HO206.out) hb); replace BK200 := bb_ BK200 hb; replace BK201 := bb_ BK201 hb; replace BK202 := bb_ BK202 hb; replace BK208 := bb_ BK208 hb; replace HB := bs_ HB hb; (try clear hb); (try clear hb2); (try clear hk); (try clear hi)))
    go_meet
    case rel => exact ⟨_, (true), rs_, H', ⟨by first | omega | exact Nat.le_refl _⟩, ⟨up_ HO206.out⟩, ⟨up_ BK200.out⟩, ⟨up_ BK201.out⟩, ⟨up_ BK202.out⟩, ⟨up_ BK208.out⟩, ⟨up_ HB.out⟩⟩
  ·have H' := Aside0.mk H
   clear H
   have hnb58 := NB200_201.out
   have hnc58 := NB201_200.out
   have hnb59 := NB200_202.out
   have hnc59 := NB202_200.out
   have hnb60 := NB200_208.out
   have hnc60 := NB208_200.out
   obtain ⟨hcz61_0, hcz61_1, hcz61_2⟩ := c3_ BK200
   have hfz61_0 := blk_frozen BK200.out 0
   have hfz61_1 := blk_frozen BK200.out 1
   have hfz61_2 := blk_frozen BK200.out 2
   go_wp2_with (first | ((refine gc_ 77 ?_); refine gl_ (some 20) Try.func77 (spec_IsLearner.calls k a0_0 _ _ l0_1 a0_2 false _ (Kd.C_below HR0_1.out (up_ HB.out)) HC0_1.out A18.out) ?_; rintro e w62 ⟨rfl, hb⟩; refine ⟨_, rfl, ?_⟩; replace HO206 := Aside0.mk (Kd.S_below (by (with_reducible repeat (first | apply Kd.S_alloc | apply Kd.S_drewN | apply Kd.S_drew)); exact (Kd.S_mono (Kd.S_far (p := ⟨gb208, 2, none⟩) (Kd.S_far (p := ⟨gb208, 1, none⟩) (Kd.S_far (p := ⟨gb208, 0, none⟩) (Kd.S_types HO206.out BK208.out (by decide)) (fun _ hk => hk.2) (.int .i64 t203)) (fun _ hk => hk.2) (.slice Ao17 t204.length co17)) (fun _ hk => hk.2) (.int .i64 t207)) (fun _ h_ => h_.1))) hb); replace BK200 := Aside0.mk (blk_below (g := gb200) (o := .cells #[.int .i64 a0_0, .slice A0_1 l0_1.length c0_1, .int .i64 a0_2] 30 (0, 0)) (by (with_reducible repeat (first | refine blk_drewN ?_ _ | refine blk_drew ?_ | refine blk_alloc ?_ _)); refine blk_far ?_ NB200_208.out _; (with_reducible repeat (first | refine blk_drewN ?_ _ | refine blk_drew ?_ | refine blk_alloc ?_ _)); refine blk_far ?_ NB200_208.out _; (with_reducible repeat (first | refine blk_drewN ?_ _ | refine blk_drew ?_ | refine blk_alloc ?_ _)); refine blk_far ?_ NB200_208.out _; (with_reducible repeat (first | refine blk_drewN ?_ _ | refine blk_drew ?_ | refine blk_alloc ?_ _)); exact BK200.out) hb); replace BK201 := Aside0.mk (blk_below (g := gb201) (o := .cells #[.slice A1_0 l1_0.length c1_0] 34 (0, 0)) (by (with_reducible repeat (first | refine blk_drewN ?_ _ | refine blk_drew ?_ | refine blk_alloc ?_ _)); refine blk_far ?_ NB201_208.out _; (with_reducible repeat (first | refine blk_drewN ?_ _ | refine blk_drew ?_ | refine blk_alloc ?_ _)); refine blk_far ?_ NB201_208.out _; (with_reducible repeat (first | refine blk_drewN ?_ _ | refine blk_drew ?_ | refine blk_alloc ?_ _)); refine blk_far ?_ NB201_208.out _; (with_reducible repeat (first | refine blk_drewN ?_ _ | refine blk_drew ?_ | refine blk_alloc ?_ _)); exact BK201.out) hb); replace BK202 := Aside0.mk (blk_below (g := gb202) (o := .cells #[.int .i64 0, .slice none 0 0, .int .i64 0] 30 (0, 0)) (by (with_reducible repeat (first | refine blk_drewN ?_ _ | refine blk_drew ?_ | refine blk_alloc ?_ _)); refine blk_far ?_ NB202_208.out _; (with_reducible repeat (first | refine blk_drewN ?_ _ | refine blk_drew ?_ | refine blk_alloc ?_ _)); refine blk_far ?_ NB202_208.out _; (with_reducible repeat (first | refine blk_drewN ?_ _ | refine blk_drew ?_ | refine blk_alloc ?_ _)); refine blk_far ?_ NB202_208.out _; (with_reducible repeat (first | refine blk_drewN ?_ _ | refine blk_drew ?_ | refine blk_alloc ?_ _)); exact BK202.out) hb); replace BK208 := Aside0.mk (blk_below (g := gb208) (o := .cells #[.int .i64 t203, .slice Ao17 t204.length co17, .int .i64 t207] 30 (0, 0)) (by (with_reducible repeat (first | refine blk_drewN ?_ _ | refine blk_drew ?_ | refine blk_alloc ?_ _)); refine blk_put (cs := #[.int .i64 t203, .slice Ao17 t204.length co17, .int .i64 0]) ?_ 2 _ rfl; (with_reducible repeat (first | refine blk_drewN ?_ _ | refine blk_drew ?_ | refine blk_alloc ?_ _)); refine blk_put (cs := #[.int .i64 t203, .slice none 0 0, .int .i64 0]) ?_ 1 _ rfl; (with_reducible repeat (first | refine blk_drewN ?_ _ | refine blk_drew ?_ | refine blk_alloc ?_ _)); refine blk_put (cs := #[.int .i64 0, .slice none 0 0, .int .i64 0]) ?_ 0 _ rfl; (with_reducible repeat (first | refine blk_drewN ?_ _ | refine blk_drew ?_ | refine blk_alloc ?_ _)); exact BK208.out) hb); replace HB := bs_ HB hb; (try clear hb); (try clear hb2); (try clear hk); (try clear hi)))
   go_meet
   case rel => exact ⟨_, (true), rs_, H', ⟨by first | omega | exact Nat.le_refl _⟩, ⟨up_ HO206.out⟩, ⟨up_ BK200.out⟩, ⟨up_ BK201.out⟩, ⟨up_ BK202.out⟩, ⟨up_ BK208.out⟩, ⟨up_ HB.out⟩⟩
 case rest =>
  clear HC4
  try clear c1
  try clear c2
  try clear p2
  try clear c3
  try clear c4
  try clear c5
  try clear c6
  try clear c7
  try clear c8
  try clear c9
  try clear c13
  try clear c14
  try clear c15
  try clear c19
  try clear c21
  try clear c22
  try clear c22b0
  try clear c23
  try clear c24
  try clear c25
  try clear c28
  try clear c29
  try clear c35
  try clear c36
  try clear c37
  try clear c40
  try clear c41
  try clear c48
  try clear c49
  try clear c50
  try clear c53
  try clear c54
  try clear c58
  try clear c59
  try clear c60
  try clear hcz10_0
  try clear hcz10_1
  try clear hcz10_2
  try clear hcz16_0
  try clear hcz16_1
  try clear hcz16_2
  try clear hcz26_0
  try clear hcz26_1
  try clear hcz26_2
  try clear hcz30_0
  try clear hcz31_0
  try clear hcz31_1
  try clear hcz31_2
  try clear hcz33_0
  try clear hcz33_1
  try clear hcz33_2
  try clear hcz38_0
  try clear hcz38_1
  try clear hcz38_2
  try clear hcz42_0
  try clear hcz43_0
  try clear hcz43_1
  try clear hcz43_2
  try clear hcz45_0
  try clear hcz45_1
  try clear hcz45_2
  try clear hcz46_0
  try clear hcz51_0
  try clear hcz51_1
  try clear hcz51_2
  try clear hcz55_0
  try clear hcz56_0
  try clear hcz56_1
  try clear hcz56_2
  try clear hcz61_0
  try clear hcz61_1
  try clear hcz61_2
  try clear hfz10_0
  try clear hfz10_1
  try clear hfz10_2
  try clear hfz16_0
  try clear hfz16_1
  try clear hfz16_2
  try clear hfz26_0
  try clear hfz26_1
  try clear hfz26_2
  try clear hfz30_0
  try clear hfz31_0
  try clear hfz31_1
  try clear hfz31_2
  try clear hfz33_0
  try clear hfz33_1
  try clear hfz33_2
  try clear hfz38_0
  try clear hfz38_1
  try clear hfz38_2
  try clear hfz42_0
  try clear hfz43_0
  try clear hfz43_1
  try clear hfz43_2
  try clear hfz45_0
  try clear hfz45_1
  try clear hfz45_2
  try clear hfz46_0
  try clear hfz51_0
  try clear hfz51_1
  try clear hfz51_2
  try clear hfz55_0
  try clear hfz56_0
  try clear hfz56_1
  try clear hfz56_2
  try clear hfz61_0
  try clear hfz61_1
  try clear hfz61_2
  obtain ⟨kq, x39_3, rfl, HA, HJ3, HO_209001, BK200, BK201, BK202, BK208, HB⟩ := hcut
  cases kq with
  | zero => exact absurd HA.out (by simp [spec_HearRow.j0])
  | succ kj3 =>
   have H := HA.out
   clear HA
   simp only [spec_HearRow.j0] at H
   replace H := itb_ H; rcases H with ⟨rfl, H⟩ | ⟨rfl, H⟩
   ·simp only [Option.some.injEq, Prod.mk.injEq] at H
    obtain ⟨rfl, rfl, rfl, rfl⟩ := H
    have hnb64 := NB208_200.out
    have hnc64 := NB200_208.out
    have hnb65 := NB208_201.out
    have hnc65 := NB201_208.out
    have hnb66 := NB208_202.out
    have hnc66 := NB202_208.out
    obtain ⟨hcz67_0, hcz67_1, hcz67_2⟩ := c3_ BK208
    have hfz67_0 := blk_frozen BK208.out 0
    have hfz67_1 := blk_frozen BK208.out 1
    have hfz67_2 := blk_frozen BK208.out 2
    have hnb68 := NB202_200.out
    have hnc68 := NB200_202.out
    have hnb69 := NB202_201.out
    have hnc69 := NB201_202.out
    obtain ⟨hcz70_0, hcz70_1, hcz70_2⟩ := c3_ BK202
    have hfz70_0 := blk_frozen BK202.out 0
    have hfz70_1 := blk_frozen BK202.out 1
    have hfz70_2 := blk_frozen BK202.out 2
    go_wp2
    refine bodyPost_ret (results_ct rfl _ _ gb202 30 #[.int .i64 t203, .slice Ao17 t204.length co17, .int .i64 t207] (0, 0) _ rfl (by (with_reducible repeat (first | refine blk_drewN ?_ _ | refine blk_drew ?_ | refine blk_alloc ?_ _)); refine blk_put (cs := #[.int .i64 t203, .slice Ao17 t204.length co17, .int .i64 0]) ?_ 2 _ rfl; (with_reducible repeat (first | refine blk_drewN ?_ _ | refine blk_drew ?_ | refine blk_alloc ?_ _)); refine blk_put (cs := #[.int .i64 t203, .slice none 0 0, .int .i64 0]) ?_ 1 _ rfl; (with_reducible repeat (first | refine blk_drewN ?_ _ | refine blk_drew ?_ | refine blk_alloc ?_ _)); refine blk_put (cs := #[.int .i64 0, .slice none 0 0, .int .i64 0]) ?_ 0 _ rfl; (with_reducible repeat (first | refine blk_drewN ?_ _ | refine blk_drew ?_ | refine blk_alloc ?_ _)); exact BK202.out) Try.underlying30 rfl (by kernel_rfl)) rfl ?_
    exact ⟨_, re_, by (with_reducible repeat (first | apply Kd.S_alloc | apply Kd.S_drewN | apply Kd.S_drew)); exact Kd.S_mono (Kd.S_far (p := ⟨gb202, 2, none⟩) (Kd.S_far (p := ⟨gb202, 1, none⟩) (Kd.S_far (p := ⟨gb202, 0, none⟩) (Kd.S_types HO_209001.out BK202.out (by decide)) (fun _ hk => hk.2) (.int .i64 t203)) (fun _ hk => hk.2) (.slice Ao17 t204.length co17)) (fun _ hk => hk.2) (.int .i64 t207)) (fun _ hk => trivial), up_ HB.out⟩
   ·have H' := Aside0.mk H
    clear H
    go_wp2
    go_loopg [7, 8] kj3 (fun kq v7 v8 w' => ∃ (x7_2 : Int) (x8_2 : Int), v7 = .int .i64 x7_2 ∧ v8 = .int .i64 x8_2 ∧ Aside0 (spec_HearRow.l0 kq x7_2 x8_2 a0_0 l0_1 a0_2 l1_0 t203 t204 t207 = some (r1, r2, r3, r4)) ∧ Aside0 (kq ≤ kj3) ∧ Aside0 (Kd.S (Kd.slice 3 (Kd.int .i64)) 25 w' w.heap.size (fun _ => True) (.slice Ao17 t204.length co17) t204) ∧ Aside0 (w'.heap[gb200]? = some (.cells #[.int .i64 a0_0, (.slice A0_1 l0_1.length c0_1), .int .i64 a0_2] 30 (0, 0))) ∧ Aside0 (w'.heap[gb201]? = some (.cells #[(.slice A1_0 l1_0.length c1_0)] 34 (0, 0))) ∧ Aside0 (w'.heap[gb202]? = some (.cells #[.int .i64 0, (.slice none 0 0), .int .i64 0] 30 (0, 0))) ∧ Aside0 (w'.heap[gb208]? = some (.cells #[.int .i64 t203, (.slice Ao17 t204.length co17), .int .i64 t207] 30 (0, 0))) ∧ Aside0 (Below w.heap.size w w'))
    case atStart => exact ⟨((-1)), (0), rs_, rs_, H', ⟨Nat.le_refl _⟩, ⟨up_ HO_209001.out⟩, ⟨up_ BK200.out⟩, ⟨up_ BK201.out⟩, ⟨up_ BK202.out⟩, ⟨up_ BK208.out⟩, ⟨up_ HB.out⟩⟩
    case round =>
     clear H'
     try clear c1
     try clear c2
     try clear p2
     try clear c3
     try clear c4
     try clear c5
     try clear c6
     try clear c7
     try clear c8
     try clear c9
     try clear c13
     try clear c14
     try clear c15
     try clear c19
     try clear c21
     try clear c22
     try clear c22b0
     try clear c23
     try clear c24
     try clear c25
     try clear c28
     try clear c29
     try clear c35
     try clear c36
     try clear c37
     try clear c40
     try clear c41
     try clear c48
     try clear c49
     try clear c50
     try clear c53
     try clear c54
     try clear c58
     try clear c59
     try clear c60
     try clear c63
     try clear c64
     try clear c65
     try clear c66
     try clear c68
     try clear c69
     try clear hcz10_0
     try clear hcz10_1
     try clear hcz10_2
     try clear hcz16_0
     try clear hcz16_1
     try clear hcz16_2
     try clear hcz26_0
     try clear hcz26_1
     try clear hcz26_2
     try clear hcz30_0
     try clear hcz31_0
     try clear hcz31_1
     try clear hcz31_2
     try clear hcz33_0
     try clear hcz33_1
     try clear hcz33_2
     try clear hcz38_0
     try clear hcz38_1
     try clear hcz38_2
     try clear hcz42_0
     try clear hcz43_0
     try clear hcz43_1
     try clear hcz43_2
     try clear hcz45_0
     try clear hcz45_1
     try clear hcz45_2
     try clear hcz46_0
     try clear hcz51_0
     try clear hcz51_1
     try clear hcz51_2
     try clear hcz55_0
     try clear hcz56_0
     try clear hcz56_1
     try clear hcz56_2
     try clear hcz61_0
     try clear hcz61_1
     try clear hcz61_2
     try clear hcz67_0
     try clear hcz67_1
     try clear hcz67_2
     try clear hcz70_0
     try clear hcz70_1
     try clear hcz70_2
     try clear hfz10_0
     try clear hfz10_1
     try clear hfz10_2
     try clear hfz16_0
     try clear hfz16_1
     try clear hfz16_2
     try clear hfz26_0
     try clear hfz26_1
     try clear hfz26_2
     try clear hfz30_0
     try clear hfz31_0
     try clear hfz31_1
     try clear hfz31_2
     try clear hfz33_0
     try clear hfz33_1
     try clear hfz33_2
     try clear hfz38_0
     try clear hfz38_1
     try clear hfz38_2
     try clear hfz42_0
     try clear hfz43_0
     try clear hfz43_1
     try clear hfz43_2
     try clear hfz45_0
     try clear hfz45_1
     try clear hfz45_2
     try clear hfz46_0
     try clear hfz51_0
     try clear hfz51_1
     try clear hfz51_2
     try clear hfz55_0
     try clear hfz56_0
     try clear hfz56_1
     try clear hfz56_2
     try clear hfz61_0
     try clear hfz61_1
     try clear hfz61_2
     try clear hfz67_0
     try clear hfz67_1
     try clear hfz67_2
     try clear hfz70_0
     try clear hfz70_1
     try clear hfz70_2
     try clear p2
     obtain ⟨x7_2, x8_2, rfl, rfl, HA, HK2, HO_209001, BK200, BK201, BK202, BK208, HB⟩ := hrel
     cases gk with
     | zero => exact absurd HA.out (by simp [spec_HearRow.l0])
     | succ k2 =>
      have H := HA.out
      clear HA
      simp only [spec_HearRow.l0] at H
      replace H := its_ H; rcases H with ⟨c71b0, H⟩ | ⟨c71b0, H⟩
      ·replace H := Option.bind_eq_some_iff.mp H
       obtain ⟨t212, A720, H⟩ := H
       replace H : (if 0 ≤ x8_2 then (if x8_2 < (l1_0.length : Int) then (if (rd l1_0 x8_2) = 1 then (if x7_2 < 0 then (spec_HearRow.l0 k2 t212 (wrap64 (x8_2 + 1)) a0_0 l0_1 a0_2 l1_0 t203 t204 t207) else (if t212 < x7_2 then (spec_HearRow.l0 k2 t212 (wrap64 (x8_2 + 1)) a0_0 l0_1 a0_2 l1_0 t203 t204 t207) else (spec_HearRow.l0 k2 x7_2 (wrap64 (x8_2 + 1)) a0_0 l0_1 a0_2 l1_0 t203 t204 t207))) else (spec_HearRow.l0 k2 x7_2 (wrap64 (x8_2 + 1)) a0_0 l0_1 a0_2 l1_0 t203 t204 t207)) else (none)) else (none)) = some (r1, r2, r3, r4) := H
       have A72 := Aside0.mk A720
       clear A720
       replace H := its_ H; rcases H with ⟨c73b0, H⟩ | ⟨_, ⟨⟩⟩
       replace H := its_ H; rcases H with ⟨c74b0, H⟩ | ⟨_, ⟨⟩⟩
       replace H := ieq_ H; rcases H with ⟨-, c75b0, c75b1, H⟩ | ⟨c75, c75b0, c75b1, H⟩
       ·replace H := its_ H; rcases H with ⟨c76b0, H⟩ | ⟨c76b0, H⟩
        ·have H' := Aside0.mk H
         clear H
         have hnb77 := NB200_201.out
         have hnc77 := NB201_200.out
         have hnb78 := NB200_202.out
         have hnc78 := NB202_200.out
         have hnb79 := NB200_208.out
         have hnc79 := NB208_200.out
         obtain ⟨hcz80_0, hcz80_1, hcz80_2⟩ := c3_ BK200
         have hfz80_0 := blk_frozen BK200.out 0
         have hfz80_1 := blk_frozen BK200.out 1
         have hfz80_2 := blk_frozen BK200.out 2
         go_wp2_with (first | ((refine gc_ 80 ?_); refine gq_ (some 50) Try.func80 (spec_l22Stratum.calls k2 _ _ l0_1 x8_2 t212 _ (Kd.C_below HR0_1.out (up_ HB.out)) HC0_1.out A72.out) (fun nd => ?_); have hnb81 := NB201_202.out; have hnc81 := NB202_201.out; have hnb82 := NB201_208.out; have hnc82 := NB208_201.out; have hcz83_0 := c1_ BK201; have hfz83_0 := blk_frozen BK201.out 0; have p213 : 0 ≤ (x8_2 : Int) := od_; have q213 : x8_2 < (l1_0.length : Int) := od_; obtain ⟨ad213, e213, hx213_0⟩ := Kd.at_int HR1_0.out x8_2 p213 q213; cases e213; replace hx213_0 := bh_ HB hx213_0; replace p213 := eq_true p213; replace q213 := eq_true q213))
         go_roundg k2
         case measure => have := HJ3.out; have := HK2.out; omega
         case rel => exact ⟨(t212), (wrap64 (x8_2 + 1)), rs_, rs_, H', ⟨by have := HJ3.out; have := HK2.out; omega⟩, ⟨up_ HO_209001.out⟩, ⟨up_ BK200.out⟩, ⟨up_ BK201.out⟩, ⟨up_ BK202.out⟩, ⟨up_ BK208.out⟩, ⟨up_ HB.out⟩⟩
        ·replace H := its_ H; rcases H with ⟨c84b0, H⟩ | ⟨c84b0, H⟩
         ·have H' := Aside0.mk H
          clear H
          have hnb85 := NB200_201.out
          have hnc85 := NB201_200.out
          have hnb86 := NB200_202.out
          have hnc86 := NB202_200.out
          have hnb87 := NB200_208.out
          have hnc87 := NB208_200.out
          obtain ⟨hcz88_0, hcz88_1, hcz88_2⟩ := c3_ BK200
          have hfz88_0 := blk_frozen BK200.out 0
          have hfz88_1 := blk_frozen BK200.out 1
          have hfz88_2 := blk_frozen BK200.out 2
          go_wp2_with (first | ((refine gc_ 80 ?_); refine gq_ (some 50) Try.func80 (spec_l22Stratum.calls k2 _ _ l0_1 x8_2 t212 _ (Kd.C_below HR0_1.out (up_ HB.out)) HC0_1.out A72.out) (fun nd => ?_); have hnb89 := NB201_202.out; have hnc89 := NB202_201.out; have hnb90 := NB201_208.out; have hnc90 := NB208_201.out; have hcz91_0 := c1_ BK201; have hfz91_0 := blk_frozen BK201.out 0; have p213 : 0 ≤ (x8_2 : Int) := od_; have q213 : x8_2 < (l1_0.length : Int) := od_; obtain ⟨ad213, e213, hx213_0⟩ := Kd.at_int HR1_0.out x8_2 p213 q213; cases e213; replace hx213_0 := bh_ HB hx213_0; replace p213 := eq_true p213; replace q213 := eq_true q213))
          go_roundg k2
          case measure => have := HJ3.out; have := HK2.out; omega
          case rel => exact ⟨(t212), (wrap64 (x8_2 + 1)), rs_, rs_, H', ⟨by have := HJ3.out; have := HK2.out; omega⟩, ⟨up_ HO_209001.out⟩, ⟨up_ BK200.out⟩, ⟨up_ BK201.out⟩, ⟨up_ BK202.out⟩, ⟨up_ BK208.out⟩, ⟨up_ HB.out⟩⟩
         ·have H' := Aside0.mk H
          clear H
          have hnb92 := NB200_201.out
          have hnc92 := NB201_200.out
          have hnb93 := NB200_202.out
          have hnc93 := NB202_200.out
          have hnb94 := NB200_208.out
          have hnc94 := NB208_200.out
          obtain ⟨hcz95_0, hcz95_1, hcz95_2⟩ := c3_ BK200
          have hfz95_0 := blk_frozen BK200.out 0
          have hfz95_1 := blk_frozen BK200.out 1
          have hfz95_2 := blk_frozen BK200.out 2
          go_wp2_with (first | ((refine gc_ 80 ?_); refine gq_ (some 50) Try.func80 (spec_l22Stratum.calls k2 _ _ l0_1 x8_2 t212 _ (Kd.C_below HR0_1.out (up_ HB.out)) HC0_1.out A72.out) (fun nd => ?_); have hnb96 := NB201_202.out; have hnc96 := NB202_201.out; have hnb97 := NB201_208.out; have hnc97 := NB208_201.out; have hcz98_0 := c1_ BK201; have hfz98_0 := blk_frozen BK201.out 0; have p213 : 0 ≤ (x8_2 : Int) := od_; have q213 : x8_2 < (l1_0.length : Int) := od_; obtain ⟨ad213, e213, hx213_0⟩ := Kd.at_int HR1_0.out x8_2 p213 q213; cases e213; replace hx213_0 := bh_ HB hx213_0; replace p213 := eq_true p213; replace q213 := eq_true q213))
          go_roundg k2
          case measure => have := HJ3.out; have := HK2.out; omega
          case rel => exact ⟨(x7_2), (wrap64 (x8_2 + 1)), rs_, rs_, H', ⟨by have := HJ3.out; have := HK2.out; omega⟩, ⟨up_ HO_209001.out⟩, ⟨up_ BK200.out⟩, ⟨up_ BK201.out⟩, ⟨up_ BK202.out⟩, ⟨up_ BK208.out⟩, ⟨up_ HB.out⟩⟩
       ·have H' := Aside0.mk H
        clear H
        have hnb99 := NB200_201.out
        have hnc99 := NB201_200.out
        have hnb100 := NB200_202.out
        have hnc100 := NB202_200.out
        have hnb101 := NB200_208.out
        have hnc101 := NB208_200.out
        obtain ⟨hcz102_0, hcz102_1, hcz102_2⟩ := c3_ BK200
        have hfz102_0 := blk_frozen BK200.out 0
        have hfz102_1 := blk_frozen BK200.out 1
        have hfz102_2 := blk_frozen BK200.out 2
        go_wp2_with (first | ((refine gc_ 80 ?_); refine gq_ (some 50) Try.func80 (spec_l22Stratum.calls k2 _ _ l0_1 x8_2 t212 _ (Kd.C_below HR0_1.out (up_ HB.out)) HC0_1.out A72.out) (fun nd => ?_); have hnb103 := NB201_202.out; have hnc103 := NB202_201.out; have hnb104 := NB201_208.out; have hnc104 := NB208_201.out; have hcz105_0 := c1_ BK201; have hfz105_0 := blk_frozen BK201.out 0; have p213 : 0 ≤ (x8_2 : Int) := od_; have q213 : x8_2 < (l1_0.length : Int) := od_; obtain ⟨ad213, e213, hx213_0⟩ := Kd.at_int HR1_0.out x8_2 p213 q213; cases e213; replace hx213_0 := bh_ HB hx213_0; replace p213 := eq_true p213; replace q213 := eq_true q213))
        go_roundg k2
        case measure => have := HJ3.out; have := HK2.out; omega
        case rel => exact ⟨(x7_2), (wrap64 (x8_2 + 1)), rs_, rs_, H', ⟨by have := HJ3.out; have := HK2.out; omega⟩, ⟨up_ HO_209001.out⟩, ⟨up_ BK200.out⟩, ⟨up_ BK201.out⟩, ⟨up_ BK202.out⟩, ⟨up_ BK208.out⟩, ⟨up_ HB.out⟩⟩
      ·replace H := its_ H; rcases H with ⟨c106b0, H⟩ | ⟨c106b0, H⟩
       ·simp only [Option.some.injEq, Prod.mk.injEq] at H
        obtain ⟨rfl, rfl, rfl, rfl⟩ := H
        have hnb107 := NB200_201.out
        have hnc107 := NB201_200.out
        have hnb108 := NB200_202.out
        have hnc108 := NB202_200.out
        have hnb109 := NB200_208.out
        have hnc109 := NB208_200.out
        obtain ⟨hcz110_0, hcz110_1, hcz110_2⟩ := c3_ BK200
        have hfz110_0 := blk_frozen BK200.out 0
        have hfz110_1 := blk_frozen BK200.out 1
        have hfz110_2 := blk_frozen BK200.out 2
        have hnb111 := NB208_201.out
        have hnc111 := NB201_208.out
        have hnb112 := NB208_202.out
        have hnc112 := NB202_208.out
        obtain ⟨hcz113_0, hcz113_1, hcz113_2⟩ := c3_ BK208
        have hfz113_0 := blk_frozen BK208.out 0
        have hfz113_1 := blk_frozen BK208.out 1
        have hfz113_2 := blk_frozen BK208.out 2
        have hnb114 := NB202_201.out
        have hnc114 := NB201_202.out
        obtain ⟨hcz115_0, hcz115_1, hcz115_2⟩ := c3_ BK202
        have hfz115_0 := blk_frozen BK202.out 0
        have hfz115_1 := blk_frozen BK202.out 1
        have hfz115_2 := blk_frozen BK202.out 2
        go_wp2
        refine bodyPost_ret (results_ct rfl _ _ gb202 30 #[.int .i64 t203, .slice Ao17 t204.length co17, .int .i64 t207] (0, 0) _ rfl (by (with_reducible repeat (first | refine blk_drewN ?_ _ | refine blk_drew ?_ | refine blk_alloc ?_ _)); refine blk_put (cs := #[.int .i64 t203, .slice Ao17 t204.length co17, .int .i64 0]) ?_ 2 _ rfl; (with_reducible repeat (first | refine blk_drewN ?_ _ | refine blk_drew ?_ | refine blk_alloc ?_ _)); refine blk_put (cs := #[.int .i64 t203, .slice none 0 0, .int .i64 0]) ?_ 1 _ rfl; (with_reducible repeat (first | refine blk_drewN ?_ _ | refine blk_drew ?_ | refine blk_alloc ?_ _)); refine blk_put (cs := #[.int .i64 0, .slice none 0 0, .int .i64 0]) ?_ 0 _ rfl; (with_reducible repeat (first | refine blk_drewN ?_ _ | refine blk_drew ?_ | refine blk_alloc ?_ _)); exact BK202.out) Try.underlying30 rfl (by kernel_rfl)) rfl ?_
        exact ⟨_, re_, by (with_reducible repeat (first | apply Kd.S_alloc | apply Kd.S_drewN | apply Kd.S_drew)); exact Kd.S_mono (Kd.S_far (p := ⟨gb202, 2, none⟩) (Kd.S_far (p := ⟨gb202, 1, none⟩) (Kd.S_far (p := ⟨gb202, 0, none⟩) (Kd.S_types HO_209001.out BK202.out (by decide)) (fun _ hk => hk.2) (.int .i64 t203)) (fun _ hk => hk.2) (.slice Ao17 t204.length co17)) (fun _ hk => hk.2) (.int .i64 t207)) (fun _ hk => trivial), up_ HB.out⟩
       ·obtain ⟨y214, hy214⟩ : ∃ y_ : List Int, y_ = (([] : List Int)) := ⟨_, rfl⟩
        replace H : (spec_HearRow.l1 k2 x7_2 y214 (([] : List (List Int))) 0 a0_0 l0_1 a0_2 l1_0 t203 t204 t207) = some (r1, r2, r3, r4) := rh_ hy214 H
        have Ny214 := Aside0.mk hy214
        clear hy214
        obtain ⟨y217, hy217⟩ : ∃ y_ : List (List Int), y_ = (([] : List (List Int))) := ⟨_, rfl⟩
        replace H : (spec_HearRow.l1 k2 x7_2 y214 y217 0 a0_0 l0_1 a0_2 l1_0 t203 t204 t207) = some (r1, r2, r3, r4) := rh_ hy217 H
        have Ny217 := Aside0.mk hy217
        clear hy217
        have H' := Aside0.mk H
        clear H
        have hnb116 := NB200_201.out
        have hnc116 := NB201_200.out
        have hnb117 := NB200_202.out
        have hnc117 := NB202_200.out
        have hnb118 := NB200_208.out
        have hnc118 := NB208_200.out
        obtain ⟨hcz119_0, hcz119_1, hcz119_2⟩ := c3_ BK200
        have hfz119_0 := blk_frozen BK200.out 0
        have hfz119_1 := blk_frozen BK200.out 1
        have hfz119_2 := blk_frozen BK200.out 2
        go_wp2_with (first | ((refine gd_ 70 ?_); refine Kd.R_lit (Kd.int .i64) _ 3 ?hg (N := 70) ?hd (xs := ([] : List Int)) (inner := []) (ok := fun _ => True) (okp := fun _ => True) ?hr ?hp (fun _ hk => hk) trivial (Below.refl _ _) (Nat.le_refl _) (by simp) ?_; (case hd => rfl); (case hg => rfl); (case hr => first | (go_simp; done) | (go_simp; rfl)); (case hp => exact (Reps.none _ _)); intro v215 w120 ho121 hb hg_ hnew_; clear hg_ hnew_; (first | rw [← Ny214.out] at ho121 | (simp only [Int.reduceToNat] at ho121; rw [← Ny214.out] at ho121)); replace HO_209001 := Aside0.mk (Kd.S_elder' (up_ HO_209001.out) (Kd.R_base ho121) hb); have HO216 := Aside0.mk (Kd.R_lower ho121 (below_size (up_ HB.out))); replace BK200 := bb_ BK200 hb; replace BK201 := bb_ BK201 hb; replace BK202 := bb_ BK202 hb; replace BK208 := bb_ BK208 hb; replace HB := bs_ HB hb; clear hb ho121) | ((refine gd_ 71 ?_); refine Kd.S_lit (Kd.slice 3 (Kd.int .i64)) _ 25 ?hg (N := 71) ?hd (xs := ([] : List (List Int))) (inner := []) (ok := fun _ => True) (okp := fun _ => True) ?hr ?hp (fun _ hk => hk) trivial (Below.refl _ _) (Nat.le_refl _) (by simp) ?_; (case hd => rfl); (case hg => rfl); (case hr => first | (go_simp; done) | (go_simp; rfl)); (case hp => exact (Reps.none _ _)); intro v218 w122 ho123 hb hg_ hnew_; clear hg_ hnew_; (first | rw [← Ny217.out] at ho123 | (simp only [Int.reduceToNat] at ho123; rw [← Ny217.out] at ho123)); have HO219 := Aside0.mk (Kd.S_lower (Kd.S_new' (Kd.S_new' ho123 (Kd.S_lt (up_ HO_209001.out))) (Kd.R_lt (up_ HO216.out))) (below_size (up_ HB.out))); replace HO_209001 := Aside0.mk (Kd.S_elder' (up_ HO_209001.out) (Kd.S_base ho123) hb); replace HO216 := Aside0.mk (Kd.R_below (up_ HO216.out) hb); replace BK200 := bb_ BK200 hb; replace BK201 := bb_ BK201 hb; replace BK202 := bb_ BK202 hb; replace BK208 := bb_ BK208 hb; replace HB := bs_ HB hb; clear hb ho123))
        go_loopg [10, 11, 12] k2 (fun kq v10 v11 v12 w' => ∃ (x10_3 : List Int) (x11_3 : List (List Int)) (x12_3 : Int), v12 = .int .i64 x12_3 ∧ Aside0 (spec_HearRow.l1 kq x7_2 x10_3 x11_3 x12_3 a0_0 l0_1 a0_2 l1_0 t203 t204 t207 = some (r1, r2, r3, r4)) ∧ Aside0 (kq ≤ k2) ∧ Aside0 (Kd.R (Kd.int .i64) 3 w' w.heap.size (fun _ => True) v10 x10_3) ∧ Aside0 (Kd.S (Kd.slice 3 (Kd.int .i64)) 25 w' w.heap.size (fun k_ => some k_ ≠ (v10 : Value).ownBlock ∧ some k_ ≠ ((.slice Ao17 t204.length co17) : Value).ownBlock) v11 x11_3) ∧ Aside0 (Kd.S (Kd.slice 3 (Kd.int .i64)) 25 w' w.heap.size (fun k_ => some k_ ≠ (v10 : Value).ownBlock ∧ some k_ ≠ (v11 : Value).ownBlock) (.slice Ao17 t204.length co17) t204) ∧ Aside0 (w'.heap[gb200]? = some (.cells #[.int .i64 a0_0, (.slice A0_1 l0_1.length c0_1), .int .i64 a0_2] 30 (0, 0))) ∧ Aside0 (w'.heap[gb201]? = some (.cells #[(.slice A1_0 l1_0.length c1_0)] 34 (0, 0))) ∧ Aside0 (w'.heap[gb202]? = some (.cells #[.int .i64 0, (.slice none 0 0), .int .i64 0] 30 (0, 0))) ∧ Aside0 (w'.heap[gb208]? = some (.cells #[.int .i64 t203, (.slice Ao17 t204.length co17), .int .i64 t207] 30 (0, 0))) ∧ Aside0 (Below w.heap.size w w'))
        case atStart => exact ⟨(y214), (y217), (0), rs_, H', ⟨Nat.le_refl _⟩, ⟨up_ HO216.out⟩, ⟨by (with_reducible repeat (first | apply Kd.S_alloc | apply Kd.S_drewN | apply Kd.S_drew)); exact Kd.S_mono HO219.out (fun _ hk => ⟨hk.2, hk.1.2⟩)⟩, ⟨by (with_reducible repeat (first | apply Kd.S_alloc | apply Kd.S_drewN | apply Kd.S_drew)); exact Kd.S_mono HO_209001.out (fun _ hk => ⟨hk.1.2, hk.2⟩)⟩, ⟨up_ BK200.out⟩, ⟨up_ BK201.out⟩, ⟨up_ BK202.out⟩, ⟨up_ BK208.out⟩, ⟨up_ HB.out⟩⟩
        case round =>
         clear H'
         try clear c1
         try clear c2
         try clear p2
         try clear q2
         try clear hx2
         try clear c3
         try clear c4
         try clear c5
         try clear c6
         try clear p6
         try clear c7
         try clear c8
         try clear c9
         try clear c10
         try clear c11
         try clear c13
         try clear c14
         try clear c15
         try clear c19
         try clear c21
         try clear p21
         try clear q21
         try clear hx21
         try clear c22
         try clear c22b0
         try clear c23
         try clear c24
         try clear c25
         try clear c28
         try clear c29
         try clear c35
         try clear c36
         try clear c37
         try clear c40
         try clear c41
         try clear c48
         try clear c49
         try clear c50
         try clear c53
         try clear c54
         try clear c58
         try clear c59
         try clear c60
         try clear c63
         try clear c64
         try clear p64
         try clear c65
         try clear c66
         try clear c68
         try clear c69
         try clear c71
         try clear c71b0
         try clear c73
         try clear c73b0
         try clear c74
         try clear c74b0
         try clear c75
         try clear c75b0
         try clear c75b1
         try clear c76
         try clear c76b0
         try clear c77
         try clear c78
         try clear c79
         try clear c80
         try clear c81
         try clear c82
         try clear c84
         try clear c84b0
         try clear c85
         try clear c86
         try clear c87
         try clear c89
         try clear c90
         try clear c92
         try clear c93
         try clear c94
         try clear c96
         try clear c97
         try clear c99
         try clear c100
         try clear c101
         try clear c103
         try clear c104
         try clear c106
         try clear c106b0
         try clear c107
         try clear c108
         try clear c109
         try clear c111
         try clear c112
         try clear c114
         try clear c116
         try clear c117
         try clear c118
         try clear hcz102_0
         try clear hcz102_1
         try clear hcz102_2
         try clear hcz105_0
         try clear hcz10_0
         try clear hcz10_1
         try clear hcz10_2
         try clear hcz110_0
         try clear hcz110_1
         try clear hcz110_2
         try clear hcz113_0
         try clear hcz113_1
         try clear hcz113_2
         try clear hcz115_0
         try clear hcz115_1
         try clear hcz115_2
         try clear hcz119_0
         try clear hcz119_1
         try clear hcz119_2
         try clear hcz16_0
         try clear hcz16_1
         try clear hcz16_2
         try clear hcz26_0
         try clear hcz26_1
         try clear hcz26_2
         try clear hcz30_0
         try clear hcz31_0
         try clear hcz31_1
         try clear hcz31_2
         try clear hcz33_0
         try clear hcz33_1
         try clear hcz33_2
         try clear hcz38_0
         try clear hcz38_1
         try clear hcz38_2
         try clear hcz42_0
         try clear hcz43_0
         try clear hcz43_1
         try clear hcz43_2
         try clear hcz45_0
         try clear hcz45_1
         try clear hcz45_2
         try clear hcz46_0
         try clear hcz51_0
         try clear hcz51_1
         try clear hcz51_2
         try clear hcz55_0
         try clear hcz56_0
         try clear hcz56_1
         try clear hcz56_2
         try clear hcz61_0
         try clear hcz61_1
         try clear hcz61_2
         try clear hcz67_0
         try clear hcz67_1
         try clear hcz67_2
         try clear hcz70_0
         try clear hcz70_1
         try clear hcz70_2
         try clear hcz80_0
         try clear hcz80_1
         try clear hcz80_2
         try clear hcz83_0
         try clear hcz88_0
         try clear hcz88_1
         try clear hcz88_2
         try clear hcz91_0
         try clear hcz95_0
         try clear hcz95_1
         try clear hcz95_2
         try clear hcz98_0
         try clear hfz102_0
         try clear hfz102_1
         try clear hfz102_2
         try clear hfz105_0
         try clear hfz10_0
         try clear hfz10_1
         try clear hfz10_2
         try clear hfz110_0
         try clear hfz110_1
         try clear hfz110_2
         try clear hfz113_0
         try clear hfz113_1
         try clear hfz113_2
         try clear hfz115_0
         try clear hfz115_1
         try clear hfz115_2
         try clear hfz119_0
         try clear hfz119_1
         try clear hfz119_2
         try clear hfz16_0
         try clear hfz16_1
         try clear hfz16_2
         try clear hfz26_0
         try clear hfz26_1
         try clear hfz26_2
         try clear hfz30_0
         try clear hfz31_0
         try clear hfz31_1
         try clear hfz31_2
         try clear hfz33_0
         try clear hfz33_1
         try clear hfz33_2
         try clear hfz38_0
         try clear hfz38_1
         try clear hfz38_2
         try clear hfz42_0
         try clear hfz43_0
         try clear hfz43_1
         try clear hfz43_2
         try clear hfz45_0
         try clear hfz45_1
         try clear hfz45_2
         try clear hfz46_0
         try clear hfz51_0
         try clear hfz51_1
         try clear hfz51_2
         try clear hfz55_0
         try clear hfz56_0
         try clear hfz56_1
         try clear hfz56_2
         try clear hfz61_0
         try clear hfz61_1
         try clear hfz61_2
         try clear hfz67_0
         try clear hfz67_1
         try clear hfz67_2
         try clear hfz70_0
         try clear hfz70_1
         try clear hfz70_2
         try clear hfz80_0
         try clear hfz80_1
         try clear hfz80_2
         try clear hfz83_0
         try clear hfz88_0
         try clear hfz88_1
         try clear hfz88_2
         try clear hfz91_0
         try clear hfz95_0
         try clear hfz95_1
         try clear hfz95_2
         try clear hfz98_0
         try clear hx213_0
         try clear p2
         try clear p213
         try clear q213
         obtain ⟨x10_3, x11_3, x12_3, rfl, HA, HK3, HO_10, HO_11, HO_209001, BK200, BK201, BK202, BK208, HB⟩ := hrel
         cases gk with
         | zero => exact absurd HA.out (by simp [spec_HearRow.l1])
         | succ k3 =>
          have H := HA.out
          clear HA
          simp only [spec_HearRow.l1] at H
          replace H := its_ H; rcases H with ⟨c124b0, H⟩ | ⟨c124b0, H⟩
          ·obtain ⟨y220, hy220⟩ : ∃ y_ : List Int, y_ = (([] : List Int)) := ⟨_, rfl⟩
           replace H : (spec_HearRow.l2 k3 x7_2 x10_3 x11_3 x12_3 y220 0 a0_0 l0_1 a0_2 l1_0 t203 t204 t207) = some (r1, r2, r3, r4) := rh_ hy220 H
           have Ny220 := Aside0.mk hy220
           clear hy220
           have H' := Aside0.mk H
           clear H
           have hnb125 := NB200_201.out
           have hnc125 := NB201_200.out
           have hnb126 := NB200_202.out
           have hnc126 := NB202_200.out
           have hnb127 := NB200_208.out
           have hnc127 := NB208_200.out
           obtain ⟨hcz128_0, hcz128_1, hcz128_2⟩ := c3_ BK200
           have hfz128_0 := blk_frozen BK200.out 0
           have hfz128_1 := blk_frozen BK200.out 1
           have hfz128_2 := blk_frozen BK200.out 2
           go_wp2_with (first | ((refine gd_ 79 ?_); refine Kd.R_lit (Kd.int .i64) _ 3 ?hg (N := 79) ?hd (xs := ([] : List Int)) (inner := []) (ok := fun _ => True) (okp := fun _ => True) ?hr ?hp (fun _ hk => hk) trivial (Below.refl _ _) (Nat.le_refl _) (by simp) ?_; (case hd => rfl); (case hg => rfl); (case hr => first | (go_simp; done) | (go_simp; rfl)); (case hp => exact (Reps.none _ _)); intro v221 w129 ho130 hb hg_ hnew_; clear hg_ hnew_; (first | rw [← Ny220.out] at ho130 | (simp only [Int.reduceToNat] at ho130; rw [← Ny220.out] at ho130)); replace HO_11 := Aside0.mk (Kd.S_elder' (up_ HO_11.out) (Kd.R_base ho130) hb); replace HO_209001 := Aside0.mk (Kd.S_elder' (up_ HO_209001.out) (Kd.R_base ho130) hb); have HO222 := Aside0.mk (Kd.R_lower (Kd.R_new' ho130 (Kd.R_lt (up_ HO_10.out))) (below_size (up_ HB.out))); replace HO_10 := Aside0.mk (Kd.R_elder' (up_ HO_10.out) (Kd.R_base ho130) hb); replace BK200 := bb_ BK200 hb; replace BK201 := bb_ BK201 hb; replace BK202 := bb_ BK202 hb; replace BK208 := bb_ BK208 hb; replace HB := bs_ HB hb; clear hb ho130))
           go_loopg [10, 13, 14] k3 (fun kq v10 v13 v14 w' => ∃ (x10_4 : List Int) (x13_4 : List Int) (x14_4 : Int), v14 = .int .i64 x14_4 ∧ Aside0 (spec_HearRow.l2 kq x7_2 x10_4 x11_3 x12_3 x13_4 x14_4 a0_0 l0_1 a0_2 l1_0 t203 t204 t207 = some (r1, r2, r3, r4)) ∧ Aside0 (kq ≤ k3) ∧ Aside0 (Kd.R (Kd.int .i64) 3 w' w.heap.size (fun k_ => some k_ ≠ (v13 : Value).ownBlock) v10 x10_4) ∧ Aside0 (Kd.S (Kd.slice 3 (Kd.int .i64)) 25 w' w.heap.size (fun k_ => some k_ ≠ (v10 : Value).ownBlock ∧ some k_ ≠ (v13 : Value).ownBlock ∧ some k_ ≠ ((.slice Ao17 t204.length co17) : Value).ownBlock) u11 x11_3) ∧ Aside0 (Kd.R (Kd.int .i64) 3 w' w.heap.size (fun k_ => some k_ ≠ (v10 : Value).ownBlock) v13 x13_4) ∧ Aside0 (Kd.S (Kd.slice 3 (Kd.int .i64)) 25 w' w.heap.size (fun k_ => some k_ ≠ (v10 : Value).ownBlock ∧ some k_ ≠ (u11 : Value).ownBlock ∧ some k_ ≠ (v13 : Value).ownBlock) (.slice Ao17 t204.length co17) t204) ∧ Aside0 (w'.heap[gb200]? = some (.cells #[.int .i64 a0_0, (.slice A0_1 l0_1.length c0_1), .int .i64 a0_2] 30 (0, 0))) ∧ Aside0 (w'.heap[gb201]? = some (.cells #[(.slice A1_0 l1_0.length c1_0)] 34 (0, 0))) ∧ Aside0 (w'.heap[gb202]? = some (.cells #[.int .i64 0, (.slice none 0 0), .int .i64 0] 30 (0, 0))) ∧ Aside0 (w'.heap[gb208]? = some (.cells #[.int .i64 t203, (.slice Ao17 t204.length co17), .int .i64 t207] 30 (0, 0))) ∧ Aside0 (Below w.heap.size w w'))
           case atStart => exact ⟨(x10_3), (y220), (0), rs_, H', ⟨Nat.le_refl _⟩, ⟨by (with_reducible repeat (first | apply Kd.R_alloc | apply Kd.R_drewN | apply Kd.R_drew)); exact Kd.R_mono HO_10.out (fun _ hk => hk.2)⟩, ⟨by (with_reducible repeat (first | apply Kd.S_alloc | apply Kd.S_drewN | apply Kd.S_drew)); exact Kd.S_mono HO_11.out (fun _ hk => ⟨hk.1.1, ⟨hk.2, hk.1.2⟩⟩)⟩, ⟨by (with_reducible repeat (first | apply Kd.R_alloc | apply Kd.R_drewN | apply Kd.R_drew)); exact Kd.R_mono HO222.out (fun _ hk => hk.2)⟩, ⟨by (with_reducible repeat (first | apply Kd.S_alloc | apply Kd.S_drewN | apply Kd.S_drew)); exact Kd.S_mono HO_209001.out (fun _ hk => ⟨hk.1.1, ⟨hk.1.2, hk.2⟩⟩)⟩, ⟨up_ BK200.out⟩, ⟨up_ BK201.out⟩, ⟨up_ BK202.out⟩, ⟨up_ BK208.out⟩, ⟨up_ HB.out⟩⟩
           case round =>
            clear H'
            try clear c1
            try clear c2
            try clear p2
            try clear q2
            try clear hx2
            try clear c3
            try clear c4
            try clear c5
            try clear c6
            try clear p6
            try clear c7
            try clear c8
            try clear c9
            try clear c10
            try clear c11
            try clear c12
            try clear c13
            try clear c14
            try clear c15
            try clear c19
            try clear c21
            try clear p21
            try clear q21
            try clear hx21
            try clear c22
            try clear c22b0
            try clear c23
            try clear c24
            try clear c25
            try clear c28
            try clear c29
            try clear c35
            try clear c36
            try clear c37
            try clear c40
            try clear c41
            try clear c48
            try clear c49
            try clear c50
            try clear c53
            try clear c54
            try clear c58
            try clear c59
            try clear c60
            try clear c63
            try clear c64
            try clear p64
            try clear c65
            try clear c66
            try clear c68
            try clear c69
            try clear c71
            try clear c71b0
            try clear c73
            try clear c73b0
            try clear c74
            try clear c74b0
            try clear c75
            try clear c75b0
            try clear c75b1
            try clear c76
            try clear c76b0
            try clear c77
            try clear c78
            try clear c79
            try clear c80
            try clear c81
            try clear c82
            try clear c84
            try clear c84b0
            try clear c85
            try clear c86
            try clear c87
            try clear c89
            try clear c90
            try clear c92
            try clear c93
            try clear c94
            try clear c96
            try clear c97
            try clear c99
            try clear c100
            try clear c101
            try clear c103
            try clear c104
            try clear c106
            try clear c106b0
            try clear c107
            try clear c108
            try clear c109
            try clear c111
            try clear c112
            try clear c114
            try clear c116
            try clear c117
            try clear c118
            try clear c124
            try clear c124b0
            try clear c125
            try clear c126
            try clear c127
            try clear hcz102_0
            try clear hcz102_1
            try clear hcz102_2
            try clear hcz105_0
            try clear hcz10_0
            try clear hcz10_1
            try clear hcz10_2
            try clear hcz110_0
            try clear hcz110_1
            try clear hcz110_2
            try clear hcz113_0
            try clear hcz113_1
            try clear hcz113_2
            try clear hcz115_0
            try clear hcz115_1
            try clear hcz115_2
            try clear hcz119_0
            try clear hcz119_1
            try clear hcz119_2
            try clear hcz128_0
            try clear hcz128_1
            try clear hcz128_2
            try clear hcz16_0
            try clear hcz16_1
            try clear hcz16_2
            try clear hcz26_0
            try clear hcz26_1
            try clear hcz26_2
            try clear hcz30_0
            try clear hcz31_0
            try clear hcz31_1
            try clear hcz31_2
            try clear hcz33_0
            try clear hcz33_1
            try clear hcz33_2
            try clear hcz38_0
            try clear hcz38_1
            try clear hcz38_2
            try clear hcz42_0
            try clear hcz43_0
            try clear hcz43_1
            try clear hcz43_2
            try clear hcz45_0
            try clear hcz45_1
            try clear hcz45_2
            try clear hcz46_0
            try clear hcz51_0
            try clear hcz51_1
            try clear hcz51_2
            try clear hcz55_0
            try clear hcz56_0
            try clear hcz56_1
            try clear hcz56_2
            try clear hcz61_0
            try clear hcz61_1
            try clear hcz61_2
            try clear hcz67_0
            try clear hcz67_1
            try clear hcz67_2
            try clear hcz70_0
            try clear hcz70_1
            try clear hcz70_2
            try clear hcz80_0
            try clear hcz80_1
            try clear hcz80_2
            try clear hcz83_0
            try clear hcz88_0
            try clear hcz88_1
            try clear hcz88_2
            try clear hcz91_0
            try clear hcz95_0
            try clear hcz95_1
            try clear hcz95_2
            try clear hcz98_0
            try clear hfz102_0
            try clear hfz102_1
            try clear hfz102_2
            try clear hfz105_0
            try clear hfz10_0
            try clear hfz10_1
            try clear hfz10_2
            try clear hfz110_0
            try clear hfz110_1
            try clear hfz110_2
            try clear hfz113_0
            try clear hfz113_1
            try clear hfz113_2
            try clear hfz115_0
            try clear hfz115_1
            try clear hfz115_2
            try clear hfz119_0
            try clear hfz119_1
            try clear hfz119_2
            try clear hfz128_0
            try clear hfz128_1
            try clear hfz128_2
            try clear hfz16_0
            try clear hfz16_1
            try clear hfz16_2
            try clear hfz26_0
            try clear hfz26_1
            try clear hfz26_2
            try clear hfz30_0
            try clear hfz31_0
            try clear hfz31_1
            try clear hfz31_2
            try clear hfz33_0
            try clear hfz33_1
            try clear hfz33_2
            try clear hfz38_0
            try clear hfz38_1
            try clear hfz38_2
            try clear hfz42_0
            try clear hfz43_0
            try clear hfz43_1
            try clear hfz43_2
            try clear hfz45_0
            try clear hfz45_1
            try clear hfz45_2
            try clear hfz46_0
            try clear hfz51_0
            try clear hfz51_1
            try clear hfz51_2
            try clear hfz55_0
            try clear hfz56_0
            try clear hfz56_1
            try clear hfz56_2
            try clear hfz61_0
            try clear hfz61_1
            try clear hfz61_2
            try clear hfz67_0
            try clear hfz67_1
            try clear hfz67_2
            try clear hfz70_0
            try clear hfz70_1
            try clear hfz70_2
            try clear hfz80_0
            try clear hfz80_1
            try clear hfz80_2
            try clear hfz83_0
            try clear hfz88_0
            try clear hfz88_1
            try clear hfz88_2
            try clear hfz91_0
            try clear hfz95_0
            try clear hfz95_1
            try clear hfz95_2
            try clear hfz98_0
            try clear hx213_0
            try clear p2
            try clear p21
            try clear p213
            try clear p6
            try clear p64
            try clear q2
            try clear q21
            try clear q213
            obtain ⟨x10_4, x13_4, x14_4, rfl, HA, HK4, HO_10, HO_11, HO_13, HO_209001, BK200, BK201, BK202, BK208, HB⟩ := hrel
            cases gk with
            | zero => exact absurd HA.out (by simp [spec_HearRow.l2])
            | succ k4 =>
             have H := HA.out
             clear HA
             simp only [spec_HearRow.l2] at H
             replace H := its_ H; rcases H with ⟨c131b0, H⟩ | ⟨_, ⟨⟩⟩
             replace H := its_ H; rcases H with ⟨c132b0, H⟩ | ⟨_, ⟨⟩⟩
             replace H := its_ H; rcases H with ⟨c133b0, H⟩ | ⟨c133b0, H⟩
             ·replace H := its_ H; rcases H with ⟨c134b0, H⟩ | ⟨_, ⟨⟩⟩
              replace H := its_ H; rcases H with ⟨c135b0, H⟩ | ⟨c135b0, H⟩
              ·replace H := its_ H; rcases H with ⟨c136b0, H⟩ | ⟨_, ⟨⟩⟩
               replace H := its_ H; rcases H with ⟨c137b0, H⟩ | ⟨_, ⟨⟩⟩
               replace H := ieq_ H; rcases H with ⟨-, c138b0, c138b1, H⟩ | ⟨c138, c138b0, c138b1, H⟩
               ·by_cases c139 : x10_4.length < 17592186044416
                ·rw [if_pos c139] at H
                 have LMc139 := Aside0.mk c139
                 clear c139
                 obtain ⟨y227, hy227⟩ : ∃ y_ : List Int, y_ = (x10_4 ++ [rd (rd_L1 l0_1 x12_3) x14_4]) := ⟨_, rfl⟩
                 replace H : (spec_HearRow.l2 k4 x7_2 y227 x11_3 x12_3 x13_4 (wrap64 (x14_4 + 1)) a0_0 l0_1 a0_2 l1_0 t203 t204 t207) = some (r1, r2, r3, r4) := rh_ hy227 H
                 have Ny227 := Aside0.mk hy227
                 clear hy227
                 have H' := Aside0.mk H
                 clear H
                 have hnb140 := NB200_201.out
                 have hnc140 := NB201_200.out
                 have hnb141 := NB200_202.out
                 have hnc141 := NB202_200.out
                 have hnb142 := NB200_208.out
                 have hnc142 := NB208_200.out
                 obtain ⟨hcz143_0, hcz143_1, hcz143_2⟩ := c3_ BK200
                 have hfz143_0 := blk_frozen BK200.out 0
                 have hfz143_1 := blk_frozen BK200.out 1
                 have hfz143_2 := blk_frozen BK200.out 2
                 have p223 : 0 ≤ (x12_3 : Int) := od_
                 have q223 : x12_3 < (l0_1.length : Int) := od_
                 obtain ⟨ad223, A223_0, c223_0, e223, hx223_0, hl223_0, hi223_0⟩ := at_L1 HR0_1.out x12_3 p223 q223
                 cases e223
                 replace hx223_0 := bh_ HB hx223_0
                 have HR223_0 := Aside0.mk hi223_0
                 have HC223_0 := Aside0.mk hl223_0
                 clear hi223_0 hl223_0
                 replace p223 := eq_true p223
                 replace q223 := eq_true q223
                 have p224 : 0 ≤ (x12_3 : Int) := od_
                 have q224 : x12_3 < (l0_1.length : Int) := od_
                 obtain ⟨ad224, A224_0, c224_0, e224, hx224_0, hl224_0, hi224_0⟩ := at_L1 HR0_1.out x12_3 p224 q224
                 obtain rfl : ad223 = ad224 := (by injection e224)
                 replace hx224_0 := bh_ HB hx224_0
                 have HR224_0 := Aside0.mk hi224_0
                 have HC224_0 := Aside0.mk hl224_0
                 clear hi224_0 hl224_0
                 replace p224 := eq_true p224
                 replace q224 := eq_true q224
                 have ea_ := Option.some.inj (hx223_0.symm.trans hx224_0)
                 injection ea_ with ea_ en_ ec_
                 subst ea_
                 subst ec_
                 clear en_
                 have p225 : 0 ≤ (x14_4 : Int) := od_
                 have q225 : x14_4 < ((rd_L1 l0_1 x12_3).length : Int) := od_
                 obtain ⟨ad225, e225, hx225_0⟩ := Kd.at_int HR224_0.out x14_4 p225 q225
                 cases e225
                 replace hx225_0 := bh_ HB hx225_0
                 replace p225 := eq_true p225
                 replace q225 := eq_true q225
                 have hnb144 := NB201_202.out
                 have hnc144 := NB202_201.out
                 have hnb145 := NB201_208.out
                 have hnc145 := NB208_201.out
                 have hcz146_0 := c1_ BK201
                 have hfz146_0 := blk_frozen BK201.out 0
                 have p226 : 0 ≤ ((rd (rd_L1 l0_1 x12_3) x14_4) : Int) := od_
                 have q226 : (rd (rd_L1 l0_1 x12_3) x14_4) < (l1_0.length : Int) := od_
                 obtain ⟨ad226, e226, hx226_0⟩ := Kd.at_int HR1_0.out (rd (rd_L1 l0_1 x12_3) x14_4) p226 q226
                 cases e226
                 replace hx226_0 := bh_ HB hx226_0
                 replace p226 := eq_true p226
                 replace q226 := eq_true q226
                 go_wp2_with (first | ((with_reducible refine gate_builtin (b := .append) (xs := #[.tmp 109, .tmp 111]) rfl ?_); at_builtin; refine Kd.R_append (Kd.int .i64) (w0 := w) w.heap.size rfl (.tmp 109) (.tmp 111) 25 3 (.int .i64 0) 8 rfl Try.underlying25 info3 rfl (by decide) (by omega) u10 x10_4 (rd (rd_L1 l0_1 x12_3) x14_4) [.int .i64 (rd (rd_L1 l0_1 x12_3) x14_4)] (fun k_ => some k_ ≠ (u13 : Value).ownBlock) (fun _ => False) rfl rfl ?aP (fun _ hk => hk.elim) ?aF ?aO ?aB ?aS ?aL ?_; (case aP => exact rfl); (case aB => exact (up_ HB.out)); (case aF => exact (fun k_ hk => Kd.fresh' (Kd.R_lt (up_ HO_13.out)) k_ hk)); (case aO => exact (up_ HO_10.out)); (case aS => exact (below_size (up_ HB.out))); (case aL => have := LMc139.out; omega); intro v228 w147 ho hb hg hat; rw [← Ny227.out] at ho; have n0_ := Aside0.mk (Kd.S_after (ok := (fun k_ => some k_ ≠ (u13 : Value).ownBlock ∧ some k_ ≠ (.slice Ao17 t204.length co17 : Value).ownBlock)) (by (with_reducible repeat (first | apply Kd.S_alloc | apply Kd.S_drewN | apply Kd.S_drew)); exact Kd.S_mono HO_11.out (fun _ hk => ⟨⟨hk.2.1, hk.2.2⟩, hk.1⟩)) hg hat); have n1_ := Aside0.mk (Kd.R_after (ok := (fun _ => True)) (by (with_reducible repeat (first | apply Kd.R_alloc | apply Kd.R_drewN | apply Kd.R_drew)); exact Kd.R_mono HO_13.out (fun _ hk => ⟨trivial, hk⟩)) hg hat); have n2_ := Aside0.mk (Kd.S_after (ok := (fun k_ => some k_ ≠ (u11 : Value).ownBlock ∧ some k_ ≠ (u13 : Value).ownBlock)) (by (with_reducible repeat (first | apply Kd.S_alloc | apply Kd.S_drewN | apply Kd.S_drew)); exact Kd.S_mono HO_209001.out (fun _ hk => ⟨⟨hk.2.1, hk.2.2⟩, hk.1⟩)) hg hat); have n3_ := Aside0.mk (blk_grown (g := gb200) (o := .cells #[.int .i64 a0_0, .slice (some ad223) l0_1.length c0_1, .int .i64 a0_2] 30 (0, 0)) (up_ BK200.out) hg (Kd.R_ne HO_10.out BK200.out (by decide))); have n4_ := Aside0.mk (blk_grown (g := gb201) (o := .cells #[.slice (some ad226) l1_0.length c1_0] 34 (0, 0)) (up_ BK201.out) hg (Kd.R_ne HO_10.out BK201.out (by decide))); have n5_ := Aside0.mk (blk_grown (g := gb202) (o := .cells #[.int .i64 0, .slice none 0 0, .int .i64 0] 30 (0, 0)) (up_ BK202.out) hg (Kd.R_ne HO_10.out BK202.out (by decide))); have n6_ := Aside0.mk (blk_grown (g := gb208) (o := .cells #[.int .i64 t203, .slice Ao17 t204.length co17, .int .i64 t207] 30 (0, 0)) (up_ BK208.out) hg (Kd.R_ne HO_10.out BK208.out (by decide))); have n7_ := Aside0.mk (hb); have n8_ := Aside0.mk (ho); clear HO_11; clear HO_13; clear HO_209001; clear BK200; clear BK201; clear BK202; clear BK208; clear HB; clear HO_10; have HO_11 := n0_; have HO_13 := n1_; have HO_209001 := n2_; have BK200 := n3_; have BK201 := n4_; have BK202 := n5_; have BK208 := n6_; have HB := n7_; have HO229 := n8_; clear n0_ n1_ n2_ n3_ n4_ n5_ n6_ n7_ n8_; clear ho hb hg hat))
                 go_roundg k4
                 case measure => have := HJ3.out; have := HK2.out; have := HK3.out; have := HK4.out; omega
                 case rel => exact ⟨(y227), (x13_4), (wrap64 (x14_4 + 1)), rs_, H', ⟨by have := HJ3.out; have := HK2.out; have := HK3.out; have := HK4.out; omega⟩, ⟨up_ HO229.out⟩, ⟨by (with_reducible repeat (first | apply Kd.S_alloc | apply Kd.S_drewN | apply Kd.S_drew)); exact Kd.S_mono HO_11.out (fun _ hk => ⟨hk.2, ⟨hk.1.1, hk.1.2⟩⟩)⟩, ⟨by (with_reducible repeat (first | apply Kd.R_alloc | apply Kd.R_drewN | apply Kd.R_drew)); exact Kd.R_mono HO_13.out (fun _ hk => hk.2)⟩, ⟨by (with_reducible repeat (first | apply Kd.S_alloc | apply Kd.S_drewN | apply Kd.S_drew)); exact Kd.S_mono HO_209001.out (fun _ hk => ⟨hk.2, ⟨hk.1.1, hk.1.2⟩⟩)⟩, ⟨up_ BK200.out⟩, ⟨up_ BK201.out⟩, ⟨up_ BK202.out⟩, ⟨up_ BK208.out⟩, ⟨up_ HB.out⟩⟩
                ·rw [if_neg c139] at H
                 exact absurd H (by simp)
               ·by_cases c148 : x13_4.length < 17592186044416
                ·rw [if_pos c148] at H
                 have LMc148 := Aside0.mk c148
                 clear c148
                 obtain ⟨y230, hy230⟩ : ∃ y_ : List Int, y_ = (x13_4 ++ [rd (rd_L1 l0_1 x12_3) x14_4]) := ⟨_, rfl⟩
                 replace H : (spec_HearRow.l2 k4 x7_2 x10_4 x11_3 x12_3 y230 (wrap64 (x14_4 + 1)) a0_0 l0_1 a0_2 l1_0 t203 t204 t207) = some (r1, r2, r3, r4) := rh_ hy230 H
                 have Ny230 := Aside0.mk hy230
                 clear hy230
                 have H' := Aside0.mk H
                 clear H
                 have hnb149 := NB200_201.out
                 have hnc149 := NB201_200.out
                 have hnb150 := NB200_202.out
                 have hnc150 := NB202_200.out
                 have hnb151 := NB200_208.out
                 have hnc151 := NB208_200.out
                 obtain ⟨hcz152_0, hcz152_1, hcz152_2⟩ := c3_ BK200
                 have hfz152_0 := blk_frozen BK200.out 0
                 have hfz152_1 := blk_frozen BK200.out 1
                 have hfz152_2 := blk_frozen BK200.out 2
                 have p223 : 0 ≤ (x12_3 : Int) := od_
                 have q223 : x12_3 < (l0_1.length : Int) := od_
                 obtain ⟨ad223, A223_0, c223_0, e223, hx223_0, hl223_0, hi223_0⟩ := at_L1 HR0_1.out x12_3 p223 q223
                 cases e223
                 replace hx223_0 := bh_ HB hx223_0
                 have HR223_0 := Aside0.mk hi223_0
                 have HC223_0 := Aside0.mk hl223_0
                 clear hi223_0 hl223_0
                 replace p223 := eq_true p223
                 replace q223 := eq_true q223
                 have p224 : 0 ≤ (x12_3 : Int) := od_
                 have q224 : x12_3 < (l0_1.length : Int) := od_
                 obtain ⟨ad224, A224_0, c224_0, e224, hx224_0, hl224_0, hi224_0⟩ := at_L1 HR0_1.out x12_3 p224 q224
                 obtain rfl : ad223 = ad224 := (by injection e224)
                 replace hx224_0 := bh_ HB hx224_0
                 have HR224_0 := Aside0.mk hi224_0
                 have HC224_0 := Aside0.mk hl224_0
                 clear hi224_0 hl224_0
                 replace p224 := eq_true p224
                 replace q224 := eq_true q224
                 have ea_ := Option.some.inj (hx223_0.symm.trans hx224_0)
                 injection ea_ with ea_ en_ ec_
                 subst ea_
                 subst ec_
                 clear en_
                 have p225 : 0 ≤ (x14_4 : Int) := od_
                 have q225 : x14_4 < ((rd_L1 l0_1 x12_3).length : Int) := od_
                 obtain ⟨ad225, e225, hx225_0⟩ := Kd.at_int HR224_0.out x14_4 p225 q225
                 cases e225
                 replace hx225_0 := bh_ HB hx225_0
                 replace p225 := eq_true p225
                 replace q225 := eq_true q225
                 have hnb153 := NB201_202.out
                 have hnc153 := NB202_201.out
                 have hnb154 := NB201_208.out
                 have hnc154 := NB208_201.out
                 have hcz155_0 := c1_ BK201
                 have hfz155_0 := blk_frozen BK201.out 0
                 have p226 : 0 ≤ ((rd (rd_L1 l0_1 x12_3) x14_4) : Int) := od_
                 have q226 : (rd (rd_L1 l0_1 x12_3) x14_4) < (l1_0.length : Int) := od_
                 obtain ⟨ad226, e226, hx226_0⟩ := Kd.at_int HR1_0.out (rd (rd_L1 l0_1 x12_3) x14_4) p226 q226
                 cases e226
                 replace hx226_0 := bh_ HB hx226_0
                 replace p226 := eq_true p226
                 replace q226 := eq_true q226
                 go_wp2_with (first | ((with_reducible refine gate_builtin (b := .append) (xs := #[.tmp 113, .tmp 115]) rfl ?_); at_builtin; refine Kd.R_append (Kd.int .i64) (w0 := w) w.heap.size rfl (.tmp 113) (.tmp 115) 25 3 (.int .i64 0) 8 rfl Try.underlying25 info3 rfl (by decide) (by omega) u13 x13_4 (rd (rd_L1 l0_1 x12_3) x14_4) [.int .i64 (rd (rd_L1 l0_1 x12_3) x14_4)] (fun k_ => some k_ ≠ (u10 : Value).ownBlock) (fun _ => False) rfl rfl ?aP (fun _ hk => hk.elim) ?aF ?aO ?aB ?aS ?aL ?_; (case aP => exact rfl); (case aB => exact (up_ HB.out)); (case aF => exact (fun k_ hk => Kd.fresh' (Kd.R_lt (up_ HO_10.out)) k_ hk)); (case aO => exact (up_ HO_13.out)); (case aS => exact (below_size (up_ HB.out))); (case aL => have := LMc148.out; omega); intro v231 w156 ho hb hg hat; rw [← Ny230.out] at ho; have n0_ := Aside0.mk (Kd.R_after (ok := (fun _ => True)) (by (with_reducible repeat (first | apply Kd.R_alloc | apply Kd.R_drewN | apply Kd.R_drew)); exact Kd.R_mono HO_10.out (fun _ hk => ⟨trivial, hk⟩)) hg hat); have n1_ := Aside0.mk (Kd.S_after (ok := (fun k_ => some k_ ≠ (u10 : Value).ownBlock ∧ some k_ ≠ (.slice Ao17 t204.length co17 : Value).ownBlock)) (by (with_reducible repeat (first | apply Kd.S_alloc | apply Kd.S_drewN | apply Kd.S_drew)); exact Kd.S_mono HO_11.out (fun _ hk => ⟨⟨hk.1, hk.2.2⟩, hk.2.1⟩)) hg hat); have n2_ := Aside0.mk (Kd.S_after (ok := (fun k_ => some k_ ≠ (u10 : Value).ownBlock ∧ some k_ ≠ (u11 : Value).ownBlock)) (by (with_reducible repeat (first | apply Kd.S_alloc | apply Kd.S_drewN | apply Kd.S_drew)); exact Kd.S_mono HO_209001.out (fun _ hk => ⟨⟨hk.1, hk.2.1⟩, hk.2.2⟩)) hg hat); have n3_ := Aside0.mk (blk_grown (g := gb200) (o := .cells #[.int .i64 a0_0, .slice (some ad223) l0_1.length c0_1, .int .i64 a0_2] 30 (0, 0)) (up_ BK200.out) hg (Kd.R_ne HO_13.out BK200.out (by decide))); have n4_ := Aside0.mk (blk_grown (g := gb201) (o := .cells #[.slice (some ad226) l1_0.length c1_0] 34 (0, 0)) (up_ BK201.out) hg (Kd.R_ne HO_13.out BK201.out (by decide))); have n5_ := Aside0.mk (blk_grown (g := gb202) (o := .cells #[.int .i64 0, .slice none 0 0, .int .i64 0] 30 (0, 0)) (up_ BK202.out) hg (Kd.R_ne HO_13.out BK202.out (by decide))); have n6_ := Aside0.mk (blk_grown (g := gb208) (o := .cells #[.int .i64 t203, .slice Ao17 t204.length co17, .int .i64 t207] 30 (0, 0)) (up_ BK208.out) hg (Kd.R_ne HO_13.out BK208.out (by decide))); have n7_ := Aside0.mk (hb); have n8_ := Aside0.mk (ho); clear HO_10; clear HO_11; clear HO_209001; clear BK200; clear BK201; clear BK202; clear BK208; clear HB; clear HO_13; have HO_10 := n0_; have HO_11 := n1_; have HO_209001 := n2_; have BK200 := n3_; have BK201 := n4_; have BK202 := n5_; have BK208 := n6_; have HB := n7_; have HO232 := n8_; clear n0_ n1_ n2_ n3_ n4_ n5_ n6_ n7_ n8_; clear ho hb hg hat))
                 go_roundg k4
                 case measure => have := HJ3.out; have := HK2.out; have := HK3.out; have := HK4.out; omega
                 case rel => exact ⟨(x10_4), (y230), (wrap64 (x14_4 + 1)), rs_, H', ⟨by have := HJ3.out; have := HK2.out; have := HK3.out; have := HK4.out; omega⟩, ⟨by (with_reducible repeat (first | apply Kd.R_alloc | apply Kd.R_drewN | apply Kd.R_drew)); exact Kd.R_mono HO_10.out (fun _ hk => hk.2)⟩, ⟨by (with_reducible repeat (first | apply Kd.S_alloc | apply Kd.S_drewN | apply Kd.S_drew)); exact Kd.S_mono HO_11.out (fun _ hk => ⟨hk.1.1, ⟨hk.2, hk.1.2⟩⟩)⟩, ⟨up_ HO232.out⟩, ⟨by (with_reducible repeat (first | apply Kd.S_alloc | apply Kd.S_drewN | apply Kd.S_drew)); exact Kd.S_mono HO_209001.out (fun _ hk => ⟨hk.1.1, ⟨hk.1.2, hk.2⟩⟩)⟩, ⟨up_ BK200.out⟩, ⟨up_ BK201.out⟩, ⟨up_ BK202.out⟩, ⟨up_ BK208.out⟩, ⟨up_ HB.out⟩⟩
                ·rw [if_neg c148] at H
                 exact absurd H (by simp)
              ·by_cases c157 : x13_4.length < 17592186044416
               ·rw [if_pos c157] at H
                have LMc157 := Aside0.mk c157
                clear c157
                obtain ⟨y233, hy233⟩ : ∃ y_ : List Int, y_ = (x13_4 ++ [rd (rd_L1 l0_1 x12_3) x14_4]) := ⟨_, rfl⟩
                replace H : (spec_HearRow.l2 k4 x7_2 x10_4 x11_3 x12_3 y233 (wrap64 (x14_4 + 1)) a0_0 l0_1 a0_2 l1_0 t203 t204 t207) = some (r1, r2, r3, r4) := rh_ hy233 H
                have Ny233 := Aside0.mk hy233
                clear hy233
                have H' := Aside0.mk H
                clear H
                have hnb158 := NB200_201.out
                have hnc158 := NB201_200.out
                have hnb159 := NB200_202.out
                have hnc159 := NB202_200.out
                have hnb160 := NB200_208.out
                have hnc160 := NB208_200.out
                obtain ⟨hcz161_0, hcz161_1, hcz161_2⟩ := c3_ BK200
                have hfz161_0 := blk_frozen BK200.out 0
                have hfz161_1 := blk_frozen BK200.out 1
                have hfz161_2 := blk_frozen BK200.out 2
                have p223 : 0 ≤ (x12_3 : Int) := od_
                have q223 : x12_3 < (l0_1.length : Int) := od_
                obtain ⟨ad223, A223_0, c223_0, e223, hx223_0, hl223_0, hi223_0⟩ := at_L1 HR0_1.out x12_3 p223 q223
                cases e223
                replace hx223_0 := bh_ HB hx223_0
                have HR223_0 := Aside0.mk hi223_0
                have HC223_0 := Aside0.mk hl223_0
                clear hi223_0 hl223_0
                replace p223 := eq_true p223
                replace q223 := eq_true q223
                have p224 : 0 ≤ (x12_3 : Int) := od_
                have q224 : x12_3 < (l0_1.length : Int) := od_
                obtain ⟨ad224, A224_0, c224_0, e224, hx224_0, hl224_0, hi224_0⟩ := at_L1 HR0_1.out x12_3 p224 q224
                obtain rfl : ad223 = ad224 := (by injection e224)
                replace hx224_0 := bh_ HB hx224_0
                have HR224_0 := Aside0.mk hi224_0
                have HC224_0 := Aside0.mk hl224_0
                clear hi224_0 hl224_0
                replace p224 := eq_true p224
                replace q224 := eq_true q224
                have ea_ := Option.some.inj (hx223_0.symm.trans hx224_0)
                injection ea_ with ea_ en_ ec_
                subst ea_
                subst ec_
                clear en_
                have p225 : 0 ≤ (x14_4 : Int) := od_
                have q225 : x14_4 < ((rd_L1 l0_1 x12_3).length : Int) := od_
                obtain ⟨ad225, e225, hx225_0⟩ := Kd.at_int HR224_0.out x14_4 p225 q225
                cases e225
                replace hx225_0 := bh_ HB hx225_0
                replace p225 := eq_true p225
                replace q225 := eq_true q225
                go_wp2_with (first | ((with_reducible refine gate_builtin (b := .append) (xs := #[.tmp 113, .tmp 115]) rfl ?_); at_builtin; refine Kd.R_append (Kd.int .i64) (w0 := w) w.heap.size rfl (.tmp 113) (.tmp 115) 25 3 (.int .i64 0) 8 rfl Try.underlying25 info3 rfl (by decide) (by omega) u13 x13_4 (rd (rd_L1 l0_1 x12_3) x14_4) [.int .i64 (rd (rd_L1 l0_1 x12_3) x14_4)] (fun k_ => some k_ ≠ (u10 : Value).ownBlock) (fun _ => False) rfl rfl ?aP (fun _ hk => hk.elim) ?aF ?aO ?aB ?aS ?aL ?_; (case aP => exact rfl); (case aB => exact (up_ HB.out)); (case aF => exact (fun k_ hk => Kd.fresh' (Kd.R_lt (up_ HO_10.out)) k_ hk)); (case aO => exact (up_ HO_13.out)); (case aS => exact (below_size (up_ HB.out))); (case aL => have := LMc157.out; omega); intro v234 w162 ho hb hg hat; rw [← Ny233.out] at ho; have n0_ := Aside0.mk (Kd.R_after (ok := (fun _ => True)) (by (with_reducible repeat (first | apply Kd.R_alloc | apply Kd.R_drewN | apply Kd.R_drew)); exact Kd.R_mono HO_10.out (fun _ hk => ⟨trivial, hk⟩)) hg hat); have n1_ := Aside0.mk (Kd.S_after (ok := (fun k_ => some k_ ≠ (u10 : Value).ownBlock ∧ some k_ ≠ (.slice Ao17 t204.length co17 : Value).ownBlock)) (by (with_reducible repeat (first | apply Kd.S_alloc | apply Kd.S_drewN | apply Kd.S_drew)); exact Kd.S_mono HO_11.out (fun _ hk => ⟨⟨hk.1, hk.2.2⟩, hk.2.1⟩)) hg hat); have n2_ := Aside0.mk (Kd.S_after (ok := (fun k_ => some k_ ≠ (u10 : Value).ownBlock ∧ some k_ ≠ (u11 : Value).ownBlock)) (by (with_reducible repeat (first | apply Kd.S_alloc | apply Kd.S_drewN | apply Kd.S_drew)); exact Kd.S_mono HO_209001.out (fun _ hk => ⟨⟨hk.1, hk.2.1⟩, hk.2.2⟩)) hg hat); have n3_ := Aside0.mk (blk_grown (g := gb200) (o := .cells #[.int .i64 a0_0, .slice (some ad223) l0_1.length c0_1, .int .i64 a0_2] 30 (0, 0)) (up_ BK200.out) hg (Kd.R_ne HO_13.out BK200.out (by decide))); have n4_ := Aside0.mk (blk_grown (g := gb201) (o := .cells #[.slice A1_0 l1_0.length c1_0] 34 (0, 0)) (up_ BK201.out) hg (Kd.R_ne HO_13.out BK201.out (by decide))); have n5_ := Aside0.mk (blk_grown (g := gb202) (o := .cells #[.int .i64 0, .slice none 0 0, .int .i64 0] 30 (0, 0)) (up_ BK202.out) hg (Kd.R_ne HO_13.out BK202.out (by decide))); have n6_ := Aside0.mk (blk_grown (g := gb208) (o := .cells #[.int .i64 t203, .slice Ao17 t204.length co17, .int .i64 t207] 30 (0, 0)) (up_ BK208.out) hg (Kd.R_ne HO_13.out BK208.out (by decide))); have n7_ := Aside0.mk (hb); have n8_ := Aside0.mk (ho); clear HO_10; clear HO_11; clear HO_209001; clear BK200; clear BK201; clear BK202; clear BK208; clear HB; clear HO_13; have HO_10 := n0_; have HO_11 := n1_; have HO_209001 := n2_; have BK200 := n3_; have BK201 := n4_; have BK202 := n5_; have BK208 := n6_; have HB := n7_; have HO235 := n8_; clear n0_ n1_ n2_ n3_ n4_ n5_ n6_ n7_ n8_; clear ho hb hg hat))
                go_roundg k4
                case measure => have := HJ3.out; have := HK2.out; have := HK3.out; have := HK4.out; omega
                case rel => exact ⟨(x10_4), (y233), (wrap64 (x14_4 + 1)), rs_, H', ⟨by have := HJ3.out; have := HK2.out; have := HK3.out; have := HK4.out; omega⟩, ⟨by (with_reducible repeat (first | apply Kd.R_alloc | apply Kd.R_drewN | apply Kd.R_drew)); exact Kd.R_mono HO_10.out (fun _ hk => hk.2)⟩, ⟨by (with_reducible repeat (first | apply Kd.S_alloc | apply Kd.S_drewN | apply Kd.S_drew)); exact Kd.S_mono HO_11.out (fun _ hk => ⟨hk.1.1, ⟨hk.2, hk.1.2⟩⟩)⟩, ⟨up_ HO235.out⟩, ⟨by (with_reducible repeat (first | apply Kd.S_alloc | apply Kd.S_drewN | apply Kd.S_drew)); exact Kd.S_mono HO_209001.out (fun _ hk => ⟨hk.1.1, ⟨hk.1.2, hk.2⟩⟩)⟩, ⟨up_ BK200.out⟩, ⟨up_ BK201.out⟩, ⟨up_ BK202.out⟩, ⟨up_ BK208.out⟩, ⟨up_ HB.out⟩⟩
               ·rw [if_neg c157] at H
                exact absurd H (by simp)
             ·replace H := ieq_ H; rcases H with ⟨-, c163b0, c163b1, H⟩ | ⟨c163, c163b0, c163b1, H⟩
              ·by_cases c164 : x13_4.length + x10_4.length < 17592186044416
               ·rw [if_pos c164] at H
                have LMc164 := Aside0.mk c164
                clear c164
                obtain ⟨y236, hy236⟩ : ∃ y_ : List Int, y_ = (x13_4 ++ x10_4) := ⟨_, rfl⟩
                replace H : (if x11_3.length < 5864062014805 then (spec_HearRow.l1 k4 x7_2 x10_4 (x11_3 ++ [y236]) (wrap64 (x12_3 + 1)) a0_0 l0_1 a0_2 l1_0 t203 t204 t207) else (none)) = some (r1, r2, r3, r4) := rh_ hy236 H
                have Ny236 := Aside0.mk hy236
                clear hy236
                by_cases c165 : x11_3.length < 5864062014805
                ·rw [if_pos c165] at H
                 have LMc165 := Aside0.mk c165
                 clear c165
                 obtain ⟨y239, hy239⟩ : ∃ y_ : List (List Int), y_ = (x11_3 ++ [y236]) := ⟨_, rfl⟩
                 replace H : (spec_HearRow.l1 k4 x7_2 x10_4 y239 (wrap64 (x12_3 + 1)) a0_0 l0_1 a0_2 l1_0 t203 t204 t207) = some (r1, r2, r3, r4) := rh_ hy239 H
                 have Ny239 := Aside0.mk hy239
                 clear hy239
                 have H' := Aside0.mk H
                 clear H
                 have hnb166 := NB200_201.out
                 have hnc166 := NB201_200.out
                 have hnb167 := NB200_202.out
                 have hnc167 := NB202_200.out
                 have hnb168 := NB200_208.out
                 have hnc168 := NB208_200.out
                 obtain ⟨hcz169_0, hcz169_1, hcz169_2⟩ := c3_ BK200
                 have hfz169_0 := blk_frozen BK200.out 0
                 have hfz169_1 := blk_frozen BK200.out 1
                 have hfz169_2 := blk_frozen BK200.out 2
                 have p223 : 0 ≤ (x12_3 : Int) := od_
                 have q223 : x12_3 < (l0_1.length : Int) := od_
                 obtain ⟨ad223, A223_0, c223_0, e223, hx223_0, hl223_0, hi223_0⟩ := at_L1 HR0_1.out x12_3 p223 q223
                 cases e223
                 replace hx223_0 := bh_ HB hx223_0
                 have HR223_0 := Aside0.mk hi223_0
                 have HC223_0 := Aside0.mk hl223_0
                 clear hi223_0 hl223_0
                 replace p223 := eq_true p223
                 replace q223 := eq_true q223
                 obtain ⟨Ao171, co171, eo171⟩ := Kd.R_slice HO_10.out
                 subst eo171
                 go_wp2_with (first | ((with_reducible refine gate_builtin (b := .append) (xs := #[.tmp 121, .tmp 122]) rfl ?_); at_builtin; refine Kd.R_append_rows (Kd.int .i64) (w0 := w) w.heap.size rfl (.tmp 121) (.tmp 122) 25 3 (.int .i64 0) 8 rfl Try.underlying25 info3 rfl (by decide) (by omega) u13 x13_4 x10_4 _ _ _ (fun k_ => some k_ ≠ (.slice Ao171 x10_4.length co171 : Value).ownBlock) (fun _ => False) rfl rfl ?aO ?aR (fun _ _ h => h) (fun _ h => h.elim) ?aF ?aB ?aS ?aL ?_; (case aR => repeat (first | exact (Kd.R_reads' HO_10.out).2.2 | (with_reducible refine Kd.C_alloc ?_ _) | (with_reducible refine Kd.C_drewN ?_ _) | (with_reducible refine Kd.C_drew ?_))); (case aB => exact (up_ HB.out)); (case aF => exact (fun k_ hk => Kd.fresh' (Kd.R_lt (up_ HO_10.out)) k_ hk)); (case aO => exact (up_ HO_13.out)); (case aS => exact (below_size (up_ HB.out))); (case aL => have := LMc164.out; omega); intro v237 w170 ho hb hg hat; rw [← Ny236.out] at ho; have n0_ := Aside0.mk (Kd.R_after (ok := (fun _ => True)) (by (with_reducible repeat (first | apply Kd.R_alloc | apply Kd.R_drewN | apply Kd.R_drew)); exact Kd.R_mono HO_10.out (fun _ hk => ⟨trivial, hk⟩)) hg hat); have n1_ := Aside0.mk (Kd.S_after (ok := (fun k_ => some k_ ≠ (.slice Ao171 x10_4.length co171 : Value).ownBlock ∧ some k_ ≠ (.slice Ao17 t204.length co17 : Value).ownBlock)) (by (with_reducible repeat (first | apply Kd.S_alloc | apply Kd.S_drewN | apply Kd.S_drew)); exact Kd.S_mono HO_11.out (fun _ hk => ⟨⟨hk.1, hk.2.2⟩, hk.2.1⟩)) hg hat); have n2_ := Aside0.mk (Kd.S_after (ok := (fun k_ => some k_ ≠ (.slice Ao171 x10_4.length co171 : Value).ownBlock ∧ some k_ ≠ (u11 : Value).ownBlock)) (by (with_reducible repeat (first | apply Kd.S_alloc | apply Kd.S_drewN | apply Kd.S_drew)); exact Kd.S_mono HO_209001.out (fun _ hk => ⟨⟨hk.1, hk.2.1⟩, hk.2.2⟩)) hg hat); have n3_ := Aside0.mk (blk_grown (g := gb200) (o := .cells #[.int .i64 a0_0, .slice (some ad223) l0_1.length c0_1, .int .i64 a0_2] 30 (0, 0)) (up_ BK200.out) hg (Kd.R_ne HO_13.out BK200.out (by decide))); have n4_ := Aside0.mk (blk_grown (g := gb201) (o := .cells #[.slice A1_0 l1_0.length c1_0] 34 (0, 0)) (up_ BK201.out) hg (Kd.R_ne HO_13.out BK201.out (by decide))); have n5_ := Aside0.mk (blk_grown (g := gb202) (o := .cells #[.int .i64 0, .slice none 0 0, .int .i64 0] 30 (0, 0)) (up_ BK202.out) hg (Kd.R_ne HO_13.out BK202.out (by decide))); have n6_ := Aside0.mk (blk_grown (g := gb208) (o := .cells #[.int .i64 t203, .slice Ao17 t204.length co17, .int .i64 t207] 30 (0, 0)) (up_ BK208.out) hg (Kd.R_ne HO_13.out BK208.out (by decide))); have n7_ := Aside0.mk (hb); have n8_ := Aside0.mk (ho); clear HO_10; clear HO_11; clear HO_209001; clear BK200; clear BK201; clear BK202; clear BK208; clear HB; clear HO_13; have HO_10 := n0_; have HO_11 := n1_; have HO_209001 := n2_; have BK200 := n3_; have BK201 := n4_; have BK202 := n5_; have BK208 := n6_; have HB := n7_; have HO238 := n8_; clear n0_ n1_ n2_ n3_ n4_ n5_ n6_ n7_ n8_; clear ho hb hg hat; obtain ⟨Ao173, co173, eo173⟩ := Kd.R_slice HO238.out; subst eo173) | ((with_reducible refine gate_builtin (b := .append) (xs := #[.tmp 124, .tmp 126]) rfl ?_); at_builtin; refine Kd.S_append (Kd.slice 3 (Kd.int .i64)) (w0 := w) w.heap.size rfl (.tmp 124) (.tmp 126) 22 25 (.slice none 0 0) 24 rfl Try.underlying22 info25 rfl (by decide) (by omega) u11 x11_3 y236 [.slice Ao173 y236.length co173] (fun k_ => some k_ ≠ (.slice Ao171 x10_4.length co171 : Value).ownBlock ∧ some k_ ≠ (.slice Ao17 t204.length co17 : Value).ownBlock) (fun k_ => some k_ = (.slice Ao173 y236.length co173 : Value).ownBlock) rfl rfl ?aP (fun k_ hk_ => ((Kd.R_mono (ok' := fun k_ => ((fun k_ => some k_ ≠ (.slice Ao171 x10_4.length co171 : Value).ownBlock ∧ some k_ ≠ (.slice Ao17 t204.length co17 : Value).ownBlock)) k_ ∧ some k_ ≠ (u11 : Value).ownBlock) (Kd.R_apart' (Kd.R_apart' (HO238.out) (Kd.S_typed HO_209001.out) (by decide)) (Kd.S_typed HO_11.out) (by decide)) (fun k_ hk => ⟨⟨hk.1.1, hk.1.2⟩, hk.2⟩))).1 k_ hk_.symm) ?aF ?aO ?aB ?aS ?aL ?_; (case aP => exact Kd.M_row (Kd.R_mono (Kd.R_tight rfl (Kd.R_mono (ok' := fun k_ => ((fun k_ => some k_ ≠ (.slice Ao171 x10_4.length co171 : Value).ownBlock ∧ some k_ ≠ (.slice Ao17 t204.length co17 : Value).ownBlock)) k_ ∧ some k_ ≠ (u11 : Value).ownBlock) (Kd.R_apart' (Kd.R_apart' (HO238.out) (Kd.S_typed HO_209001.out) (by decide)) (Kd.S_typed HO_11.out) (by decide)) (fun k_ hk => ⟨⟨hk.1.1, hk.1.2⟩, hk.2⟩))) (fun _ h_ => h_))); (case aB => exact (up_ HB.out)); (case aF => exact (fun k_ hk => ⟨Kd.fresh' (Kd.R_lt (up_ HO_10.out)) k_ hk, Kd.fresh' (Kd.S_lt (up_ HO_209001.out)) k_ hk⟩)); (case aO => exact (by (with_reducible repeat (first | apply Kd.S_alloc | apply Kd.S_drewN | apply Kd.S_drew)); exact Kd.S_mono HO_11.out (fun k_ hk => ⟨⟨hk.1.1, hk.1.2⟩, fun e_ => hk.2 e_⟩))); (case aS => exact (below_size (up_ HB.out))); (case aL => have := LMc165.out; omega); intro v240 w172 ho hb hg hat; rw [← Ny239.out] at ho; have n0_ := Aside0.mk (Kd.R_over' (up_ HO_10.out) (Kd.S_typed (up_ HO_11.out)) (by decide) hg); have n1_ := Aside0.mk (Kd.S_after (ok := (fun k_ => some k_ ≠ (.slice Ao171 x10_4.length co171 : Value).ownBlock ∧ some k_ ≠ (.slice Ao173 y236.length co173 : Value).ownBlock)) (by (with_reducible repeat (first | apply Kd.S_alloc | apply Kd.S_drewN | apply Kd.S_drew)); exact Kd.S_mono HO_209001.out (fun _ hk => ⟨⟨hk.1.1, hk.2⟩, hk.1.2⟩)) hg hat); have n2_ := Aside0.mk (blk_grown (g := gb200) (o := .cells #[.int .i64 a0_0, .slice (some ad223) l0_1.length c0_1, .int .i64 a0_2] 30 (0, 0)) (up_ BK200.out) hg (Kd.S_ne HO_11.out BK200.out (by decide))); have n3_ := Aside0.mk (blk_grown (g := gb201) (o := .cells #[.slice A1_0 l1_0.length c1_0] 34 (0, 0)) (up_ BK201.out) hg (Kd.S_ne HO_11.out BK201.out (by decide))); have n4_ := Aside0.mk (blk_grown (g := gb202) (o := .cells #[.int .i64 0, .slice none 0 0, .int .i64 0] 30 (0, 0)) (up_ BK202.out) hg (Kd.S_ne HO_11.out BK202.out (by decide))); have n5_ := Aside0.mk (blk_grown (g := gb208) (o := .cells #[.int .i64 t203, .slice Ao17 t204.length co17, .int .i64 t207] 30 (0, 0)) (up_ BK208.out) hg (Kd.S_ne HO_11.out BK208.out (by decide))); have n6_ := Aside0.mk (hb); have n7_ := Aside0.mk (ho); clear HO_10; clear HO_209001; clear BK200; clear BK201; clear BK202; clear BK208; clear HB; clear HO_11; clear HO238; have HO_10 := n0_; have HO_209001 := n1_; have BK200 := n2_; have BK201 := n3_; have BK202 := n4_; have BK208 := n5_; have HB := n6_; have HO241 := n7_; clear n0_ n1_ n2_ n3_ n4_ n5_ n6_ n7_; clear ho hb hg hat))
                 go_roundg k4
                 case measure => have := HJ3.out; have := HK2.out; have := HK3.out; have := HK4.out; omega
                 case rel => exact ⟨(x10_4), (y239), (wrap64 (x12_3 + 1)), rs_, H', ⟨by have := HJ3.out; have := HK2.out; have := HK3.out; have := HK4.out; omega⟩, ⟨by (with_reducible repeat (first | apply Kd.R_alloc | apply Kd.R_drewN | apply Kd.R_drew)); exact Kd.R_mono HO_10.out (fun _ hk => trivial)⟩, ⟨up_ HO241.out⟩, ⟨by (with_reducible repeat (first | apply Kd.S_alloc | apply Kd.S_drewN | apply Kd.S_drew)); exact Kd.S_mono HO_209001.out (fun _ hk => ⟨hk.1.1, hk.2⟩)⟩, ⟨up_ BK200.out⟩, ⟨up_ BK201.out⟩, ⟨up_ BK202.out⟩, ⟨up_ BK208.out⟩, ⟨up_ HB.out⟩⟩
                ·rw [if_neg c165] at H
                 exact absurd H (by simp)
               ·rw [if_neg c164] at H
                exact absurd H (by simp)
              ·by_cases c174 : x11_3.length < 5864062014805
               ·rw [if_pos c174] at H
                have LMc174 := Aside0.mk c174
                clear c174
                obtain ⟨y242, hy242⟩ : ∃ y_ : List (List Int), y_ = (x11_3 ++ [x13_4]) := ⟨_, rfl⟩
                replace H : (spec_HearRow.l1 k4 x7_2 x10_4 y242 (wrap64 (x12_3 + 1)) a0_0 l0_1 a0_2 l1_0 t203 t204 t207) = some (r1, r2, r3, r4) := rh_ hy242 H
                have Ny242 := Aside0.mk hy242
                clear hy242
                have H' := Aside0.mk H
                clear H
                have hnb175 := NB200_201.out
                have hnc175 := NB201_200.out
                have hnb176 := NB200_202.out
                have hnc176 := NB202_200.out
                have hnb177 := NB200_208.out
                have hnc177 := NB208_200.out
                obtain ⟨hcz178_0, hcz178_1, hcz178_2⟩ := c3_ BK200
                have hfz178_0 := blk_frozen BK200.out 0
                have hfz178_1 := blk_frozen BK200.out 1
                have hfz178_2 := blk_frozen BK200.out 2
                have p223 : 0 ≤ (x12_3 : Int) := od_
                have q223 : x12_3 < (l0_1.length : Int) := od_
                obtain ⟨ad223, A223_0, c223_0, e223, hx223_0, hl223_0, hi223_0⟩ := at_L1 HR0_1.out x12_3 p223 q223
                cases e223
                replace hx223_0 := bh_ HB hx223_0
                have HR223_0 := Aside0.mk hi223_0
                have HC223_0 := Aside0.mk hl223_0
                clear hi223_0 hl223_0
                replace p223 := eq_true p223
                replace q223 := eq_true q223
                obtain ⟨Ao180, co180, eo180⟩ := Kd.R_slice HO_13.out
                subst eo180
                go_wp2_with (first | ((with_reducible refine gate_builtin (b := .append) (xs := #[.tmp 124, .tmp 126]) rfl ?_); at_builtin; refine Kd.S_append (Kd.slice 3 (Kd.int .i64)) (w0 := w) w.heap.size rfl (.tmp 124) (.tmp 126) 22 25 (.slice none 0 0) 24 rfl Try.underlying22 info25 rfl (by decide) (by omega) u11 x11_3 x13_4 [.slice Ao180 x13_4.length co180] (fun k_ => some k_ ≠ (u10 : Value).ownBlock ∧ some k_ ≠ (.slice Ao17 t204.length co17 : Value).ownBlock) (fun k_ => some k_ = (.slice Ao180 x13_4.length co180 : Value).ownBlock) rfl rfl ?aP (fun k_ hk_ => ((Kd.R_mono (ok' := fun k_ => ((fun k_ => some k_ ≠ (u10 : Value).ownBlock ∧ some k_ ≠ (.slice Ao17 t204.length co17 : Value).ownBlock)) k_ ∧ some k_ ≠ (u11 : Value).ownBlock) (Kd.R_apart' (Kd.R_apart' (HO_13.out) (Kd.S_typed HO_209001.out) (by decide)) (Kd.S_typed HO_11.out) (by decide)) (fun k_ hk => ⟨⟨hk.1.1, hk.1.2⟩, hk.2⟩))).1 k_ hk_.symm) ?aF ?aO ?aB ?aS ?aL ?_; (case aP => exact Kd.M_row (Kd.R_mono (Kd.R_tight rfl (Kd.R_mono (ok' := fun k_ => ((fun k_ => some k_ ≠ (u10 : Value).ownBlock ∧ some k_ ≠ (.slice Ao17 t204.length co17 : Value).ownBlock)) k_ ∧ some k_ ≠ (u11 : Value).ownBlock) (Kd.R_apart' (Kd.R_apart' (HO_13.out) (Kd.S_typed HO_209001.out) (by decide)) (Kd.S_typed HO_11.out) (by decide)) (fun k_ hk => ⟨⟨hk.1.1, hk.1.2⟩, hk.2⟩))) (fun _ h_ => h_))); (case aB => exact (up_ HB.out)); (case aF => exact (fun k_ hk => ⟨Kd.fresh' (Kd.R_lt (up_ HO_10.out)) k_ hk, Kd.fresh' (Kd.S_lt (up_ HO_209001.out)) k_ hk⟩)); (case aO => exact (by (with_reducible repeat (first | apply Kd.S_alloc | apply Kd.S_drewN | apply Kd.S_drew)); exact Kd.S_mono HO_11.out (fun k_ hk => ⟨⟨hk.1, hk.2.2⟩, fun e_ => hk.2.1 e_⟩))); (case aS => exact (below_size (up_ HB.out))); (case aL => have := LMc174.out; omega); intro v243 w179 ho hb hg hat; rw [← Ny242.out] at ho; have n0_ := Aside0.mk (Kd.R_over' (up_ HO_10.out) (Kd.S_typed (up_ HO_11.out)) (by decide) hg); have n1_ := Aside0.mk (Kd.S_after (ok := (fun k_ => some k_ ≠ (u10 : Value).ownBlock ∧ some k_ ≠ (.slice Ao180 x13_4.length co180 : Value).ownBlock)) (by (with_reducible repeat (first | apply Kd.S_alloc | apply Kd.S_drewN | apply Kd.S_drew)); exact Kd.S_mono HO_209001.out (fun _ hk => ⟨⟨hk.1, hk.2.2⟩, hk.2.1⟩)) hg hat); have n2_ := Aside0.mk (blk_grown (g := gb200) (o := .cells #[.int .i64 a0_0, .slice (some ad223) l0_1.length c0_1, .int .i64 a0_2] 30 (0, 0)) (up_ BK200.out) hg (Kd.S_ne HO_11.out BK200.out (by decide))); have n3_ := Aside0.mk (blk_grown (g := gb201) (o := .cells #[.slice A1_0 l1_0.length c1_0] 34 (0, 0)) (up_ BK201.out) hg (Kd.S_ne HO_11.out BK201.out (by decide))); have n4_ := Aside0.mk (blk_grown (g := gb202) (o := .cells #[.int .i64 0, .slice none 0 0, .int .i64 0] 30 (0, 0)) (up_ BK202.out) hg (Kd.S_ne HO_11.out BK202.out (by decide))); have n5_ := Aside0.mk (blk_grown (g := gb208) (o := .cells #[.int .i64 t203, .slice Ao17 t204.length co17, .int .i64 t207] 30 (0, 0)) (up_ BK208.out) hg (Kd.S_ne HO_11.out BK208.out (by decide))); have n6_ := Aside0.mk (hb); have n7_ := Aside0.mk (ho); clear HO_10; clear HO_209001; clear BK200; clear BK201; clear BK202; clear BK208; clear HB; clear HO_11; clear HO_13; have HO_10 := n0_; have HO_209001 := n1_; have BK200 := n2_; have BK201 := n3_; have BK202 := n4_; have BK208 := n5_; have HB := n6_; have HO244 := n7_; clear n0_ n1_ n2_ n3_ n4_ n5_ n6_ n7_; clear ho hb hg hat))
                go_roundg k4
                case measure => have := HJ3.out; have := HK2.out; have := HK3.out; have := HK4.out; omega
                case rel => exact ⟨(x10_4), (y242), (wrap64 (x12_3 + 1)), rs_, H', ⟨by have := HJ3.out; have := HK2.out; have := HK3.out; have := HK4.out; omega⟩, ⟨by (with_reducible repeat (first | apply Kd.R_alloc | apply Kd.R_drewN | apply Kd.R_drew)); exact Kd.R_mono HO_10.out (fun _ hk => trivial)⟩, ⟨up_ HO244.out⟩, ⟨by (with_reducible repeat (first | apply Kd.S_alloc | apply Kd.S_drewN | apply Kd.S_drew)); exact Kd.S_mono HO_209001.out (fun _ hk => ⟨hk.1.1, hk.2⟩)⟩, ⟨up_ BK200.out⟩, ⟨up_ BK201.out⟩, ⟨up_ BK202.out⟩, ⟨up_ BK208.out⟩, ⟨up_ HB.out⟩⟩
               ·rw [if_neg c174] at H
                exact absurd H (by simp)
          ·have HC181 := Aside0.mk H
           clear H
           have hnb182 := NB200_201.out
           have hnc182 := NB201_200.out
           have hnb183 := NB200_202.out
           have hnc183 := NB202_200.out
           have hnb184 := NB200_208.out
           have hnc184 := NB208_200.out
           obtain ⟨hcz185_0, hcz185_1, hcz185_2⟩ := c3_ BK200
           have hfz185_0 := blk_frozen BK200.out 0
           have hfz185_1 := blk_frozen BK200.out 1
           have hfz185_2 := blk_frozen BK200.out 2
           go_upto_if 133 with (fail)
           go_cut [11] (fun v11 wc => ∃ (kq : Nat) (x11_180 : List (List Int)), Aside0 (spec_HearRow.j4 kq x11_180 a0_0 l0_1 a0_2 t203 t204 t207 = some (r1, r2, r3, r4)) ∧ Aside0 (kq ≤ k3) ∧ Aside0 (Kd.S (Kd.slice 3 (Kd.int .i64)) 25 wc w.heap.size (fun k_ => some k_ ≠ ((.slice Ao17 t204.length co17) : Value).ownBlock) v11 x11_180) ∧ Aside0 (Kd.S (Kd.slice 3 (Kd.int .i64)) 25 wc w.heap.size (fun k_ => some k_ ≠ (v11 : Value).ownBlock) (.slice Ao17 t204.length co17) t204) ∧ Aside0 (wc.heap[gb200]? = some (.cells #[.int .i64 a0_0, (.slice A0_1 l0_1.length c0_1), .int .i64 a0_2] 30 (0, 0))) ∧ Aside0 (wc.heap[gb201]? = some (.cells #[(.slice A1_0 l1_0.length c1_0)] 34 (0, 0))) ∧ Aside0 (wc.heap[gb202]? = some (.cells #[.int .i64 0, (.slice none 0 0), .int .i64 0] 30 (0, 0))) ∧ Aside0 (wc.heap[gb208]? = some (.cells #[.int .i64 t203, (.slice Ao17 t204.length co17), .int .i64 t207] 30 (0, 0))) ∧ Aside0 (Below w.heap.size w wc))
           case first =>
            have H := HC181.out
            clear HC181
            replace H := ieq_ H; rcases H with ⟨-, c186b0, c186b1, H⟩ | ⟨c186, c186b0, c186b1, H⟩
            ·(first | rw [c186b0] | (simp only [i64_w, i32_w]; rw [c186b0]) | skip)
             by_cases c187 : x11_3.length < 5864062014805
             ·rw [if_pos c187] at H
              have LMc187 := Aside0.mk c187
              clear c187
              obtain ⟨y245, hy245⟩ : ∃ y_ : List (List Int), y_ = (x11_3 ++ [x10_3]) := ⟨_, rfl⟩
              replace H : (spec_HearRow.j4 k3 y245 a0_0 l0_1 a0_2 t203 t204 t207) = some (r1, r2, r3, r4) := rh_ hy245 H
              have Ny245 := Aside0.mk hy245
              clear hy245
              have H' := Aside0.mk H
              clear H
              obtain ⟨Ao189, co189, eo189⟩ := Kd.R_slice HO_10.out
              subst eo189
              go_wp2_with (first | ((with_reducible refine gate_builtin (b := .append) (xs := #[.tmp 134, .tmp 136]) rfl ?_); at_builtin; refine Kd.S_append (Kd.slice 3 (Kd.int .i64)) (w0 := w) w.heap.size rfl (.tmp 134) (.tmp 136) 22 25 (.slice none 0 0) 24 rfl Try.underlying22 info25 rfl (by decide) (by omega) u11 x11_3 x10_3 [.slice Ao189 x10_3.length co189] (fun k_ => some k_ ≠ (.slice Ao17 t204.length co17 : Value).ownBlock) (fun k_ => some k_ = (.slice Ao189 x10_3.length co189 : Value).ownBlock) rfl rfl ?aP (fun k_ hk_ => ((Kd.R_mono (ok' := fun k_ => ((fun k_ => some k_ ≠ (.slice Ao17 t204.length co17 : Value).ownBlock)) k_ ∧ some k_ ≠ (u11 : Value).ownBlock) (Kd.R_apart' (Kd.R_apart' (HO_10.out) (Kd.S_typed HO_209001.out) (by decide)) (Kd.S_typed HO_11.out) (by decide)) (fun k_ hk => ⟨hk.1.2, hk.2⟩))).1 k_ hk_.symm) ?aF ?aO ?aB ?aS ?aL ?_; (case aP => exact Kd.M_row (Kd.R_mono (Kd.R_tight rfl (Kd.R_mono (ok' := fun k_ => ((fun k_ => some k_ ≠ (.slice Ao17 t204.length co17 : Value).ownBlock)) k_ ∧ some k_ ≠ (u11 : Value).ownBlock) (Kd.R_apart' (Kd.R_apart' (HO_10.out) (Kd.S_typed HO_209001.out) (by decide)) (Kd.S_typed HO_11.out) (by decide)) (fun k_ hk => ⟨hk.1.2, hk.2⟩))) (fun _ h_ => h_))); (case aB => exact (up_ HB.out)); (case aF => exact (fun k_ hk => Kd.fresh' (Kd.S_lt (up_ HO_209001.out)) k_ hk)); (case aO => exact (by (with_reducible repeat (first | apply Kd.S_alloc | apply Kd.S_drewN | apply Kd.S_drew)); exact Kd.S_mono HO_11.out (fun k_ hk => ⟨hk.2, fun e_ => hk.1 e_⟩))); (case aS => exact (below_size (up_ HB.out))); (case aL => have := LMc187.out; omega); intro v246 w188 ho hb hg hat; rw [← Ny245.out] at ho; have n0_ := Aside0.mk (Kd.S_after (ok := (fun k_ => some k_ ≠ (.slice Ao189 x10_3.length co189 : Value).ownBlock)) (up_ HO_209001.out) hg hat); have n1_ := Aside0.mk (blk_grown (g := gb200) (o := .cells #[.int .i64 a0_0, .slice A0_1 l0_1.length c0_1, .int .i64 a0_2] 30 (0, 0)) (up_ BK200.out) hg (Kd.S_ne HO_11.out BK200.out (by decide))); have n2_ := Aside0.mk (blk_grown (g := gb201) (o := .cells #[.slice A1_0 l1_0.length c1_0] 34 (0, 0)) (up_ BK201.out) hg (Kd.S_ne HO_11.out BK201.out (by decide))); have n3_ := Aside0.mk (blk_grown (g := gb202) (o := .cells #[.int .i64 0, .slice none 0 0, .int .i64 0] 30 (0, 0)) (up_ BK202.out) hg (Kd.S_ne HO_11.out BK202.out (by decide))); have n4_ := Aside0.mk (blk_grown (g := gb208) (o := .cells #[.int .i64 t203, .slice Ao17 t204.length co17, .int .i64 t207] 30 (0, 0)) (up_ BK208.out) hg (Kd.S_ne HO_11.out BK208.out (by decide))); have n5_ := Aside0.mk (hb); have n6_ := Aside0.mk (ho); clear HO_209001; clear BK200; clear BK201; clear BK202; clear BK208; clear HB; clear HO_11; clear HO_10; have HO_209001 := n0_; have BK200 := n1_; have BK201 := n2_; have BK202 := n3_; have BK208 := n4_; have HB := n5_; have HO247 := n6_; clear n0_ n1_ n2_ n3_ n4_ n5_ n6_; clear ho hb hg hat))
              go_meet
              case rel => exact ⟨_, (y245), H', ⟨by have := HJ3.out; have := HK2.out; have := HK3.out; first | omega | exact Nat.le_refl _⟩, ⟨up_ HO247.out⟩, ⟨by (with_reducible repeat (first | apply Kd.S_alloc | apply Kd.S_drewN | apply Kd.S_drew)); exact Kd.S_mono HO_209001.out (fun _ hk => hk.2)⟩, ⟨up_ BK200.out⟩, ⟨up_ BK201.out⟩, ⟨up_ BK202.out⟩, ⟨up_ BK208.out⟩, ⟨up_ HB.out⟩⟩
             ·rw [if_neg c187] at H
              exact absurd H (by simp)
            ·(first | rw [c186b0] | (simp only [i64_w, i32_w]; rw [c186b0]) | skip)
             have H' := Aside0.mk H
             clear H
             go_wp2
             go_meet
             case rel => exact ⟨_, (x11_3), H', ⟨by have := HJ3.out; have := HK2.out; have := HK3.out; first | omega | exact Nat.le_refl _⟩, ⟨by (with_reducible repeat (first | apply Kd.S_alloc | apply Kd.S_drewN | apply Kd.S_drew)); exact Kd.S_mono HO_11.out (fun _ hk => hk.2)⟩, ⟨by (with_reducible repeat (first | apply Kd.S_alloc | apply Kd.S_drewN | apply Kd.S_drew)); exact Kd.S_mono HO_209001.out (fun _ hk => hk.2)⟩, ⟨up_ BK200.out⟩, ⟨up_ BK201.out⟩, ⟨up_ BK202.out⟩, ⟨up_ BK208.out⟩, ⟨up_ HB.out⟩⟩
           case rest =>
            clear HC181
            try clear c1
            try clear c2
            try clear p2
            try clear q2
            try clear hx2
            try clear p6
            try clear c9
            try clear c10
            try clear c11
            try clear c12
            try clear c13
            try clear c14
            try clear c15
            try clear c16
            try clear c17
            try clear c18
            try clear p21
            try clear q21
            try clear hx21
            try clear c22
            try clear p22
            try clear q22
            try clear hx22
            try clear p64
            try clear c94
            try clear c96
            try clear c97
            try clear c99
            try clear c100
            try clear c101
            try clear c103
            try clear c104
            try clear c106
            try clear c106b0
            try clear c107
            try clear c108
            try clear c109
            try clear c111
            try clear c112
            try clear c114
            try clear c116
            try clear c117
            try clear c118
            try clear c124
            try clear c124b0
            try clear c125
            try clear c126
            try clear c127
            try clear c131
            try clear c131b0
            try clear c132
            try clear c132b0
            try clear c133
            try clear c133b0
            try clear c134
            try clear c134b0
            try clear c135
            try clear c135b0
            try clear c136
            try clear c136b0
            try clear c137
            try clear c137b0
            try clear c138
            try clear c138b0
            try clear c138b1
            try clear c139
            try clear c140
            try clear c141
            try clear c142
            try clear c144
            try clear c145
            try clear c148
            try clear c149
            try clear c150
            try clear c151
            try clear c153
            try clear c154
            try clear c157
            try clear c158
            try clear c159
            try clear c160
            try clear c163
            try clear c163b0
            try clear c163b1
            try clear c164
            try clear c165
            try clear c166
            try clear c167
            try clear c168
            try clear c174
            try clear c175
            try clear c176
            try clear c177
            try clear c182
            try clear c183
            try clear c184
            try clear c186
            try clear c186b0
            try clear c186b1
            try clear c187
            try clear hcz102_0
            try clear hcz102_1
            try clear hcz102_2
            try clear hcz105_0
            try clear hcz10_0
            try clear hcz10_1
            try clear hcz10_2
            try clear hcz110_0
            try clear hcz110_1
            try clear hcz110_2
            try clear hcz113_0
            try clear hcz113_1
            try clear hcz113_2
            try clear hcz115_0
            try clear hcz115_1
            try clear hcz115_2
            try clear hcz119_0
            try clear hcz119_1
            try clear hcz119_2
            try clear hcz128_0
            try clear hcz128_1
            try clear hcz128_2
            try clear hcz143_0
            try clear hcz143_1
            try clear hcz143_2
            try clear hcz146_0
            try clear hcz152_0
            try clear hcz152_1
            try clear hcz152_2
            try clear hcz155_0
            try clear hcz161_0
            try clear hcz161_1
            try clear hcz161_2
            try clear hcz169_0
            try clear hcz169_1
            try clear hcz169_2
            try clear hcz16_0
            try clear hcz16_1
            try clear hcz16_2
            try clear hcz178_0
            try clear hcz178_1
            try clear hcz178_2
            try clear hcz185_0
            try clear hcz185_1
            try clear hcz185_2
            try clear hcz26_0
            try clear hcz26_1
            try clear hcz26_2
            try clear hcz30_0
            try clear hcz31_0
            try clear hcz31_1
            try clear hcz31_2
            try clear hcz33_0
            try clear hcz33_1
            try clear hcz33_2
            try clear hcz38_0
            try clear hcz38_1
            try clear hcz38_2
            try clear hcz42_0
            try clear hcz43_0
            try clear hcz43_1
            try clear hcz43_2
            try clear hcz45_0
            try clear hcz45_1
            try clear hcz45_2
            try clear hcz46_0
            try clear hcz51_0
            try clear hcz51_1
            try clear hcz51_2
            try clear hcz55_0
            try clear hcz56_0
            try clear hcz56_1
            try clear hcz56_2
            try clear hcz61_0
            try clear hcz61_1
            try clear hcz61_2
            try clear hcz67_0
            try clear hcz67_1
            try clear hcz67_2
            try clear hcz70_0
            try clear hcz70_1
            try clear hcz70_2
            try clear hcz80_0
            try clear hcz80_1
            try clear hcz80_2
            try clear hcz83_0
            try clear hcz88_0
            try clear hcz88_1
            try clear hcz88_2
            try clear hcz91_0
            try clear hcz95_0
            try clear hcz95_1
            try clear hcz95_2
            try clear hcz98_0
            try clear hfz102_0
            try clear hfz102_1
            try clear hfz102_2
            try clear hfz105_0
            try clear hfz10_0
            try clear hfz10_1
            try clear hfz10_2
            try clear hfz110_0
            try clear hfz110_1
            try clear hfz110_2
            try clear hfz113_0
            try clear hfz113_1
            try clear hfz113_2
            try clear hfz115_0
            try clear hfz115_1
            try clear hfz115_2
            try clear hfz119_0
            try clear hfz119_1
            try clear hfz119_2
            try clear hfz128_0
            try clear hfz128_1
            try clear hfz128_2
            try clear hfz143_0
            try clear hfz143_1
            try clear hfz143_2
            try clear hfz146_0
            try clear hfz152_0
            try clear hfz152_1
            try clear hfz152_2
            try clear hfz155_0
            try clear hfz161_0
            try clear hfz161_1
            try clear hfz161_2
            try clear hfz169_0
            try clear hfz169_1
            try clear hfz169_2
            try clear hfz16_0
            try clear hfz16_1
            try clear hfz16_2
            try clear hfz178_0
            try clear hfz178_1
            try clear hfz178_2
            try clear hfz185_0
            try clear hfz185_1
            try clear hfz185_2
            try clear hfz26_0
            try clear hfz26_1
            try clear hfz26_2
            try clear hfz30_0
            try clear hfz31_0
            try clear hfz31_1
            try clear hfz31_2
            try clear hfz33_0
            try clear hfz33_1
            try clear hfz33_2
            try clear hfz38_0
            try clear hfz38_1
            try clear hfz38_2
            try clear hfz42_0
            try clear hfz43_0
            try clear hfz43_1
            try clear hfz43_2
            try clear hfz45_0
            try clear hfz45_1
            try clear hfz45_2
            try clear hfz46_0
            try clear hfz51_0
            try clear hfz51_1
            try clear hfz51_2
            try clear hfz55_0
            try clear hfz56_0
            try clear hfz56_1
            try clear hfz56_2
            try clear hfz61_0
            try clear hfz61_1
            try clear hfz61_2
            try clear hfz67_0
            try clear hfz67_1
            try clear hfz67_2
            try clear hfz70_0
            try clear hfz70_1
            try clear hfz70_2
            try clear hfz80_0
            try clear hfz80_1
            try clear hfz80_2
            try clear hfz83_0
            try clear hfz88_0
            try clear hfz88_1
            try clear hfz88_2
            try clear hfz91_0
            try clear hfz95_0
            try clear hfz95_1
            try clear hfz95_2
            try clear hfz98_0
            try clear hx213_0
            try clear hx223_0
            try clear hx224_0
            try clear hx225_0
            try clear hx226_0
            try clear p2
            try clear p21
            try clear p213
            try clear p223
            try clear p224
            try clear p225
            try clear p226
            try clear p6
            try clear p64
            try clear q2
            try clear q21
            try clear q213
            try clear q223
            try clear q224
            try clear q225
            try clear q226
            obtain ⟨kq, x11_180, HA, HJ180, HO_11, HO_209001, BK200, BK201, BK202, BK208, HB⟩ := hcut
            cases kq with
            | zero => exact absurd HA.out (by simp [spec_HearRow.j4])
            | succ kj180 =>
             have H := HA.out
             clear HA
             simp only [spec_HearRow.j4] at H
             obtain ⟨y248, hy248⟩ : ∃ y_ : List (List Int), y_ = (([] : List (List Int))) := ⟨_, rfl⟩
             replace H : (spec_HearRow.l3 kj180 x11_180 0 a0_0 l0_1 a0_2 t203 y248 t207) = some (r1, r2, r3, r4) := rh_ hy248 H
             have Ny248 := Aside0.mk hy248
             clear hy248
             have H' := Aside0.mk H
             clear H
             go_wp2_with (first | ((refine gd_ 138 ?_); refine Kd.S_lit (Kd.slice 3 (Kd.int .i64)) _ 25 ?hg (N := 138) ?hd (xs := ([] : List (List Int))) (inner := []) (ok := fun _ => True) (okp := fun _ => True) ?hr ?hp (fun _ hk => hk) trivial (Below.refl _ _) (Nat.le_refl _) (by simp) ?_; (case hd => rfl); (case hg => rfl); (case hr => first | (go_simp; done) | (go_simp; rfl)); (case hp => exact (Reps.none _ _)); intro v249 w190 ho191 hb hg_ hnew_; clear hg_ hnew_; (first | rw [← Ny248.out] at ho191 | (simp only [Int.reduceToNat] at ho191; rw [← Ny248.out] at ho191)); have HO250 := Aside0.mk (Kd.S_lower (Kd.S_new' (Kd.S_new' ho191 (Kd.S_lt (up_ HO_11.out))) (Kd.S_lt (up_ HO_209001.out))) (below_size (up_ HB.out))); replace HO_11 := Aside0.mk (Kd.S_elder' (up_ HO_11.out) (Kd.S_base ho191) hb); replace HO_209001 := Aside0.mk (Kd.S_elder' (up_ HO_209001.out) (Kd.S_base ho191) hb); replace BK200 := bb_ BK200 hb; replace BK201 := bb_ BK201 hb; replace BK202 := bb_ BK202 hb; replace BK208 := bb_ BK208 hb; replace HB := bs_ HB hb; clear hb ho191; obtain ⟨Ao192, co192, eo192⟩ := Kd.S_slice HO250.out; subst eo192; have hnb193 := NB208_200.out; have hnc193 := NB200_208.out; have hnb194 := NB208_201.out; have hnc194 := NB201_208.out; have hnb195 := NB208_202.out; have hnc195 := NB202_208.out; obtain ⟨hcz196_0, hcz196_1, hcz196_2⟩ := c3_ BK208; have hfz196_0 := blk_frozen BK208.out 0; have hfz196_1 := blk_frozen BK208.out 1; have hfz196_2 := blk_frozen BK208.out 2))
             go_loopg [16] kj180 (fun kq v16 w' => ∃ (x16_5 : Int) (x209001_5 : List (List Int)) (u209001 : Value), v16 = .int .i64 x16_5 ∧ Aside0 (spec_HearRow.l3 kq x11_180 x16_5 a0_0 l0_1 a0_2 t203 x209001_5 t207 = some (r1, r2, r3, r4)) ∧ Aside0 (kq ≤ kj180) ∧ Aside0 (Kd.S (Kd.slice 3 (Kd.int .i64)) 25 w' w.heap.size (fun k_ => some k_ ≠ (u209001 : Value).ownBlock) u11 x11_180) ∧ Aside0 (Kd.S (Kd.slice 3 (Kd.int .i64)) 25 w' w.heap.size (fun k_ => some k_ ≠ (u11 : Value).ownBlock) u209001 x209001_5) ∧ Aside0 (w'.heap[gb200]? = some (.cells #[.int .i64 a0_0, (.slice A0_1 l0_1.length c0_1), .int .i64 a0_2] 30 (0, 0))) ∧ Aside0 (w'.heap[gb201]? = some (.cells #[(.slice A1_0 l1_0.length c1_0)] 34 (0, 0))) ∧ Aside0 (w'.heap[gb202]? = some (.cells #[.int .i64 0, (.slice none 0 0), .int .i64 0] 30 (0, 0))) ∧ Aside0 (w'.heap[gb208]? = some (.cells #[.int .i64 t203, u209001, .int .i64 t207] 30 (0, 0))) ∧ Aside0 (Below w.heap.size w w'))
             case atStart => exact ⟨(0), (y248), (.slice Ao192 y248.length co192), rs_, H', ⟨Nat.le_refl _⟩, ⟨by (with_reducible repeat (first | apply Kd.S_alloc | apply Kd.S_drewN | apply Kd.S_drew)); exact Kd.S_mono (Kd.S_far (p := ⟨gb208, 1, none⟩) (Kd.S_types HO_11.out BK208.out (by decide)) (fun _ hk => hk.2) (.slice Ao192 y248.length co192)) (fun _ hk => hk.1.2)⟩, ⟨by (with_reducible repeat (first | apply Kd.S_alloc | apply Kd.S_drewN | apply Kd.S_drew)); exact Kd.S_mono (Kd.S_far (p := ⟨gb208, 1, none⟩) (Kd.S_types HO250.out BK208.out (by decide)) (fun _ hk => hk.2) (.slice Ao192 y248.length co192)) (fun _ hk => hk.1.1.2)⟩, ⟨by (with_reducible repeat (first | refine blk_drewN ?_ _ | refine blk_drew ?_ | refine blk_alloc ?_ _)); refine blk_far ?_ NB200_208.out _; (with_reducible repeat (first | refine blk_drewN ?_ _ | refine blk_drew ?_ | refine blk_alloc ?_ _)); exact BK200.out⟩, ⟨by (with_reducible repeat (first | refine blk_drewN ?_ _ | refine blk_drew ?_ | refine blk_alloc ?_ _)); refine blk_far ?_ NB201_208.out _; (with_reducible repeat (first | refine blk_drewN ?_ _ | refine blk_drew ?_ | refine blk_alloc ?_ _)); exact BK201.out⟩, ⟨by (with_reducible repeat (first | refine blk_drewN ?_ _ | refine blk_drew ?_ | refine blk_alloc ?_ _)); refine blk_far ?_ NB202_208.out _; (with_reducible repeat (first | refine blk_drewN ?_ _ | refine blk_drew ?_ | refine blk_alloc ?_ _)); exact BK202.out⟩, ⟨by (with_reducible repeat (first | refine blk_drewN ?_ _ | refine blk_drew ?_ | refine blk_alloc ?_ _)); refine blk_put (cs := #[.int .i64 t203, .slice Ao17 t204.length co17, .int .i64 t207]) ?_ 1 _ rfl; (with_reducible repeat (first | refine blk_drewN ?_ _ | refine blk_drew ?_ | refine blk_alloc ?_ _)); exact BK208.out⟩, ⟨up_ HB.out⟩⟩
             case round =>
              clear H'
              try clear c1
              try clear c2
              try clear p2
              try clear q2
              try clear hx2
              try clear p6
              try clear c9
              try clear c10
              try clear c11
              try clear c12
              try clear c13
              try clear c14
              try clear c15
              try clear c16
              try clear c17
              try clear c18
              try clear c19
              try clear p21
              try clear q21
              try clear hx21
              try clear c22
              try clear p22
              try clear q22
              try clear hx22
              try clear p64
              try clear c94
              try clear c96
              try clear c97
              try clear c99
              try clear c100
              try clear c101
              try clear c103
              try clear c104
              try clear c106
              try clear c106b0
              try clear c107
              try clear c108
              try clear c109
              try clear c111
              try clear c112
              try clear c114
              try clear c116
              try clear c117
              try clear c118
              try clear c124
              try clear c124b0
              try clear c125
              try clear c126
              try clear c127
              try clear c131
              try clear c131b0
              try clear c132
              try clear c132b0
              try clear c133
              try clear c133b0
              try clear c134
              try clear c134b0
              try clear c135
              try clear c135b0
              try clear c136
              try clear c136b0
              try clear c137
              try clear c137b0
              try clear c138
              try clear c138b0
              try clear c138b1
              try clear c139
              try clear c140
              try clear c141
              try clear c142
              try clear c144
              try clear c145
              try clear c148
              try clear c149
              try clear c150
              try clear c151
              try clear c153
              try clear c154
              try clear c157
              try clear c158
              try clear c159
              try clear c160
              try clear c163
              try clear c163b0
              try clear c163b1
              try clear c164
              try clear c165
              try clear c166
              try clear c167
              try clear c168
              try clear c174
              try clear c175
              try clear c176
              try clear c177
              try clear c182
              try clear c183
              try clear c184
              try clear c186
              try clear c186b0
              try clear c186b1
              try clear c187
              try clear c193
              try clear c194
              try clear c195
              try clear hcz102_0
              try clear hcz102_1
              try clear hcz102_2
              try clear hcz105_0
              try clear hcz10_0
              try clear hcz10_1
              try clear hcz10_2
              try clear hcz110_0
              try clear hcz110_1
              try clear hcz110_2
              try clear hcz113_0
              try clear hcz113_1
              try clear hcz113_2
              try clear hcz115_0
              try clear hcz115_1
              try clear hcz115_2
              try clear hcz119_0
              try clear hcz119_1
              try clear hcz119_2
              try clear hcz128_0
              try clear hcz128_1
              try clear hcz128_2
              try clear hcz143_0
              try clear hcz143_1
              try clear hcz143_2
              try clear hcz146_0
              try clear hcz152_0
              try clear hcz152_1
              try clear hcz152_2
              try clear hcz155_0
              try clear hcz161_0
              try clear hcz161_1
              try clear hcz161_2
              try clear hcz169_0
              try clear hcz169_1
              try clear hcz169_2
              try clear hcz16_0
              try clear hcz16_1
              try clear hcz16_2
              try clear hcz178_0
              try clear hcz178_1
              try clear hcz178_2
              try clear hcz185_0
              try clear hcz185_1
              try clear hcz185_2
              try clear hcz196_0
              try clear hcz196_1
              try clear hcz196_2
              try clear hcz26_0
              try clear hcz26_1
              try clear hcz26_2
              try clear hcz30_0
              try clear hcz31_0
              try clear hcz31_1
              try clear hcz31_2
              try clear hcz33_0
              try clear hcz33_1
              try clear hcz33_2
              try clear hcz38_0
              try clear hcz38_1
              try clear hcz38_2
              try clear hcz42_0
              try clear hcz43_0
              try clear hcz43_1
              try clear hcz43_2
              try clear hcz45_0
              try clear hcz45_1
              try clear hcz45_2
              try clear hcz46_0
              try clear hcz51_0
              try clear hcz51_1
              try clear hcz51_2
              try clear hcz55_0
              try clear hcz56_0
              try clear hcz56_1
              try clear hcz56_2
              try clear hcz61_0
              try clear hcz61_1
              try clear hcz61_2
              try clear hcz67_0
              try clear hcz67_1
              try clear hcz67_2
              try clear hcz70_0
              try clear hcz70_1
              try clear hcz70_2
              try clear hcz80_0
              try clear hcz80_1
              try clear hcz80_2
              try clear hcz83_0
              try clear hcz88_0
              try clear hcz88_1
              try clear hcz88_2
              try clear hcz91_0
              try clear hcz95_0
              try clear hcz95_1
              try clear hcz95_2
              try clear hcz98_0
              try clear hfz102_0
              try clear hfz102_1
              try clear hfz102_2
              try clear hfz105_0
              try clear hfz10_0
              try clear hfz10_1
              try clear hfz10_2
              try clear hfz110_0
              try clear hfz110_1
              try clear hfz110_2
              try clear hfz113_0
              try clear hfz113_1
              try clear hfz113_2
              try clear hfz115_0
              try clear hfz115_1
              try clear hfz115_2
              try clear hfz119_0
              try clear hfz119_1
              try clear hfz119_2
              try clear hfz128_0
              try clear hfz128_1
              try clear hfz128_2
              try clear hfz143_0
              try clear hfz143_1
              try clear hfz143_2
              try clear hfz146_0
              try clear hfz152_0
              try clear hfz152_1
              try clear hfz152_2
              try clear hfz155_0
              try clear hfz161_0
              try clear hfz161_1
              try clear hfz161_2
              try clear hfz169_0
              try clear hfz169_1
              try clear hfz169_2
              try clear hfz16_0
              try clear hfz16_1
              try clear hfz16_2
              try clear hfz178_0
              try clear hfz178_1
              try clear hfz178_2
              try clear hfz185_0
              try clear hfz185_1
              try clear hfz185_2
              try clear hfz196_0
              try clear hfz196_1
              try clear hfz196_2
              try clear hfz26_0
              try clear hfz26_1
              try clear hfz26_2
              try clear hfz30_0
              try clear hfz31_0
              try clear hfz31_1
              try clear hfz31_2
              try clear hfz33_0
              try clear hfz33_1
              try clear hfz33_2
              try clear hfz38_0
              try clear hfz38_1
              try clear hfz38_2
              try clear hfz42_0
              try clear hfz43_0
              try clear hfz43_1
              try clear hfz43_2
              try clear hfz45_0
              try clear hfz45_1
              try clear hfz45_2
              try clear hfz46_0
              try clear hfz51_0
              try clear hfz51_1
              try clear hfz51_2
              try clear hfz55_0
              try clear hfz56_0
              try clear hfz56_1
              try clear hfz56_2
              try clear hfz61_0
              try clear hfz61_1
              try clear hfz61_2
              try clear hfz67_0
              try clear hfz67_1
              try clear hfz67_2
              try clear hfz70_0
              try clear hfz70_1
              try clear hfz70_2
              try clear hfz80_0
              try clear hfz80_1
              try clear hfz80_2
              try clear hfz83_0
              try clear hfz88_0
              try clear hfz88_1
              try clear hfz88_2
              try clear hfz91_0
              try clear hfz95_0
              try clear hfz95_1
              try clear hfz95_2
              try clear hfz98_0
              try clear hx213_0
              try clear hx223_0
              try clear hx224_0
              try clear hx225_0
              try clear hx226_0
              try clear p2
              try clear p21
              try clear p213
              try clear p22
              try clear p223
              try clear p224
              try clear p225
              try clear p226
              try clear p6
              try clear p64
              try clear q2
              try clear q21
              try clear q213
              try clear q22
              try clear q223
              try clear q224
              try clear q225
              try clear q226
              obtain ⟨x16_5, x209001_5, u209001, rfl, HA, HK5, HO_11, HO_209001, BK200, BK201, BK202, BK208, HB⟩ := hrel
              cases gk with
              | zero => exact absurd HA.out (by simp [spec_HearRow.l3])
              | succ k5 =>
               have H := HA.out
               clear HA
               simp only [spec_HearRow.l3] at H
               replace H := its_ H; rcases H with ⟨c197b0, H⟩ | ⟨c197b0, H⟩
               ·replace H := its_ H; rcases H with ⟨c198b0, H⟩ | ⟨_, ⟨⟩⟩
                by_cases c199 : ((rd_L1 x11_180 x16_5).length : Int) > 0
                ·rw [if_pos c199] at H
                 have c199b0 : decide (0 < ((rd_L1 x11_180 x16_5).length : Int)) = true := decide_eq_true c199
                 have c199b1 : decide (0 < (rd_L1 x11_180 x16_5).length) = true := decide_eq_true (by omega)
                 clear c199
                 replace H := Option.bind_eq_some_iff.mp H
                 obtain ⟨t253, A2000, H⟩ := H
                 replace H : (if x209001_5.length < 5864062014805 then (spec_HearRow.l3 k5 x11_180 (wrap64 (x16_5 + 1)) a0_0 l0_1 a0_2 t203 (x209001_5 ++ [t253]) t207) else (none)) = some (r1, r2, r3, r4) := H
                 have A200 := Aside0.mk A2000
                 clear A2000
                 by_cases c201 : x209001_5.length < 5864062014805
                 ·rw [if_pos c201] at H
                  have LMc201 := Aside0.mk c201
                  clear c201
                  obtain ⟨y256, hy256⟩ : ∃ y_ : List (List Int), y_ = (x209001_5 ++ [t253]) := ⟨_, rfl⟩
                  replace H : (spec_HearRow.l3 k5 x11_180 (wrap64 (x16_5 + 1)) a0_0 l0_1 a0_2 t203 y256 t207) = some (r1, r2, r3, r4) := rh_ hy256 H
                  have Ny256 := Aside0.mk hy256
                  clear hy256
                  have H' := Aside0.mk H
                  clear H
                  obtain ⟨Ao202, co202, eo202⟩ := Kd.S_slice HO_11.out
                  subst eo202
                  have p251 : 0 ≤ (x16_5 : Int) := od_
                  have q251 : x16_5 < (x11_180.length : Int) := od_
                  obtain ⟨ad251, A251_0, c251_0, e251, hx251_0, hl251_0, hi251_0⟩ := at_L1 (Kd.S_reads' HO_11.out).2.2 x16_5 p251 q251
                  cases e251
                  obtain ⟨ce251, hce251, hMe251, hcc251⟩ := Kd.S_get HO_11.out [] x16_5 p251 (by first | exact q251 | exact od_ | (have e_ := (Kd.S_reads' HO_11.out).1; omega))
                  obtain ⟨ve251_0, rfl, ge251_0⟩ := hMe251
                  have hv251_0 := hcc251 0 _ rfl
                  rw [Nat.add_zero, show ((Kd.slice 3 (Kd.int .i64))).sz = 1 from rfl, Nat.mul_one] at hv251_0
                  replace hv251_0 := Option.some.inj (hv251_0.symm.trans hx251_0)
                  rw [hv251_0] at ge251_0
                  have HL251_0 := Aside0.mk (show Kd.R (Kd.int .i64) 3 _ _ _ _ (rd_L1 x11_180 x16_5) from ge251_0)
                  clear hv251_0 ge251_0
                  clear hcc251 hce251
                  have HR251_0 := Aside0.mk hi251_0
                  have HC251_0 := Aside0.mk hl251_0
                  clear hi251_0 hl251_0
                  replace p251 := eq_true p251
                  replace q251 := eq_true q251
                  try go_wp2
                  have n0_ := Aside0.mk (Kd.S_drew HO_11.out)
                  have n1_ := Aside0.mk (Kd.S_drew HO_209001.out)
                  have n2_ := Aside0.mk (Kd.R_drew HL251_0.out)
                  have n3_ := Aside0.mk (blk_drew BK200.out)
                  have n4_ := Aside0.mk (blk_drew BK201.out)
                  have n5_ := Aside0.mk (blk_drew BK202.out)
                  have n6_ := Aside0.mk (blk_drew BK208.out)
                  have n7_ := Aside0.mk (Kd.C_drew HR251_0.out)
                  have n8_ := Aside0.mk (below_drew1 HB.out)
                  clear HO_11
                  clear HO_209001
                  clear HL251_0
                  clear BK200
                  clear BK201
                  clear BK202
                  clear BK208
                  clear HR251_0
                  clear HB
                  have HO_11 := n0_
                  have HO_209001 := n1_
                  have HL251_0 := n2_
                  have BK200 := n3_
                  have BK201 := n4_
                  have BK202 := n5_
                  have BK208 := n6_
                  have HR251_0 := n7_
                  have HB := n8_
                  clear n0_ n1_ n2_ n3_ n4_ n5_ n6_ n7_ n8_
                  have p252 : 0 ≤ (x16_5 : Int) := od_
                  have q252 : x16_5 < (x11_180.length : Int) := od_
                  obtain ⟨ad252, A252_0, c252_0, e252, hx252_0, hl252_0, hi252_0⟩ := at_L1 (Kd.S_reads' HO_11.out).2.2 x16_5 p252 q252
                  obtain rfl : ad251 = ad252 := (by injection e252)
                  obtain ⟨ce252, hce252, hMe252, hcc252⟩ := Kd.S_get HO_11.out [] x16_5 p252 (by first | exact q252 | exact od_ | (have e_ := (Kd.S_reads' HO_11.out).1; omega))
                  obtain ⟨ve252_0, rfl, ge252_0⟩ := hMe252
                  have hv252_0 := hcc252 0 _ rfl
                  rw [Nat.add_zero, show ((Kd.slice 3 (Kd.int .i64))).sz = 1 from rfl, Nat.mul_one] at hv252_0
                  replace hv252_0 := Option.some.inj (hv252_0.symm.trans hx252_0)
                  rw [hv252_0] at ge252_0
                  have HL252_0 := Aside0.mk (show Kd.R (Kd.int .i64) 3 _ _ _ _ (rd_L1 x11_180 x16_5) from ge252_0)
                  clear hv252_0 ge252_0
                  clear hcc252 hce252
                  have HR252_0 := Aside0.mk hi252_0
                  have HC252_0 := Aside0.mk hl252_0
                  clear hi252_0 hl252_0
                  replace p252 := eq_true p252
                  replace q252 := eq_true q252
                  refine start_ (n := 11) (S := fun w' => w'.cell? ⟨gb208, 0, none⟩ = some (.int .i64 t203) ∧ w'.cell? ⟨gb208, 1, none⟩ = some (u209001) ∧ w'.cell? ⟨gb208, 2, none⟩ = some (.int .i64 t207) ∧ w'.cell? (ad251.add (x16_5).toNat) = some (.slice A252_0 (rd_L1 x11_180 x16_5).length c252_0)) (ds := [8, 10]) #[false, false, false, false, false, false, false, false, false, false, false] (by kernel_rfl) rfl rfl ⟨(blk_cell BK208.out 0).trans rfl, (blk_cell BK208.out 1).trans rfl, (blk_cell BK208.out 2).trans rfl, hx252_0⟩ (fun hHeld => ?_); refine with_tabW spec_HearRow.tab36 spec_HearRow.bits36 (fun HT_ HW_ => ?_)
                  generalize wr.drew = w203 at HO_11 HO_209001 HL251_0 BK200 BK201 BK202 BK208 HR251_0 HB HL252_0 HR252_0 hx252_0 hHeld ⊢
                  refine pu_ 0 (some 152) ?_
                  refine pu_ 2 (some 154) ?_
                  refine pu_ 3 (some 155) ?_
                  refine pu_ 4 (some 156) ?_
                  refine tk_ 1 (some 153) hHeld ?_
                  refine tk_ 5 (some 157) hHeld ?_
                  refine one_ (i := 6) (N := some 158) #[true, true, true, true, true, true, true, false, false, false, false] rfl rfl (one_of HT_.out (by kernel_rfl)) (by decide) (fun K hK => ?_)
                  refine goes_ Try.func81 (by kernel_rfl) rfl #[.slice A252_0 (rd_L1 x11_180 x16_5).length c252_0] (by rfl) rfl rfl am_ ?_
                  with_reducible refine (spec_l22Sorted.calls k5 _ _ (rd_L1 x11_180 x16_5) t253 _ ?side1 ?side2 A200.out).mono ?_
                  (case side1 => exact up_ HR252_0.out)
                  (case side2 => exact HC252_0.out)
                  rintro e w204 ⟨v254, rfl, ho0, hb⟩
                  have HS3_ := (hb.cell (World.block_lt_of_cell? _ _ (hHeld.2.2.2))).trans (hHeld.2.2.2)
                  refine ⟨_, rfl, ?_⟩
                  have n0_ := Aside0.mk (Kd.S_elder' (up_ HO_11.out) (Kd.R_base ho0) hb)
                  have n1_ := Aside0.mk (Kd.S_elder' (up_ HO_209001.out) (Kd.R_base ho0) hb)
                  have n2_ := Aside0.mk (Kd.R_elder' (up_ HL251_0.out) (Kd.R_base ho0) hb)
                  have n3_ := Aside0.mk (Kd.R_elder' (up_ HL252_0.out) (Kd.R_base ho0) hb)
                  have n4_ := Aside0.mk (Kd.R_lower (Kd.R_new' (Kd.R_new' ho0 (Kd.R_lt (up_ HL251_0.out))) (Kd.R_lt (up_ HL252_0.out))) (below_size (up_ HB.out)))
                  have n5_ := bb_ BK200 hb
                  have n6_ := bb_ BK201 hb
                  have n7_ := bb_ BK202 hb
                  have n8_ := bb_ BK208 hb
                  have n9_ := Aside0.mk (Kd.C_below (up_ HR251_0.out) hb)
                  have n10_ := Aside0.mk (Kd.C_below (up_ HR252_0.out) hb)
                  have n11_ := bs_ HB hb
                  clear HO_11
                  clear HO_209001
                  clear HL251_0
                  clear HL252_0
                  clear BK200
                  clear BK201
                  clear BK202
                  clear BK208
                  clear HR251_0
                  clear HR252_0
                  clear HB
                  have HO_11 := n0_
                  have HO_209001 := n1_
                  have HL251_0 := n2_
                  have HL252_0 := n3_
                  have HO255 := n4_
                  have BK200 := n5_
                  have BK201 := n6_
                  have BK202 := n7_
                  have BK208 := n8_
                  have HR251_0 := n9_
                  have HR252_0 := n10_
                  have HB := n11_
                  clear n0_ n1_ n2_ n3_ n4_ n5_ n6_ n7_ n8_ n9_ n10_ n11_
                  (try clear hb)
                  (try clear hb2)
                  (try clear hk)
                  (try clear hi)
                  (try clear ho0)
                  obtain ⟨Ao206, co206, eo206⟩ := Kd.R_slice HO255.out
                  (first | subst eo206 | (injection eo206 with f1_ f2_ f3_; have f4_ := f1_.symm; have f5_ := f3_.symm; clear f1_ f2_ f3_; subst f4_; subst f5_))
                  refine hK.out _ _ ⟨(blk_cell BK208.out 0).trans rfl, (blk_cell BK208.out 1).trans rfl, (blk_cell BK208.out 2).trans rfl, HS3_⟩ (fun hHeld => ?_)
                  clear hK K
                  refine nm_ ?_
                  refine one_ (i := 7) (N := some 159) #[true, true, true, true, true, true, true, true, false, false, false] rfl rfl (one_of HT_.out (by kernel_rfl)) (by decide) (fun K hK => ?_)
                  refine value_ (w1 := ?_) (v := ?_) (by rfl) rfl ?_ ?_
                  rotate_left 2
                  ·go_simp
                   constructor
                   ·rfl
                   ·rfl
                  refine hK.out _ _ ⟨(blk_cell (blk_alloc BK208.out _) 0).trans rfl, (blk_cell (blk_alloc BK208.out _) 1).trans rfl, (blk_cell (blk_alloc BK208.out _) 2).trans rfl, (World.cell?_alloc_lt _ _ _ (World.block_lt_of_cell? _ _ (hHeld.2.2.2))).trans (hHeld.2.2.2)⟩ (fun hHeld => ?_)
                  clear hK K
                  refine nm_ ?_
                  refine last_ (i := 8) (N := some 160) #[true, true, true, true, true, true, true, true, true, false, false] rfl rfl (one_of HT_.out (by kernel_rfl)) (by decide) (fun K hK => ?_)
                  refine Kd.S_append_step (Kd.slice 3 (Kd.int .i64)) (w0 := w) w.heap.size (by rfl) (.tmp 153) (.tmp 159) 22 25 (.slice none 0 0) 24 rfl Try.underlying22 info25 rfl (by decide) (by omega) u209001 x209001_5 t253 [.slice Ao206 t253.length co206] (fun k_ => some k_ ≠ (.slice (some ad251) x11_180.length co202 : Value).ownBlock) (fun k_ => some k_ = (.slice Ao206 t253.length co206 : Value).ownBlock) rfl rfl ?aP (fun k_ hk_ => ((Kd.R_mono (ok' := fun k_ => ((fun k_ => some k_ ≠ (.slice (some ad251) x11_180.length co202 : Value).ownBlock)) k_ ∧ some k_ ≠ (u209001 : Value).ownBlock) (Kd.R_apart' (Kd.R_apart' (HO255.out) (Kd.S_typed HO_11.out) (by decide)) (Kd.S_typed HO_209001.out) (by decide)) (fun k_ hk => ⟨hk.1.2, hk.2⟩))).1 k_ hk_.symm) ?aF ?aO ?aB ?aS ?aL ?_
                  (case aP => exact Kd.M_row (Kd.R_mono (Kd.R_tight rfl (Kd.R_mono (ok' := fun k_ => ((fun k_ => some k_ ≠ (.slice (some ad251) x11_180.length co202 : Value).ownBlock)) k_ ∧ some k_ ≠ (u209001 : Value).ownBlock) (Kd.R_apart' (Kd.R_apart' (HO255.out) (Kd.S_typed HO_11.out) (by decide)) (Kd.S_typed HO_209001.out) (by decide)) (fun k_ hk => ⟨hk.1.2, hk.2⟩))) (fun _ h_ => h_)))
                  (case aB => exact (up_ HB.out))
                  (case aF => exact (fun k_ hk => Kd.fresh' (Kd.S_lt (up_ HO_11.out)) k_ hk))
                  (case aO => exact (by (with_reducible repeat (first | apply Kd.S_alloc | apply Kd.S_drewN | apply Kd.S_drew)); exact Kd.S_mono HO_209001.out (fun k_ hk => ⟨hk.1, fun e_ => hk.2 e_⟩)))
                  (case aS => exact (below_size (up_ HB.out)))
                  (case aL => have := LMc201.out; omega)
                  intro v257 w205 ho hb hg hat
                  rw [← Ny256.out] at ho
                  have n0_ := Aside0.mk (Kd.S_after (ok := (fun k_ => some k_ ≠ (.slice Ao206 t253.length co206 : Value).ownBlock)) (by (with_reducible repeat (first | apply Kd.S_alloc | apply Kd.S_drewN | apply Kd.S_drew)); exact Kd.S_mono HO_11.out (fun _ hk => ⟨hk.2, hk.1⟩)) hg hat)
                  have n1_ := Aside0.mk (blk_grown (g := gb200) (o := .cells #[.int .i64 a0_0, .slice A0_1 l0_1.length c0_1, .int .i64 a0_2] 30 (0, 0)) (up_ BK200.out) hg (Kd.S_ne HO_209001.out BK200.out (by decide)))
                  have n2_ := Aside0.mk (blk_grown (g := gb201) (o := .cells #[.slice A1_0 l1_0.length c1_0] 34 (0, 0)) (up_ BK201.out) hg (Kd.S_ne HO_209001.out BK201.out (by decide)))
                  have n3_ := Aside0.mk (blk_grown (g := gb202) (o := .cells #[.int .i64 0, .slice none 0 0, .int .i64 0] 30 (0, 0)) (up_ BK202.out) hg (Kd.S_ne HO_209001.out BK202.out (by decide)))
                  have n4_ := Aside0.mk (blk_grown (g := gb208) (o := .cells #[.int .i64 t203, u209001, .int .i64 t207] 30 (0, 0)) (up_ BK208.out) hg (Kd.S_ne HO_209001.out BK208.out (by decide)))
                  have n5_ := Aside0.mk (Kd.R_after (ok := (fun k_ => some k_ ≠ (.slice (some ad251) x11_180.length co202 : Value).ownBlock ∧ some k_ ≠ (.slice Ao206 t253.length co206 : Value).ownBlock)) (by (with_reducible repeat (first | apply Kd.R_alloc | apply Kd.R_drewN | apply Kd.R_drew)); exact Kd.R_mono HL251_0.out (fun _ hk => ⟨⟨hk.1.2, hk.2⟩, hk.1.1⟩)) hg hat)
                  have n6_ := Aside0.mk (Kd.R_after (ok := (fun k_ => some k_ ≠ (.slice (some ad251) x11_180.length co202 : Value).ownBlock ∧ some k_ ≠ (.slice Ao206 t253.length co206 : Value).ownBlock)) (by (with_reducible repeat (first | apply Kd.R_alloc | apply Kd.R_drewN | apply Kd.R_drew)); exact Kd.R_mono HL252_0.out (fun _ hk => ⟨⟨hk.1.2, hk.2⟩, hk.1.1⟩)) hg hat)
                  have n7_ := Aside0.mk (hb)
                  have n8_ := Aside0.mk (ho)
                  clear HO_11
                  clear BK200
                  clear BK201
                  clear BK202
                  clear BK208
                  clear HL251_0
                  clear HL252_0
                  clear HB
                  clear HO_209001
                  clear HO255
                  have HO_11 := n0_
                  have BK200 := n1_
                  have BK201 := n2_
                  have BK202 := n3_
                  have BK208 := n4_
                  have HL251_0 := n5_
                  have HL252_0 := n6_
                  have HB := n7_
                  have HO258 := n8_
                  clear n0_ n1_ n2_ n3_ n4_ n5_ n6_ n7_ n8_
                  clear ho hb hg hat
                  obtain ⟨Ao207, co207, eo207⟩ := Kd.S_slice HO258.out
                  (first | subst eo207 | (injection eo207 with f1_ f2_ f3_; have f4_ := f1_.symm; have f5_ := f3_.symm; clear f1_ f2_ f3_; subst f4_; subst f5_))
                  refine hK.out _ _ ?_
                  clear hK K
                  refine nm_ ?_
                  refine pu_ 9 (some 161) ?_
                  refine last_ (i := 10) (N := none) #[true, true, true, true, true, true, true, true, true, true, true] rfl rfl (one_of HT_.out (by kernel_rfl)) (by decide) (fun K hK => ?_)
                  have hs208 : w205.cell? ⟨gb208, 1, none⟩ = some (u209001) := (blk_cell BK208.out 1).trans rfl
                  have hfs208 := blk_frozen BK208.out 1
                  have hns208_0 := NB200_208.out
                  have hns208_1 := NB201_208.out
                  have hns208_2 := NB202_208.out
                  have hms208_0 := NB208_200.out
                  have hms208_1 := NB208_201.out
                  have hms208_2 := NB208_202.out
                  refine skip_ (w1 := ?_) (by rfl) rfl ?_ ?_
                  rotate_left
                  ·go_simp
                   rfl
                  refine hK.out _ _ ?_
                  clear hK K
                  refine done_ (done_of HT_.out (by kernel_rfl)) ?_
                  try go_wp2
                  go_roundg k5
                  case measure => have := HJ3.out; have := HK2.out; have := HK3.out; have := HJ180.out; have := HK5.out; omega
                  case rel => exact ⟨(wrap64 (x16_5 + 1)), (y256), (.slice Ao207 y256.length co207), rs_, H', ⟨by have := HJ3.out; have := HK2.out; have := HK3.out; have := HJ180.out; have := HK5.out; omega⟩, ⟨by (with_reducible repeat (first | apply Kd.S_alloc | apply Kd.S_drewN | apply Kd.S_drew)); exact Kd.S_mono (Kd.S_far (p := ⟨gb208, 1, none⟩) (Kd.S_types HO_11.out BK208.out (by decide)) (fun _ hk => hk.2) (.slice Ao207 y256.length co207)) (fun _ hk => hk.1.2)⟩, ⟨by (with_reducible repeat (first | apply Kd.S_alloc | apply Kd.S_drewN | apply Kd.S_drew)); exact Kd.S_mono (Kd.S_far (p := ⟨gb208, 1, none⟩) (Kd.S_types HO258.out BK208.out (by decide)) (fun _ hk => hk.2) (.slice Ao207 y256.length co207)) (fun _ hk => hk.1)⟩, ⟨by (with_reducible repeat (first | refine blk_drewN ?_ _ | refine blk_drew ?_ | refine blk_alloc ?_ _)); refine blk_far ?_ NB200_208.out _; (with_reducible repeat (first | refine blk_drewN ?_ _ | refine blk_drew ?_ | refine blk_alloc ?_ _)); exact BK200.out⟩, ⟨by (with_reducible repeat (first | refine blk_drewN ?_ _ | refine blk_drew ?_ | refine blk_alloc ?_ _)); refine blk_far ?_ NB201_208.out _; (with_reducible repeat (first | refine blk_drewN ?_ _ | refine blk_drew ?_ | refine blk_alloc ?_ _)); exact BK201.out⟩, ⟨by (with_reducible repeat (first | refine blk_drewN ?_ _ | refine blk_drew ?_ | refine blk_alloc ?_ _)); refine blk_far ?_ NB202_208.out _; (with_reducible repeat (first | refine blk_drewN ?_ _ | refine blk_drew ?_ | refine blk_alloc ?_ _)); exact BK202.out⟩, ⟨by (with_reducible repeat (first | refine blk_drewN ?_ _ | refine blk_drew ?_ | refine blk_alloc ?_ _)); refine blk_put (cs := #[.int .i64 t203, u209001, .int .i64 t207]) ?_ 1 _ rfl; (with_reducible repeat (first | refine blk_drewN ?_ _ | refine blk_drew ?_ | refine blk_alloc ?_ _)); exact BK208.out⟩, ⟨up_ HB.out⟩⟩
                 ·rw [if_neg c201] at H
                  exact absurd H (by simp)
                ·rw [if_neg c199] at H
                 have c199b0 : decide (0 < ((rd_L1 x11_180 x16_5).length : Int)) = false := decide_eq_false c199
                 have c199b1 : decide (0 < (rd_L1 x11_180 x16_5).length) = false := decide_eq_false (by omega)
                 clear c199
                 have H' := Aside0.mk H
                 clear H
                 obtain ⟨Ao209, co209, eo209⟩ := Kd.S_slice HO_11.out
                 subst eo209
                 have p251 : 0 ≤ (x16_5 : Int) := od_
                 have q251 : x16_5 < (x11_180.length : Int) := od_
                 obtain ⟨ad251, A251_0, c251_0, e251, hx251_0, hl251_0, hi251_0⟩ := at_L1 (Kd.S_reads' HO_11.out).2.2 x16_5 p251 q251
                 cases e251
                 obtain ⟨ce251, hce251, hMe251, hcc251⟩ := Kd.S_get HO_11.out [] x16_5 p251 (by first | exact q251 | exact od_ | (have e_ := (Kd.S_reads' HO_11.out).1; omega))
                 obtain ⟨ve251_0, rfl, ge251_0⟩ := hMe251
                 have hv251_0 := hcc251 0 _ rfl
                 rw [Nat.add_zero, show ((Kd.slice 3 (Kd.int .i64))).sz = 1 from rfl, Nat.mul_one] at hv251_0
                 replace hv251_0 := Option.some.inj (hv251_0.symm.trans hx251_0)
                 rw [hv251_0] at ge251_0
                 have HL251_0 := Aside0.mk (show Kd.R (Kd.int .i64) 3 _ _ _ _ (rd_L1 x11_180 x16_5) from ge251_0)
                 clear hv251_0 ge251_0
                 clear hcc251 hce251
                 have HR251_0 := Aside0.mk hi251_0
                 have HC251_0 := Aside0.mk hl251_0
                 clear hi251_0 hl251_0
                 replace p251 := eq_true p251
                 replace q251 := eq_true q251
                 go_wp2
                 go_roundg k5
                 case measure => have := HJ3.out; have := HK2.out; have := HK3.out; have := HJ180.out; have := HK5.out; omega
                 case rel => exact ⟨(wrap64 (x16_5 + 1)), (x209001_5), (u209001), rs_, H', ⟨by have := HJ3.out; have := HK2.out; have := HK3.out; have := HJ180.out; have := HK5.out; omega⟩, ⟨up_ HO_11.out⟩, ⟨up_ HO_209001.out⟩, ⟨up_ BK200.out⟩, ⟨up_ BK201.out⟩, ⟨up_ BK202.out⟩, ⟨up_ BK208.out⟩, ⟨up_ HB.out⟩⟩
               ·simp only [Option.some.injEq, Prod.mk.injEq] at H
                obtain ⟨rfl, rfl, rfl, rfl⟩ := H
                obtain ⟨Ao210, co210, eo210⟩ := Kd.S_slice HO_11.out
                subst eo210
                have hnb211 := NB200_201.out
                have hnc211 := NB201_200.out
                have hnb212 := NB200_202.out
                have hnc212 := NB202_200.out
                have hnb213 := NB200_208.out
                have hnc213 := NB208_200.out
                obtain ⟨hcz214_0, hcz214_1, hcz214_2⟩ := c3_ BK200
                have hfz214_0 := blk_frozen BK200.out 0
                have hfz214_1 := blk_frozen BK200.out 1
                have hfz214_2 := blk_frozen BK200.out 2
                have hnb215 := NB208_201.out
                have hnc215 := NB201_208.out
                have hnb216 := NB208_202.out
                have hnc216 := NB202_208.out
                obtain ⟨hcz217_0, hcz217_1, hcz217_2⟩ := c3_ BK208
                have hfz217_0 := blk_frozen BK208.out 0
                have hfz217_1 := blk_frozen BK208.out 1
                have hfz217_2 := blk_frozen BK208.out 2
                have hnb218 := NB202_201.out
                have hnc218 := NB201_202.out
                obtain ⟨hcz219_0, hcz219_1, hcz219_2⟩ := c3_ BK202
                have hfz219_0 := blk_frozen BK202.out 0
                have hfz219_1 := blk_frozen BK202.out 1
                have hfz219_2 := blk_frozen BK202.out 2
                obtain ⟨Ao220, co220, eo220⟩ := Kd.S_slice HO_209001.out
                subst eo220
                go_wp2
                refine bodyPost_ret (results_ct rfl _ _ gb202 30 #[.int .i64 t203, .slice Ao220 x209001_5.length co220, .int .i64 (wrap64 (a0_2 + 1))] (0, 0) _ rfl (by (with_reducible repeat (first | refine blk_drewN ?_ _ | refine blk_drew ?_ | refine blk_alloc ?_ _)); refine blk_put (cs := #[.int .i64 t203, .slice Ao220 x209001_5.length co220, .int .i64 0]) ?_ 2 _ rfl; (with_reducible repeat (first | refine blk_drewN ?_ _ | refine blk_drew ?_ | refine blk_alloc ?_ _)); refine blk_put (cs := #[.int .i64 t203, .slice none 0 0, .int .i64 0]) ?_ 1 _ rfl; (with_reducible repeat (first | refine blk_drewN ?_ _ | refine blk_drew ?_ | refine blk_alloc ?_ _)); refine blk_put (cs := #[.int .i64 0, .slice none 0 0, .int .i64 0]) ?_ 0 _ rfl; (with_reducible repeat (first | refine blk_drewN ?_ _ | refine blk_drew ?_ | refine blk_alloc ?_ _)); refine blk_far ?_ NB202_208.out _; (with_reducible repeat (first | refine blk_drewN ?_ _ | refine blk_drew ?_ | refine blk_alloc ?_ _)); exact BK202.out) Try.underlying30 rfl (by kernel_rfl)) rfl ?_
                exact ⟨_, re_, by (with_reducible repeat (first | apply Kd.S_alloc | apply Kd.S_drewN | apply Kd.S_drew)); exact Kd.S_mono (Kd.S_far (p := ⟨gb202, 2, none⟩) (Kd.S_far (p := ⟨gb202, 1, none⟩) (Kd.S_far (p := ⟨gb202, 0, none⟩) (Kd.S_far (p := ⟨gb208, 2, none⟩) (Kd.S_types (Kd.S_types HO_209001.out BK208.out (by decide)) BK202.out (by decide)) (fun _ hk => hk.1.2) (.int .i64 (wrap64 (a0_2 + 1)))) (fun _ hk => hk.2) (.int .i64 t203)) (fun _ hk => hk.2) (.slice Ao220 x209001_5.length co220)) (fun _ hk => hk.2) (.int .i64 (wrap64 (a0_2 + 1)))) (fun _ hk => trivial), up_ HB.out⟩

end Go.Proofs.Ytkddpilambnicaa.PFnExactHearAll
