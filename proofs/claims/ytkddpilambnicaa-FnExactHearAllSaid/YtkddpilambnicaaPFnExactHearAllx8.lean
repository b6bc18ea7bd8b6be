/- Walks of Go functions that the law FnExactHearAll uses: written by this session's program out of the kit's printer; each shows that a call comes to the answers of the Lean function beside it. Conditions: each contract's own. -/
import Derived.Test.YtkddpilambnicaaPFnExactHearAllx0
import Derived.Test.YtkddpilambnicaaPFnExactHearAllx3
import Derived.Test.YtkddpilambnicaaPFnExactHearAllx6
import Derived.Test.YtkddpilambnicaaPFnExactHearAllx7
namespace Go.Proofs.Ytkddpilambnicaa.PFnExactHearAll
open Go.RowKit Go.Proofs.YtkddpilambnicaaW.PrintWords Go.Proofs.YtkddpilambnicaaW.PrintLast Go.Proofs.YtkddpilambnicaaW.PrintMore Go.Proofs.Ytkddpilambnicaa.Mac Go.Proofs.Ytkddpilambnicaa.Law
attribute [local go_sem] max2_int min2_int max_two min_two max_three min_three max_four min_four   -- for this text's walks alone
set_option linter.unusedVariables false
set_option linter.unusedSimpArgs false

/-! ### spec_HearAll: function 24 -/
mutual
def spec_HearAll.l0 : Nat → List (S34) → Int → Int → Int → Int → List (List Int) → Int → Int → List (List Int) → Int → Option (Int × (List (List Int)) × Int × Int)
 | 0, _, _, _, _, _, _, _, _, _, _ => none
 | k + 1, x1, x2, x9, x10, x263000, x263001, x263002, x270000, x270001, x270002 => if x10 < x2 then (if x2 ≤ 30 then ((spec_AreRows.f k x1 x263000).bind fun t270 => (spec_HearAll.j1 k x1 x2 x9 x10 t270 x263000 x263001 x263002 x270000 x270001 x270002)) else (spec_HearAll.j1 k x1 x2 x9 x10 false x263000 x263001 x263002 x270000 x270001 x270002)) else (spec_HearAll.j1 k x1 x2 x9 x10 false x263000 x263001 x263002 x270000 x270001 x270002)
def spec_HearAll.j1 : Nat → List (S34) → Int → Int → Int → Bool → Int → List (List Int) → Int → Int → List (List Int) → Int → Option (Int × (List (List Int)) × Int × Int)
 | 0, _, _, _, _, _, _, _, _, _, _, _ => none
 | k + 1, x1, x2, x9, x10, x29, x263000, x263001, x263002, x270000, x270001, x270002 => if x29 = true then (spec_HearAll.l1 k x1 x2 x9 x10 false 0 x263000 x263001 x263002 x270000 x270001 x270002) else (some (x270000, x270001, x270002, x9))
def spec_HearAll.l1 : Nat → List (S34) → Int → Int → Int → Bool → Int → Int → List (List Int) → Int → Int → List (List Int) → Int → Option (Int × (List (List Int)) × Int × Int)
 | 0, _, _, _, _, _, _, _, _, _, _, _, _ => none
 | k + 1, x1, x2, x9, x10, x11, x12, x263000, x263001, x263002, x270000, x270001, x270002 => if x12 < (x1.length : Int) then (if 0 ≤ x12 then ((spec_HearRow.f k x270000 x270001 x270002 ((rd_T34 x1 x12).f0)).bind fun bt272 => (if bt272.2.2.2 = true then (spec_HearAll.l1 k x1 x2 x9 x10 true (wrap64 (x12 + 1)) x263000 x263001 x263002 bt272.1 bt272.2.1 bt272.2.2.1) else (spec_HearAll.l1 k x1 x2 x9 x10 x11 (wrap64 (x12 + 1)) x263000 x263001 x263002 x270000 x270001 x270002))) else (none)) else (if x11 = true then (spec_HearAll.l0 k x1 x2 (wrap64 (x9 + 1)) (wrap64 (x10 + 1)) x263000 x263001 x263002 x270000 x270001 x270002) else (some (x270000, x270001, x270002, x9)))
end
def spec_HearAll.f (k : Nat) (a0_0 : Int) (l0_1 : List (List Int)) (a0_2 : Int) (l1 : List (S34)) (a2 : Int) : Option (Int × (List (List Int)) × Int × Int) := (spec_l22Copy.f k a0_0 l0_1 a0_2).bind fun bt264 => (spec_HearAll.l0 k l1 a2 0 0 a0_0 l0_1 a0_2 bt264.1 bt264.2.1 bt264.2.2)
def spec_HearAll.T10 : Bool × List (List Nat × List Nat) := (true, [([], []), ([], []), ([], []), ([1, 2], [1, 2]), ([3], [3]), ([0, 4], [0, 4]), ([5], [5]), ([6], [6]), ([6], [6]), ([], []), ([9, 7, 5, 0, 1, 2, 3, 4, 5, 6, 7, 9], [7, 9]), ([8, 10, 0, 1, 2, 3, 4, 5, 6, 7, 8, 9, 10], [8])])
def spec_HearAll.B10 : List Nat := [0, 0, 0, 6, 14, 31, 63, 127, 127, 0, 767, 2047]
theorem spec_HearAll.tab10 : rtab .any (opsOf Try.f24 10) = spec_HearAll.T10 := by kernel_rfl
theorem spec_HearAll.bits10 : waitsOk spec_HearAll.T10.2 spec_HearAll.B10 = true := by kernel_rfl
set_option maxHeartbeats 8000000 in
set_option maxRecDepth 100000 in
theorem spec_HearAll.calls (k : Nat) (a0_0 : Int) (A0_1 : Option Addr) (c0_1 : Nat) (l0_1 : List (List Int)) (a0_2 : Int) (A1 : Option Addr) (c1 : Nat) (l1 : List (S34)) (a2 : Int) (r1 : Int) (r2 : List (List Int)) (r3 : Int) (r4 : Int) (w : World) (hr0_1 : Kd.C (Kd.slice 3 (Kd.int .i64)) w A0_1 l0_1.length l0_1) (hc0_1 : l0_1.length ≤ c0_1) (hr1 : Kd.C k34 w A1 l1.length l1) (hc1 : l1.length ≤ c1) (h : spec_HearAll.f k a0_0 l0_1 a0_2 l1 a2 = some (r1, r2, r3, r4)) :
  Calls Try.prog 24 #[.agg #[.int .i64 a0_0, .slice A0_1 l0_1.length c0_1, .int .i64 a0_2], .slice A1 l1.length c1, .int .i64 a2] w fun e w' => ∃ v1_ : Value, e = .returned (.tuple #[.agg #[.int .i64 r1, v1_, .int .i64 r3], .int .i64 r4]) ∧ Kd.S (Kd.slice 3 (Kd.int .i64)) 25 w' w.heap.size (fun _ => True) v1_ r2 ∧ Below w.heap.size w w' := by
 have hu30 := Try.underlying30
 have hu34 := Try.underlying34
 have HR0_1 := Aside0.mk hr0_1
 have HC0_1 := Aside0.mk hc0_1
 clear hr0_1 hc0_1
 have HR1 := Aside0.mk hr1
 have HC1 := Aside0.mk hc1
 clear hr1 hc1
 have HB := Aside0.mk (Below.refl w.heap.size w)
 have H : ((spec_l22Copy.f k a0_0 l0_1 a0_2).bind fun bt264 => (spec_HearAll.l0 k l1 a2 0 0 a0_0 l0_1 a0_2 bt264.1 bt264.2.1 bt264.2.2)) = some (r1, r2, r3, r4) := h
 clear h
 replace H := Option.bind_eq_some_iff.mp H
 obtain ⟨⟨t264, t265, t268⟩, A40, H⟩ := H
 replace H : (spec_HearAll.l0 k l1 a2 0 0 a0_0 l0_1 a0_2 t264 t265 t268) = some (r1, r2, r3, r4) := H
 have A4 := Aside0.mk A40
 clear A40
 have H' := Aside0.mk H
 clear H
 go_enter Try.func24, Try.ntmps24
 go_wp2_with (first | ((refine gd_ 3 ?_); refine bx_ 3 #[.int .i64 a0_0, .slice A0_1 l0_1.length c0_1, .int .i64 a0_2] 30 ?_; intro gb262 hg w5 hbox hb; have BK262 := Aside0.mk (hbox); have GW262 := gw_ HB hg; have GE262 := gw_ HB hg; replace HB := bs_ HB hb; clear hb hbox hg) | ((refine gd_ 6 ?_); refine bx_ 6 #[.int .i64 0, .slice none 0 0, .int .i64 0] 30 ?_; intro gb263 hg w6 hbox hb; have BK263 := Aside0.mk (hbox); have GW263 := gw_ HB hg; have GE263 := gw_ HB hg; replace HB := bs_ HB hb; have NB262_263 := Aside0.mk ((by rw [hg]; exact Nat.ne_of_lt (blk_lt (g := gb262) (o := .cells #[.int .i64 a0_0, .slice A0_1 l0_1.length c0_1, .int .i64 a0_2] 30 (0, 0)) (up_ BK262.out)) : gb262 ≠ gb263)); have NB263_262 := Aside0.mk ((by rw [hg]; exact Nat.ne_of_gt (blk_lt (g := gb262) (o := .cells #[.int .i64 a0_0, .slice A0_1 l0_1.length c0_1, .int .i64 a0_2] 30 (0, 0)) (up_ BK262.out)) : gb263 ≠ gb262)); replace BK262 := bb_ BK262 hb; clear hb hbox hg; have hnb7 := NB262_263.out; have hnc7 := NB263_262.out; obtain ⟨hcz8_0, hcz8_1, hcz8_2⟩ := c3_ BK262; have hfz8_0 := blk_frozen BK262.out 0; have hfz8_1 := blk_frozen BK262.out 1; have hfz8_2 := blk_frozen BK262.out 2) | ((refine gc_ 76 ?_); refine gl_ (some 16) Try.func76 (spec_l22Copy.calls k a0_0 _ _ l0_1 a0_2 t264 t265 t268 _ (Kd.C_below HR0_1.out (up_ HB.out)) HC0_1.out A4.out) ?_; rintro e w9 ⟨v266, rfl, ho0, hb⟩; refine ⟨_, rfl, ?_⟩; have HO267 := Aside0.mk (Kd.S_lower ho0 (below_size (up_ HB.out))); replace BK262 := bb_ BK262 hb; replace BK263 := bb_ BK263 hb; replace HB := bs_ HB hb; (try clear hb); (try clear hb2); (try clear hk); (try clear hi); (try clear ho0)) | ((refine gd_ 8 ?_); refine bx_ 8 #[.int .i64 0, .slice none 0 0, .int .i64 0] 30 ?_; intro gb269 hg w10 hbox hb; replace HO267 := Aside0.mk (Kd.S_below (up_ HO267.out) hb); have BK269 := Aside0.mk (hbox); have GW269 := gw_ HB hg; have GE269 := gw_ HB hg; replace HB := bs_ HB hb; have NB262_269 := Aside0.mk ((by rw [hg]; exact Nat.ne_of_lt (blk_lt (g := gb262) (o := .cells #[.int .i64 a0_0, .slice A0_1 l0_1.length c0_1, .int .i64 a0_2] 30 (0, 0)) (up_ BK262.out)) : gb262 ≠ gb269)); have NB269_262 := Aside0.mk ((by rw [hg]; exact Nat.ne_of_gt (blk_lt (g := gb262) (o := .cells #[.int .i64 a0_0, .slice A0_1 l0_1.length c0_1, .int .i64 a0_2] 30 (0, 0)) (up_ BK262.out)) : gb269 ≠ gb262)); replace BK262 := bb_ BK262 hb; have NB263_269 := Aside0.mk ((by rw [hg]; exact Nat.ne_of_lt (blk_lt (g := gb263) (o := .cells #[.int .i64 0, .slice none 0 0, .int .i64 0] 30 (0, 0)) (up_ BK263.out)) : gb263 ≠ gb269)); have NB269_263 := Aside0.mk ((by rw [hg]; exact Nat.ne_of_gt (blk_lt (g := gb263) (o := .cells #[.int .i64 0, .slice none 0 0, .int .i64 0] 30 (0, 0)) (up_ BK263.out)) : gb269 ≠ gb263)); replace BK263 := bb_ BK263 hb; clear hb hbox hg; have hnb11 := NB269_262.out; have hnc11 := NB262_269.out; have hnb12 := NB269_263.out; have hnc12 := NB263_269.out; obtain ⟨hcz13_0, hcz13_1, hcz13_2⟩ := c3_ BK269; have hfz13_0 := blk_frozen BK269.out 0; have hfz13_1 := blk_frozen BK269.out 1; have hfz13_2 := blk_frozen BK269.out 2; obtain ⟨Ao14, co14, eo14⟩ := Kd.S_slice HO267.out; subst eo14))
 go_loopg [9, 10] k (fun kq v9 v10 w' => ∃ (x9_1 : Int) (x10_1 : Int) (x264000_1 : Int) (x264002_1 : Int) (x270000_1 : Int) (x270001_1 : List (List Int)) (x270002_1 : Int) (u270001 : Value), v9 = .int .i64 x9_1 ∧ v10 = .int .i64 x10_1 ∧ Aside0 (spec_HearAll.l0 kq l1 a2 x9_1 x10_1 a0_0 l0_1 a0_2 x270000_1 x270001_1 x270002_1 = some (r1, r2, r3, r4)) ∧ Aside0 (kq ≤ k) ∧ Aside0 (Kd.S (Kd.slice 3 (Kd.int .i64)) 25 w' w.heap.size (fun _ => True) u270001 x270001_1) ∧ Aside0 (w'.heap[gb262]? = some (.cells #[.int .i64 a0_0, (.slice A0_1 l0_1.length c0_1), .int .i64 a0_2] 30 (0, 0))) ∧ Aside0 (w'.heap[gb263]? = some (.cells #[.int .i64 x264000_1, (.slice none 0 0), .int .i64 x264002_1] 30 (0, 0))) ∧ Aside0 (w'.heap[gb269]? = some (.cells #[.int .i64 x270000_1, u270001, .int .i64 x270002_1] 30 (0, 0))) ∧ Aside0 (Below w.heap.size w w'))
 case atStart => exact ⟨(0), (0), (0), (0), (t264), (t265), (t268), (.slice Ao14 t265.length co14), rs_, rs_, H', ⟨Nat.le_refl _⟩, ⟨by (with_reducible repeat (first | apply Kd.S_alloc | apply Kd.S_drewN | apply Kd.S_drew)); exact Kd.S_mono (Kd.S_far (p := ⟨gb269, 2, none⟩) (Kd.S_far (p := ⟨gb269, 1, none⟩) (Kd.S_far (p := ⟨gb269, 0, none⟩) (Kd.S_types HO267.out BK269.out (by decide)) (fun _ hk => hk.2) (.int .i64 t264)) (fun _ hk => hk.2) (.slice Ao14 t265.length co14)) (fun _ hk => hk.2) (.int .i64 t268)) (fun _ hk => trivial)⟩, ⟨by (with_reducible repeat (first | refine blk_drewN ?_ _ | refine blk_drew ?_ | refine blk_alloc ?_ _)); refine blk_far ?_ NB262_269.out _; (with_reducible repeat (first | refine blk_drewN ?_ _ | refine blk_drew ?_ | refine blk_alloc ?_ _)); refine blk_far ?_ NB262_269.out _; (with_reducible repeat (first | refine blk_drewN ?_ _ | refine blk_drew ?_ | refine blk_alloc ?_ _)); refine blk_far ?_ NB262_269.out _; (with_reducible repeat (first | refine blk_drewN ?_ _ | refine blk_drew ?_ | refine blk_alloc ?_ _)); exact BK262.out⟩, ⟨by (with_reducible repeat (first | refine blk_drewN ?_ _ | refine blk_drew ?_ | refine blk_alloc ?_ _)); refine blk_far ?_ NB263_269.out _; (with_reducible repeat (first | refine blk_drewN ?_ _ | refine blk_drew ?_ | refine blk_alloc ?_ _)); refine blk_far ?_ NB263_269.out _; (with_reducible repeat (first | refine blk_drewN ?_ _ | refine blk_drew ?_ | refine blk_alloc ?_ _)); refine blk_far ?_ NB263_269.out _; (with_reducible repeat (first | refine blk_drewN ?_ _ | refine blk_drew ?_ | refine blk_alloc ?_ _)); exact BK263.out⟩, ⟨by (with_reducible repeat (first | refine blk_drewN ?_ _ | refine blk_drew ?_ | refine blk_alloc ?_ _)); refine blk_put (cs := #[.int .i64 t264, .slice Ao14 t265.length co14, .int .i64 0]) ?_ 2 _ rfl; (with_reducible repeat (first | refine blk_drewN ?_ _ | refine blk_drew ?_ | refine blk_alloc ?_ _)); refine blk_put (cs := #[.int .i64 t264, .slice none 0 0, .int .i64 0]) ?_ 1 _ rfl; (with_reducible repeat (first | refine blk_drewN ?_ _ | refine blk_drew ?_ | refine blk_alloc ?_ _)); refine blk_put (cs := #[.int .i64 0, .slice none 0 0, .int .i64 0]) ?_ 0 _ rfl; (with_reducible repeat (first | refine blk_drewN ?_ _ | refine blk_drew ?_ | refine blk_alloc ?_ _)); exact BK269.out⟩, ⟨up_ HB.out⟩⟩
 case round =>
  clear H'
  try clear c1
  try clear c2
  try clear p2
  try clear c7
  try clear c11
  try clear c12
  try clear hcz13_0
  try clear hcz13_1
  try clear hcz13_2
  try clear hcz8_0
  try clear hcz8_1
  try clear hcz8_2
  try clear hfz13_0
  try clear hfz13_1
  try clear hfz13_2
  try clear hfz8_0
  try clear hfz8_1
  try clear hfz8_2
  obtain ⟨x9_1, x10_1, x264000_1, x264002_1, x270000_1, x270001_1, x270002_1, u270001, rfl, rfl, HA, HK1, HO_270001, BK262, BK263, BK269, HB⟩ := hrel
  cases gk with
  | zero => exact absurd HA.out (by simp [spec_HearAll.l0])
  | succ k1 =>
   have H := HA.out
   clear HA
   simp only [spec_HearAll.l0] at H
   have HC15 := Aside0.mk H
   clear H
   go_upto_region 4 with (fail)
   go_cut [29] (fun v29 wc => ∃ (kq : Nat) (x29_14 : Bool), v29 = .bool x29_14 ∧ Aside0 (spec_HearAll.j1 kq l1 a2 x9_1 x10_1 x29_14 a0_0 l0_1 a0_2 x270000_1 x270001_1 x270002_1 = some (r1, r2, r3, r4)) ∧ Aside0 (kq ≤ k1) ∧ Aside0 (Kd.S (Kd.slice 3 (Kd.int .i64)) 25 wc w.heap.size (fun _ => True) u270001 x270001_1) ∧ Aside0 (wc.heap[gb262]? = some (.cells #[.int .i64 a0_0, (.slice A0_1 l0_1.length c0_1), .int .i64 a0_2] 30 (0, 0))) ∧ Aside0 (wc.heap[gb263]? = some (.cells #[.int .i64 x264000_1, (.slice none 0 0), .int .i64 x264002_1] 30 (0, 0))) ∧ Aside0 (wc.heap[gb269]? = some (.cells #[.int .i64 x270000_1, u270001, .int .i64 x270002_1] 30 (0, 0))) ∧ Aside0 (Below w.heap.size w wc))
   case first =>
    have H := HC15.out
    clear HC15
    replace H := its_ H; rcases H with ⟨c16b0, H⟩ | ⟨c16b0, H⟩
    ·(first | rw [c16b0] | (simp only [i64_w, i32_w]; rw [c16b0]) | skip)
     replace H := its_ H; rcases H with ⟨c17b0, H⟩ | ⟨c17b0, H⟩
     ·replace H := Option.bind_eq_some_iff.mp H
      obtain ⟨t270, A180, H⟩ := H
      replace H : (spec_HearAll.j1 k1 l1 a2 x9_1 x10_1 t270 a0_0 l0_1 a0_2 x270000_1 x270001_1 x270002_1) = some (r1, r2, r3, r4) := H
      have A18 := Aside0.mk A180
      clear A180
      have H' := Aside0.mk H
      clear H
      have hnb19 := NB262_263.out
      have hnc19 := NB263_262.out
      have hnb20 := NB262_269.out
      have hnc20 := NB269_262.out
      obtain ⟨hcz21_0, hcz21_1, hcz21_2⟩ := c3_ BK262
      have hfz21_0 := blk_frozen BK262.out 0
      have hfz21_1 := blk_frozen BK262.out 1
      have hfz21_2 := blk_frozen BK262.out 2
      go_wp2_with (first | (go_at_call 93; (with_reducible refine (spec_AreRows.calls k1 _ _ l1 a0_0 t270 _ (Kd.C_below HR1.out (up_ HB.out)) HC1.out A18.out).mono ?_); rintro e w22 ⟨rfl, hb⟩; replace HO_270001 := Aside0.mk (Kd.S_below (up_ HO_270001.out) hb); replace BK262 := bb_ BK262 hb; replace BK263 := bb_ BK263 hb; replace BK269 := bb_ BK269 hb; replace HB := bs_ HB hb; (try clear hb); (try clear hb2); (try clear hk); (try clear hi)))
      go_meet
      case rel => exact ⟨_, (t270), rs_, H', ⟨by have := HK1.out; first | omega | exact Nat.le_refl _⟩, ⟨up_ HO_270001.out⟩, ⟨up_ BK262.out⟩, ⟨up_ BK263.out⟩, ⟨up_ BK269.out⟩, ⟨up_ HB.out⟩⟩
     ·have H' := Aside0.mk H
      clear H
      go_wp2
      go_meet
      case rel => exact ⟨_, (false), rs_, H', ⟨by have := HK1.out; first | omega | exact Nat.le_refl _⟩, ⟨up_ HO_270001.out⟩, ⟨up_ BK262.out⟩, ⟨up_ BK263.out⟩, ⟨up_ BK269.out⟩, ⟨up_ HB.out⟩⟩
    ·(first | rw [c16b0] | (simp only [i64_w, i32_w]; rw [c16b0]) | skip)
     have H' := Aside0.mk H
     clear H
     go_wp2
     go_meet
     case rel => exact ⟨_, (false), rs_, H', ⟨by have := HK1.out; first | omega | exact Nat.le_refl _⟩, ⟨up_ HO_270001.out⟩, ⟨up_ BK262.out⟩, ⟨up_ BK263.out⟩, ⟨up_ BK269.out⟩, ⟨up_ HB.out⟩⟩
   case rest =>
    clear HC15
    try clear c1
    try clear c2
    try clear p2
    try clear c7
    try clear c11
    try clear c12
    try clear c16
    try clear c16b0
    try clear c17
    try clear c17b0
    try clear c19
    try clear c20
    try clear hcz13_0
    try clear hcz13_1
    try clear hcz13_2
    try clear hcz21_0
    try clear hcz21_1
    try clear hcz21_2
    try clear hcz8_0
    try clear hcz8_1
    try clear hcz8_2
    try clear hfz13_0
    try clear hfz13_1
    try clear hfz13_2
    try clear hfz21_0
    try clear hfz21_1
    try clear hfz21_2
    try clear hfz8_0
    try clear hfz8_1
    try clear hfz8_2
    try clear p2
    obtain ⟨kq, x29_14, rfl, HA, HJ14, HO_270001, BK262, BK263, BK269, HB⟩ := hcut
    cases kq with
    | zero => exact absurd HA.out (by simp [spec_HearAll.j1])
    | succ kj14 =>
     have H := HA.out
     clear HA
     simp only [spec_HearAll.j1] at H
     replace H := itb_ H; rcases H with ⟨rfl, H⟩ | ⟨rfl, H⟩
     ·have H' := Aside0.mk H
      clear H
      go_wp2
      go_loopg [11, 12] kj14 (fun kq v11 v12 w' => ∃ (x11_3 : Bool) (x12_3 : Int) (x270000_3 : Int) (x270001_3 : List (List Int)) (x270002_3 : Int) (u270001 : Value), v11 = .bool x11_3 ∧ v12 = .int .i64 x12_3 ∧ Aside0 (spec_HearAll.l1 kq l1 a2 x9_1 x10_1 x11_3 x12_3 a0_0 l0_1 a0_2 x270000_3 x270001_3 x270002_3 = some (r1, r2, r3, r4)) ∧ Aside0 (kq ≤ kj14) ∧ Aside0 (Kd.S (Kd.slice 3 (Kd.int .i64)) 25 w' w.heap.size (fun _ => True) u270001 x270001_3) ∧ Aside0 (w'.heap[gb262]? = some (.cells #[.int .i64 a0_0, (.slice A0_1 l0_1.length c0_1), .int .i64 a0_2] 30 (0, 0))) ∧ Aside0 (w'.heap[gb263]? = some (.cells #[.int .i64 x264000_1, (.slice none 0 0), .int .i64 x264002_1] 30 (0, 0))) ∧ Aside0 (w'.heap[gb269]? = some (.cells #[.int .i64 x270000_3, u270001, .int .i64 x270002_3] 30 (0, 0))) ∧ Aside0 (Below w.heap.size w w'))
      case atStart => exact ⟨(false), (0), (x270000_1), (x270001_1), (x270002_1), (u270001), rs_, rs_, H', ⟨Nat.le_refl _⟩, ⟨up_ HO_270001.out⟩, ⟨up_ BK262.out⟩, ⟨up_ BK263.out⟩, ⟨up_ BK269.out⟩, ⟨up_ HB.out⟩⟩
      case round =>
       clear H'
       try clear c1
       try clear c2
       try clear p2
       try clear c7
       try clear c11
       try clear c12
       try clear c16
       try clear c16b0
       try clear c17
       try clear c17b0
       try clear c19
       try clear c20
       try clear c23
       try clear hcz13_0
       try clear hcz13_1
       try clear hcz13_2
       try clear hcz21_0
       try clear hcz21_1
       try clear hcz21_2
       try clear hcz8_0
       try clear hcz8_1
       try clear hcz8_2
       try clear hfz13_0
       try clear hfz13_1
       try clear hfz13_2
       try clear hfz21_0
       try clear hfz21_1
       try clear hfz21_2
       try clear hfz8_0
       try clear hfz8_1
       try clear hfz8_2
       try clear p2
       obtain ⟨x11_3, x12_3, x270000_3, x270001_3, x270002_3, u270001, rfl, rfl, HA, HK3, HO_270001, BK262, BK263, BK269, HB⟩ := hrel
       cases gk with
       | zero => exact absurd HA.out (by simp [spec_HearAll.l1])
       | succ k3 =>
        have H := HA.out
        clear HA
        simp only [spec_HearAll.l1] at H
        replace H := its_ H; rcases H with ⟨c24b0, H⟩ | ⟨c24b0, H⟩
        ·replace H := its_ H; rcases H with ⟨c25b0, H⟩ | ⟨_, ⟨⟩⟩
         replace H := Option.bind_eq_some_iff.mp H
         obtain ⟨⟨t272, t273, t276, t277⟩, A260, H⟩ := H
         replace H : (if t277 = true then (spec_HearAll.l1 k3 l1 a2 x9_1 x10_1 true (wrap64 (x12_3 + 1)) a0_0 l0_1 a0_2 t272 t273 t276) else (spec_HearAll.l1 k3 l1 a2 x9_1 x10_1 x11_3 (wrap64 (x12_3 + 1)) a0_0 l0_1 a0_2 x270000_3 x270001_3 x270002_3)) = some (r1, r2, r3, r4) := H
         have A26 := Aside0.mk A260
         clear A260
         replace H := itb_ H; rcases H with ⟨rfl, H⟩ | ⟨rfl, H⟩
         ·have H' := Aside0.mk H
          clear H
          obtain ⟨Ao28, co28, eo28⟩ := Kd.S_slice HO_270001.out
          subst eo28
          try go_wp2
          have n0_ := Aside0.mk (Kd.S_drew HO_270001.out)
          have n1_ := Aside0.mk (blk_drew BK262.out)
          have n2_ := Aside0.mk (blk_drew BK263.out)
          have n3_ := Aside0.mk (blk_drew BK269.out)
          have n4_ := Aside0.mk (below_drew1 HB.out)
          clear HO_270001
          clear BK262
          clear BK263
          clear BK269
          clear HB
          have HO_270001 := n0_
          have BK262 := n1_
          have BK263 := n2_
          have BK269 := n3_
          have HB := n4_
          clear n0_ n1_ n2_ n3_ n4_
          have p271 : 0 ≤ (x12_3 : Int) := od_
          have q271 : x12_3 < (l1.length : Int) := od_
          obtain ⟨ad271, A271_0, c271_0, e271, hx271_0, hl271_0, hi271_0⟩ := at_T34 HR1.out x12_3 p271 q271
          have hw271_0 := hx271_0
          cases e271
          replace hx271_0 := bh_ HB hx271_0
          have HR271_0 := Aside0.mk hi271_0
          have HC271_0 := Aside0.mk hl271_0
          clear hi271_0 hl271_0
          replace p271 := eq_true p271
          replace q271 := eq_true q271
          refine start_ (n := 12) (S := fun w' => w'.cell? ⟨gb269, 0, none⟩ = some (.int .i64 x270000_3) ∧ w'.cell? ⟨gb269, 1, none⟩ = some (.slice Ao28 x270001_3.length co28) ∧ w'.cell? ⟨gb269, 2, none⟩ = some (.int .i64 x270002_3) ∧ w'.cell? (ad271.add (x12_3).toNat) = some (.slice A271_0 ((rd_T34 l1 x12_3).f0).length c271_0)) (ds := []) #[false, false, false, false, false, false, false, false, false, false, false, false] (by kernel_rfl) rfl rfl ⟨(blk_cell BK269.out 0).trans rfl, (blk_cell BK269.out 1).trans rfl, (blk_cell BK269.out 2).trans rfl, (bh_ HB hw271_0 :)⟩ (fun hHeld => ?_); refine with_tabW spec_HearAll.tab10 spec_HearAll.bits10 (fun HT_ HW_ => ?_)
          generalize wr.drew = w29 at HO_270001 BK262 BK263 BK269 HB HR271_0 hx271_0 hHeld ⊢
          refine pu_ 1 (some 40) ?_
          refine pu_ 2 (some 41) ?_
          refine pu_ 3 (some 42) ?_
          refine tk_ 0 (some 39) hHeld ?_
          refine tk_ 4 (some 43) hHeld ?_
          refine join_ (σ := Value × Nat) 2 #[true, true, true, true, true, true, true, true, true, true, false, false] (fun s_ => [(44, .tuple #[.agg #[.int .i64 t272, s_.1, .int .i64 t276], .bool true]), (13, .pointer (some ⟨s_.2, 0, none⟩)), (38, .tuple #[.agg #[.int .i64 t272, s_.1, .int .i64 t276], .bool true]), (45, .agg #[.int .i64 t272, s_.1, .int .i64 t276]), (46, .bool true)]) (fun s_ w' => (w'.cell? ⟨gb269, 0, none⟩ = some (.int .i64 x270000_3) ∧ w'.cell? ⟨gb269, 1, none⟩ = some (.slice Ao28 x270001_3.length co28) ∧ w'.cell? ⟨gb269, 2, none⟩ = some (.int .i64 x270002_3) ∧ w'.cell? (ad271.add (x12_3).toNat) = some (.slice A271_0 ((rd_T34 l1 x12_3).f0).length c271_0)) ∧ (Kd.S (Kd.slice 3 (Kd.int .i64)) 25 w' w.heap.size (fun k_ => some k_ ≠ (.slice Ao28 x270001_3.length co28 : Value).ownBlock) s_.1 t273) ∧ (Kd.S (Kd.slice 3 (Kd.int .i64)) 25 w' w.heap.size (fun k_ => some k_ ≠ (s_.1 : Value).ownBlock) (.slice Ao28 x270001_3.length co28) x270001_3) ∧ (w'.heap[gb262]? = some (.cells #[.int .i64 a0_0, .slice A0_1 l0_1.length c0_1, .int .i64 a0_2] 30 (0, 0))) ∧ (w'.heap[gb263]? = some (.cells #[.int .i64 x264000_1, .slice none 0 0, .int .i64 x264002_1] 30 (0, 0))) ∧ (w'.heap[gb269]? = some (.cells #[.int .i64 x270000_3, .slice Ao28 x270001_3.length co28, .int .i64 x270002_3] 30 (0, 0))) ∧ (w'.heap[s_.2]? = some (.cells #[.int .i64 0, .slice none 0 0, .int .i64 0] 30 (0, 0))) ∧ (w.heap.size ≤ s_.2) ∧ (w.heap.size ≤ s_.2) ∧ (gb262 ≠ s_.2) ∧ (s_.2 ≠ gb262) ∧ (gb263 ≠ s_.2) ∧ (s_.2 ≠ gb263) ∧ (gb269 ≠ s_.2) ∧ (s_.2 ≠ gb269) ∧ (Below w.heap.size w w')) ?_ ?_
          rotate_left
          ·intro hCont
           refine two_ (i := 5) (j := 9) (Ni := some 44) (Nj := some 13) #[true, true, true, true, true, true, false, false, false, false, false, false] #[true, true, true, true, true, false, false, false, false, true, false, false] rfl rfl rfl rfl (two_of HT_.out (by kernel_rfl)) (by decide) (by decide) (fun K hK => ?_) (fun K hK => ?_)
           ·skip
            refine goes_ Try.func14 (by kernel_rfl) rfl #[.agg #[.int .i64 x270000_3, .slice Ao28 x270001_3.length co28, .int .i64 x270002_3], .agg #[.slice A271_0 ((rd_T34 l1 x12_3).f0).length c271_0]] (by rfl) rfl rfl am_ ?_
            with_reducible refine (spec_HearRow.calls k3 x270000_3 _ _ x270001_3 x270002_3 _ _ ((rd_T34 l1 x12_3).f0) t272 t273 t276 true _ ?side1 ?side2 ?side3 ?side4 A26.out).mono ?_
            (case side1 => repeat (first | exact (Kd.S_reads' HO_270001.out).2.2 | (with_reducible refine Kd.C_alloc ?_ _) | (with_reducible refine Kd.C_drewN ?_ _) | (with_reducible refine Kd.C_drew ?_)))
            (case side2 => exact (Kd.S_reads' HO_270001.out).2.1)
            (case side3 => exact Kd.C_below HR271_0.out (up_ HB.out))
            (case side4 => exact HC271_0.out)
            rintro e w30 ⟨v274, rfl, ho0, hb⟩
            refine ⟨_, rfl, ?_⟩
            have n0_ := Aside0.mk (Kd.S_elder' (up_ HO_270001.out) (Kd.S_base ho0) hb)
            have n1_ := Aside0.mk (Kd.S_lower (Kd.S_new' ho0 (Kd.S_lt (up_ HO_270001.out))) (below_size (up_ HB.out)))
            have n2_ := bb_ BK262 hb
            have n3_ := bb_ BK263 hb
            have n4_ := bb_ BK269 hb
            have n5_ := bs_ HB hb
            clear HO_270001
            clear BK262
            clear BK263
            clear BK269
            clear HB
            have HO_270001 := n0_
            have HO275 := n1_
            have BK262 := n2_
            have BK263 := n3_
            have BK269 := n4_
            have HB := n5_
            clear n0_ n1_ n2_ n3_ n4_ n5_
            (try clear hb)
            (try clear hb2)
            (try clear hk)
            (try clear hi)
            (try clear ho0)
            refine hK.out _ _ ⟨(blk_cell BK269.out 0).trans rfl, (blk_cell BK269.out 1).trans rfl, (blk_cell BK269.out 2).trans rfl, (bh_ HB hw271_0 :)⟩ (fun hHeld => ?_)
            clear hK K
            refine nm_ ?_
            refine pu_ 6 (some 38) ?_
            refine pu_ 7 (some 45) ?_
            refine pu_ 8 (some 46) ?_
            refine one_ (i := 9) (N := some 13) #[true, true, true, true, true, true, true, true, true, true, false, false] rfl rfl (one_of HT_.out (by kernel_rfl)) (by decide) (fun K hK => ?_)
            refine box_step ?hg (N := 13) ?hd (cs := #[.int .i64 0, .slice none 0 0, .int .i64 0]) (t := 30) ?hr ?_; (case hd => rfl); (case hg => rfl); (case hr => first | (go_simp; done) | (go_simp; rfl))
            intro gb278 hg w31 hbox hb
            have n0_ := Aside0.mk (Kd.S_below (up_ HO_270001.out) hb)
            have n1_ := Aside0.mk (Kd.S_below (up_ HO275.out) hb)
            have n2_ := bb_ BK262 hb
            have n3_ := bb_ BK263 hb
            have n4_ := bb_ BK269 hb
            have n5_ := bs_ HB hb
            have n6_ := Aside0.mk (hbox)
            have n7_ := gw_ HB hg
            have n8_ := gw_ HB hg
            have n9_ := Aside0.mk ((by rw [hg]; exact Nat.ne_of_lt (blk_lt (g := gb262) (o := .cells #[.int .i64 a0_0, .slice A0_1 l0_1.length c0_1, .int .i64 a0_2] 30 (0, 0)) (up_ BK262.out)) : gb262 ≠ gb278))
            have n10_ := Aside0.mk ((by rw [hg]; exact Nat.ne_of_gt (blk_lt (g := gb262) (o := .cells #[.int .i64 a0_0, .slice A0_1 l0_1.length c0_1, .int .i64 a0_2] 30 (0, 0)) (up_ BK262.out)) : gb278 ≠ gb262))
            have n11_ := Aside0.mk ((by rw [hg]; exact Nat.ne_of_lt (blk_lt (g := gb263) (o := .cells #[.int .i64 x264000_1, .slice none 0 0, .int .i64 x264002_1] 30 (0, 0)) (up_ BK263.out)) : gb263 ≠ gb278))
            have n12_ := Aside0.mk ((by rw [hg]; exact Nat.ne_of_gt (blk_lt (g := gb263) (o := .cells #[.int .i64 x264000_1, .slice none 0 0, .int .i64 x264002_1] 30 (0, 0)) (up_ BK263.out)) : gb278 ≠ gb263))
            have n13_ := Aside0.mk ((by rw [hg]; exact Nat.ne_of_lt (blk_lt (g := gb269) (o := .cells #[.int .i64 x270000_3, .slice Ao28 x270001_3.length co28, .int .i64 x270002_3] 30 (0, 0)) (up_ BK269.out)) : gb269 ≠ gb278))
            have n14_ := Aside0.mk ((by rw [hg]; exact Nat.ne_of_gt (blk_lt (g := gb269) (o := .cells #[.int .i64 x270000_3, .slice Ao28 x270001_3.length co28, .int .i64 x270002_3] 30 (0, 0)) (up_ BK269.out)) : gb278 ≠ gb269))
            clear HO_270001
            clear HO275
            clear BK262
            clear BK263
            clear BK269
            clear HB
            have HO_270001 := n0_
            have HO275 := n1_
            have BK262 := n2_
            have BK263 := n3_
            have BK269 := n4_
            have HB := n5_
            have BK278 := n6_
            have GW278 := n7_
            have GE278 := n8_
            have NB262_278 := n9_
            have NB278_262 := n10_
            have NB263_278 := n11_
            have NB278_263 := n12_
            have NB269_278 := n13_
            have NB278_269 := n14_
            clear n0_ n1_ n2_ n3_ n4_ n5_ n6_ n7_ n8_ n9_ n10_ n11_ n12_ n13_ n14_
            clear hb hbox hg
            refine hK.out _ _ ⟨(blk_cell BK269.out 0).trans rfl, (blk_cell BK269.out 1).trans rfl, (blk_cell BK269.out 2).trans rfl, (bh_ HB hw271_0 :)⟩ (fun hHeld => ?_)
            clear hK K
            refine nm_ ?_
            exact norm_ (by simp only [putAll, Act.put, List.setIfInBounds_toArray, List.set_cons_zero, List.set_cons_succ]) (hCont (v274, gb278) _ ⟨hHeld, (by (with_reducible repeat (first | apply Kd.S_alloc | apply Kd.S_drewN | apply Kd.S_drew)); exact Kd.S_mono HO275.out (fun _ hk => hk.2)), (by (with_reducible repeat (first | apply Kd.S_alloc | apply Kd.S_drewN | apply Kd.S_drew)); exact Kd.S_mono HO_270001.out (fun _ hk => hk.2)), (up_ BK262.out), (up_ BK263.out), (up_ BK269.out), (up_ BK278.out), GW278.out, GE278.out, NB262_278.out, NB278_262.out, NB263_278.out, NB278_263.out, NB269_278.out, NB278_269.out, (up_ HB.out)⟩)
           ·skip
            refine box_step ?hg (N := 13) ?hd (cs := #[.int .i64 0, .slice none 0 0, .int .i64 0]) (t := 30) ?hr ?_; (case hd => rfl); (case hg => rfl); (case hr => first | (go_simp; done) | (go_simp; rfl))
            intro gb278 hg w30 hbox hb
            have n0_ := Aside0.mk (Kd.S_below (up_ HO_270001.out) hb)
            have n1_ := bb_ BK262 hb
            have n2_ := bb_ BK263 hb
            have n3_ := bb_ BK269 hb
            have n4_ := bs_ HB hb
            have n5_ := Aside0.mk (hbox)
            have n6_ := gw_ HB hg
            have n7_ := gw_ HB hg
            have n8_ := Aside0.mk ((by rw [hg]; exact Nat.ne_of_lt (blk_lt (g := gb262) (o := .cells #[.int .i64 a0_0, .slice A0_1 l0_1.length c0_1, .int .i64 a0_2] 30 (0, 0)) (up_ BK262.out)) : gb262 ≠ gb278))
            have n9_ := Aside0.mk ((by rw [hg]; exact Nat.ne_of_gt (blk_lt (g := gb262) (o := .cells #[.int .i64 a0_0, .slice A0_1 l0_1.length c0_1, .int .i64 a0_2] 30 (0, 0)) (up_ BK262.out)) : gb278 ≠ gb262))
            have n10_ := Aside0.mk ((by rw [hg]; exact Nat.ne_of_lt (blk_lt (g := gb263) (o := .cells #[.int .i64 x264000_1, .slice none 0 0, .int .i64 x264002_1] 30 (0, 0)) (up_ BK263.out)) : gb263 ≠ gb278))
            have n11_ := Aside0.mk ((by rw [hg]; exact Nat.ne_of_gt (blk_lt (g := gb263) (o := .cells #[.int .i64 x264000_1, .slice none 0 0, .int .i64 x264002_1] 30 (0, 0)) (up_ BK263.out)) : gb278 ≠ gb263))
            have n12_ := Aside0.mk ((by rw [hg]; exact Nat.ne_of_lt (blk_lt (g := gb269) (o := .cells #[.int .i64 x270000_3, .slice Ao28 x270001_3.length co28, .int .i64 x270002_3] 30 (0, 0)) (up_ BK269.out)) : gb269 ≠ gb278))
            have n13_ := Aside0.mk ((by rw [hg]; exact Nat.ne_of_gt (blk_lt (g := gb269) (o := .cells #[.int .i64 x270000_3, .slice Ao28 x270001_3.length co28, .int .i64 x270002_3] 30 (0, 0)) (up_ BK269.out)) : gb278 ≠ gb269))
            clear HO_270001
            clear BK262
            clear BK263
            clear BK269
            clear HB
            have HO_270001 := n0_
            have BK262 := n1_
            have BK263 := n2_
            have BK269 := n3_
            have HB := n4_
            have BK278 := n5_
            have GW278 := n6_
            have GE278 := n7_
            have NB262_278 := n8_
            have NB278_262 := n9_
            have NB263_278 := n10_
            have NB278_263 := n11_
            have NB269_278 := n12_
            have NB278_269 := n13_
            clear n0_ n1_ n2_ n3_ n4_ n5_ n6_ n7_ n8_ n9_ n10_ n11_ n12_ n13_
            clear hb hbox hg
            refine hK.out _ _ ⟨(blk_cell BK269.out 0).trans rfl, (blk_cell BK269.out 1).trans rfl, (blk_cell BK269.out 2).trans rfl, (bh_ HB hw271_0 :)⟩ (fun hHeld => ?_)
            clear hK K
            refine nm_ ?_
            refine one_ (i := 5) (N := some 44) #[true, true, true, true, true, true, false, false, false, true, false, false] rfl rfl (one_of HT_.out (by kernel_rfl)) (by decide) (fun K hK => ?_)
            refine goes_ Try.func14 (by kernel_rfl) rfl #[.agg #[.int .i64 x270000_3, .slice Ao28 x270001_3.length co28, .int .i64 x270002_3], .agg #[.slice A271_0 ((rd_T34 l1 x12_3).f0).length c271_0]] (by rfl) rfl rfl am_ ?_
            with_reducible refine (spec_HearRow.calls k3 x270000_3 _ _ x270001_3 x270002_3 _ _ ((rd_T34 l1 x12_3).f0) t272 t273 t276 true _ ?side1 ?side2 ?side3 ?side4 A26.out).mono ?_
            (case side1 => repeat (first | exact (Kd.S_reads' HO_270001.out).2.2 | (with_reducible refine Kd.C_alloc ?_ _) | (with_reducible refine Kd.C_drewN ?_ _) | (with_reducible refine Kd.C_drew ?_)))
            (case side2 => exact (Kd.S_reads' HO_270001.out).2.1)
            (case side3 => exact Kd.C_below HR271_0.out (up_ HB.out))
            (case side4 => exact HC271_0.out)
            rintro e w31 ⟨v274, rfl, ho0, hb⟩
            refine ⟨_, rfl, ?_⟩
            have n0_ := Aside0.mk (Kd.S_elder' (up_ HO_270001.out) (Kd.S_base ho0) hb)
            have n1_ := Aside0.mk (Kd.S_lower (Kd.S_new' ho0 (Kd.S_lt (up_ HO_270001.out))) (below_size (up_ HB.out)))
            have n2_ := bb_ BK262 hb
            have n3_ := bb_ BK263 hb
            have n4_ := bb_ BK269 hb
            have n5_ := bb_ BK278 hb
            have n6_ := bs_ HB hb
            clear HO_270001
            clear BK262
            clear BK263
            clear BK269
            clear BK278
            clear HB
            have HO_270001 := n0_
            have HO275 := n1_
            have BK262 := n2_
            have BK263 := n3_
            have BK269 := n4_
            have BK278 := n5_
            have HB := n6_
            clear n0_ n1_ n2_ n3_ n4_ n5_ n6_
            (try clear hb)
            (try clear hb2)
            (try clear hk)
            (try clear hi)
            (try clear ho0)
            refine hK.out _ _ ⟨(blk_cell BK269.out 0).trans rfl, (blk_cell BK269.out 1).trans rfl, (blk_cell BK269.out 2).trans rfl, (bh_ HB hw271_0 :)⟩ (fun hHeld => ?_)
            clear hK K
            refine nm_ ?_
            refine pu_ 6 (some 38) ?_
            refine pu_ 7 (some 45) ?_
            refine pu_ 8 (some 46) ?_
            exact norm_ (by simp only [putAll, Act.put, List.setIfInBounds_toArray, List.set_cons_zero, List.set_cons_succ]) (hCont (v274, gb278) _ ⟨hHeld, (by (with_reducible repeat (first | apply Kd.S_alloc | apply Kd.S_drewN | apply Kd.S_drew)); exact Kd.S_mono HO275.out (fun _ hk => hk.2)), (by (with_reducible repeat (first | apply Kd.S_alloc | apply Kd.S_drewN | apply Kd.S_drew)); exact Kd.S_mono HO_270001.out (fun _ hk => hk.2)), (up_ BK262.out), (up_ BK263.out), (up_ BK269.out), (up_ BK278.out), GW278.out, GE278.out, NB262_278.out, NB278_262.out, NB263_278.out, NB278_263.out, NB269_278.out, NB278_269.out, (up_ HB.out)⟩)
          rintro ⟨v274, gb278⟩ w32 ⟨hS_, h0_, h1_, h2_, h3_, h4_, h5_, h6_, h7_, h8_, h9_, h10_, h11_, h12_, h13_, h14_⟩
          have n0_ : Aside0 (Kd.S (Kd.slice 3 (Kd.int .i64)) 25 w32 w.heap.size (fun k_ => some k_ ≠ (.slice Ao28 x270001_3.length co28 : Value).ownBlock) v274 t273) := ⟨h0_⟩
          have n1_ : Aside0 (Kd.S (Kd.slice 3 (Kd.int .i64)) 25 w32 w.heap.size (fun k_ => some k_ ≠ (v274 : Value).ownBlock) (.slice Ao28 x270001_3.length co28) x270001_3) := ⟨h1_⟩
          have n2_ : Aside0 (w32.heap[gb262]? = some (.cells #[.int .i64 a0_0, .slice A0_1 l0_1.length c0_1, .int .i64 a0_2] 30 (0, 0))) := ⟨h2_⟩
          have n3_ : Aside0 (w32.heap[gb263]? = some (.cells #[.int .i64 x264000_1, .slice none 0 0, .int .i64 x264002_1] 30 (0, 0))) := ⟨h3_⟩
          have n4_ : Aside0 (w32.heap[gb269]? = some (.cells #[.int .i64 x270000_3, .slice Ao28 x270001_3.length co28, .int .i64 x270002_3] 30 (0, 0))) := ⟨h4_⟩
          have n5_ : Aside0 (w32.heap[gb278]? = some (.cells #[.int .i64 0, .slice none 0 0, .int .i64 0] 30 (0, 0))) := ⟨h5_⟩
          have n6_ : Aside0 (w.heap.size ≤ gb278) := ⟨h6_⟩
          have n7_ : Aside0 (w.heap.size ≤ gb278) := ⟨h7_⟩
          have n8_ : Aside0 (gb262 ≠ gb278) := ⟨h8_⟩
          have n9_ : Aside0 (gb278 ≠ gb262) := ⟨h9_⟩
          have n10_ : Aside0 (gb263 ≠ gb278) := ⟨h10_⟩
          have n11_ : Aside0 (gb278 ≠ gb263) := ⟨h11_⟩
          have n12_ : Aside0 (gb269 ≠ gb278) := ⟨h12_⟩
          have n13_ : Aside0 (gb278 ≠ gb269) := ⟨h13_⟩
          have n14_ : Aside0 (Below w.heap.size w w32) := ⟨h14_⟩
          clear HO_270001
          clear BK262
          clear BK263
          clear BK269
          clear HB
          clear h0_ h1_ h2_ h3_ h4_ h5_ h6_ h7_ h8_ h9_ h10_ h11_ h12_ h13_ h14_
          have HO275 := n0_
          have HO_270001 := n1_
          have BK262 := n2_
          have BK263 := n3_
          have BK269 := n4_
          have BK278 := n5_
          have GW278 := n6_
          have GE278 := n7_
          have NB262_278 := n8_
          have NB278_262 := n9_
          have NB263_278 := n10_
          have NB278_263 := n11_
          have NB269_278 := n12_
          have NB278_269 := n13_
          have HB := n14_
          clear n0_ n1_ n2_ n3_ n4_ n5_ n6_ n7_ n8_ n9_ n10_ n11_ n12_ n13_ n14_
          have hHeld : w32.cell? ⟨gb269, 0, none⟩ = some (.int .i64 x270000_3) ∧ w32.cell? ⟨gb269, 1, none⟩ = some (.slice Ao28 x270001_3.length co28) ∧ w32.cell? ⟨gb269, 2, none⟩ = some (.int .i64 x270002_3) ∧ w32.cell? (ad271.add (x12_3).toNat) = some (.slice A271_0 ((rd_T34 l1 x12_3).f0).length c271_0) := hS_
          obtain ⟨Ao34, co34, eo34⟩ := Kd.S_slice HO275.out
          (first | subst eo34 | (injection eo34 with f1_ f2_ f3_; have f4_ := f1_.symm; have f5_ := f3_.symm; clear f1_ f2_ f3_; subst f4_; subst f5_))
          refine norm_ (a' := ?_) ?_ ?_
          rotate_left
          ·simp only [putAll, Act.put, List.setIfInBounds_toArray, List.set_cons_zero, List.set_cons_succ]
           rfl
          refine one_ (i := 10) (N := none) #[true, true, true, true, true, true, true, true, true, true, true, false] rfl rfl (one_of HT_.out (by kernel_rfl)) (by decide) (fun K hK => ?_)
          have hs33 : w32.cell? ⟨gb278, 0, none⟩ = some (.int .i64 0) := (blk_cell BK278.out 0).trans rfl
          have hfs33 := blk_frozen BK278.out 0
          have hns33_0 := NB262_278.out
          have hns33_1 := NB263_278.out
          have hns33_2 := NB269_278.out
          have hms33_0 := NB278_262.out
          have hms33_1 := NB278_263.out
          have hms33_2 := NB278_269.out
          have hs35 : w32.cell? ⟨gb278, 1, none⟩ = some (.slice none 0 0) := (blk_cell BK278.out 1).trans rfl
          have hfs35 := blk_frozen BK278.out 1
          have hns35_0 := NB262_278.out
          have hns35_1 := NB263_278.out
          have hns35_2 := NB269_278.out
          have hms35_0 := NB278_262.out
          have hms35_1 := NB278_263.out
          have hms35_2 := NB278_269.out
          have hs36 : w32.cell? ⟨gb278, 2, none⟩ = some (.int .i64 0) := (blk_cell BK278.out 2).trans rfl
          have hfs36 := blk_frozen BK278.out 2
          have hns36_0 := NB262_278.out
          have hns36_1 := NB263_278.out
          have hns36_2 := NB269_278.out
          have hms36_0 := NB278_262.out
          have hms36_1 := NB278_263.out
          have hms36_2 := NB278_269.out
          refine skip_ (w1 := ?_) (by rfl) rfl ?_ ?_
          rotate_left
          ·go_simp
           rfl
          refine hK.out _ _ ⟨((cell_far (p := ⟨gb278, _, none⟩) NB269_278.out _).trans (((cell_far (p := ⟨gb278, _, none⟩) NB269_278.out _).trans (((cell_far (p := ⟨gb278, _, none⟩) NB269_278.out _).trans (hHeld.1)))))), ((cell_far (p := ⟨gb278, _, none⟩) NB269_278.out _).trans (((cell_far (p := ⟨gb278, _, none⟩) NB269_278.out _).trans (((cell_far (p := ⟨gb278, _, none⟩) NB269_278.out _).trans (hHeld.2.1)))))), ((cell_far (p := ⟨gb278, _, none⟩) NB269_278.out _).trans (((cell_far (p := ⟨gb278, _, none⟩) NB269_278.out _).trans (((cell_far (p := ⟨gb278, _, none⟩) NB269_278.out _).trans (hHeld.2.2.1)))))), ((cell_far (p := ⟨gb278, _, none⟩) (by first | exact Nat.ne_of_lt (Nat.lt_of_lt_of_le (by have := World.block_lt_of_cell? _ _ hw271_0; first | rwa [add_block] at this | exact this) GW278.out) | (rw [add_block]; exact Nat.ne_of_lt (Nat.lt_of_lt_of_le (by have := World.block_lt_of_cell? _ _ hw271_0; first | rwa [add_block] at this | exact this) GW278.out)) | (show (Addr.add _ _).block ≠ _; rw [add_block]; exact Nat.ne_of_lt (Nat.lt_of_lt_of_le (by have := World.block_lt_of_cell? _ _ hw271_0; first | rwa [add_block] at this | exact this) GW278.out)) | (dsimp only; exact Nat.ne_of_lt (Nat.lt_of_lt_of_le (by have := World.block_lt_of_cell? _ _ hw271_0; first | rwa [add_block] at this | exact this) GW278.out))) _).trans (((cell_far (p := ⟨gb278, _, none⟩) (by first | exact Nat.ne_of_lt (Nat.lt_of_lt_of_le (by have := World.block_lt_of_cell? _ _ hw271_0; first | rwa [add_block] at this | exact this) GW278.out) | (rw [add_block]; exact Nat.ne_of_lt (Nat.lt_of_lt_of_le (by have := World.block_lt_of_cell? _ _ hw271_0; first | rwa [add_block] at this | exact this) GW278.out)) | (show (Addr.add _ _).block ≠ _; rw [add_block]; exact Nat.ne_of_lt (Nat.lt_of_lt_of_le (by have := World.block_lt_of_cell? _ _ hw271_0; first | rwa [add_block] at this | exact this) GW278.out)) | (dsimp only; exact Nat.ne_of_lt (Nat.lt_of_lt_of_le (by have := World.block_lt_of_cell? _ _ hw271_0; first | rwa [add_block] at this | exact this) GW278.out))) _).trans (((cell_far (p := ⟨gb278, _, none⟩) (by first | exact Nat.ne_of_lt (Nat.lt_of_lt_of_le (by have := World.block_lt_of_cell? _ _ hw271_0; first | rwa [add_block] at this | exact this) GW278.out) | (rw [add_block]; exact Nat.ne_of_lt (Nat.lt_of_lt_of_le (by have := World.block_lt_of_cell? _ _ hw271_0; first | rwa [add_block] at this | exact this) GW278.out)) | (show (Addr.add _ _).block ≠ _; rw [add_block]; exact Nat.ne_of_lt (Nat.lt_of_lt_of_le (by have := World.block_lt_of_cell? _ _ hw271_0; first | rwa [add_block] at this | exact this) GW278.out)) | (dsimp only; exact Nat.ne_of_lt (Nat.lt_of_lt_of_le (by have := World.block_lt_of_cell? _ _ hw271_0; first | rwa [add_block] at this | exact this) GW278.out))) _).trans (hHeld.2.2.2))))))⟩ (fun hHeld => ?_)
          clear hK K
          refine pu_ 11 (some 14) ?_
          refine done_ (done_of HT_.out (by kernel_rfl)) ?_
          have hnb37 := NB278_262.out
          have hnc37 := NB262_278.out
          have hnb38 := NB278_263.out
          have hnc38 := NB263_278.out
          have hnb39 := NB278_269.out
          have hnc39 := NB269_278.out
          obtain ⟨hcz40_0, hcz40_1, hcz40_2⟩ := c3_ BK278
          have hfz40_0 := blk_frozen BK278.out 0
          have hfz40_1 := blk_frozen BK278.out 1
          have hfz40_2 := blk_frozen BK278.out 2
          have hnb41 := NB269_262.out
          have hnc41 := NB262_269.out
          have hnb42 := NB269_263.out
          have hnc42 := NB263_269.out
          obtain ⟨hcz43_0, hcz43_1, hcz43_2⟩ := c3_ BK269
          have hfz43_0 := blk_frozen BK269.out 0
          have hfz43_1 := blk_frozen BK269.out 1
          have hfz43_2 := blk_frozen BK269.out 2
          try go_wp2
          go_roundg k3
          case measure => have := HK1.out; have := HJ14.out; have := HK3.out; omega
          case rel => exact ⟨(true), (wrap64 (x12_3 + 1)), (t272), (t273), (t276), (.slice Ao34 t273.length co34), rs_, rs_, H', ⟨by have := HK1.out; have := HJ14.out; have := HK3.out; omega⟩, ⟨by (with_reducible repeat (first | apply Kd.S_alloc | apply Kd.S_drewN | apply Kd.S_drew)); exact Kd.S_mono (Kd.S_far (p := ⟨gb269, 2, none⟩) (Kd.S_far (p := ⟨gb269, 1, none⟩) (Kd.S_far (p := ⟨gb269, 0, none⟩) (Kd.S_far (p := ⟨gb278, 2, none⟩) (Kd.S_far (p := ⟨gb278, 1, none⟩) (Kd.S_far (p := ⟨gb278, 0, none⟩) (Kd.S_types (Kd.S_types HO275.out BK278.out (by decide)) BK269.out (by decide)) (fun _ hk => hk.1.2) (.int .i64 t272)) (fun _ hk => hk.1.2) (.slice Ao34 t273.length co34)) (fun _ hk => hk.1.2) (.int .i64 t276)) (fun _ hk => hk.2) (.int .i64 t272)) (fun _ hk => hk.2) (.slice Ao34 t273.length co34)) (fun _ hk => hk.2) (.int .i64 t276)) (fun _ hk => trivial)⟩, ⟨by (with_reducible repeat (first | refine blk_drewN ?_ _ | refine blk_drew ?_ | refine blk_alloc ?_ _)); refine blk_far ?_ NB262_269.out _; (with_reducible repeat (first | refine blk_drewN ?_ _ | refine blk_drew ?_ | refine blk_alloc ?_ _)); refine blk_far ?_ NB262_269.out _; (with_reducible repeat (first | refine blk_drewN ?_ _ | refine blk_drew ?_ | refine blk_alloc ?_ _)); refine blk_far ?_ NB262_269.out _; (with_reducible repeat (first | refine blk_drewN ?_ _ | refine blk_drew ?_ | refine blk_alloc ?_ _)); refine blk_far ?_ NB262_278.out _; (with_reducible repeat (first | refine blk_drewN ?_ _ | refine blk_drew ?_ | refine blk_alloc ?_ _)); refine blk_far ?_ NB262_278.out _; (with_reducible repeat (first | refine blk_drewN ?_ _ | refine blk_drew ?_ | refine blk_alloc ?_ _)); refine blk_far ?_ NB262_278.out _; (with_reducible repeat (first | refine blk_drewN ?_ _ | refine blk_drew ?_ | refine blk_alloc ?_ _)); exact BK262.out⟩, ⟨by (with_reducible repeat (first | refine blk_drewN ?_ _ | refine blk_drew ?_ | refine blk_alloc ?_ _)); refine blk_far ?_ NB263_269.out _; (with_reducible repeat (first | refine blk_drewN ?_ _ | refine blk_drew ?_ | refine blk_alloc ?_ _)); refine blk_far ?_ NB263_269.out _; (with_reducible repeat (first | refine blk_drewN ?_ _ | refine blk_drew ?_ | refine blk_alloc ?_ _)); refine blk_far ?_ NB263_269.out _; (with_reducible repeat (first | refine blk_drewN ?_ _ | refine blk_drew ?_ | refine blk_alloc ?_ _)); refine blk_far ?_ NB263_278.out _; (with_reducible repeat (first | refine blk_drewN ?_ _ | refine blk_drew ?_ | refine blk_alloc ?_ _)); refine blk_far ?_ NB263_278.out _; (with_reducible repeat (first | refine blk_drewN ?_ _ | refine blk_drew ?_ | refine blk_alloc ?_ _)); refine blk_far ?_ NB263_278.out _; (with_reducible repeat (first | refine blk_drewN ?_ _ | refine blk_drew ?_ | refine blk_alloc ?_ _)); exact BK263.out⟩, ⟨by (with_reducible repeat (first | refine blk_drewN ?_ _ | refine blk_drew ?_ | refine blk_alloc ?_ _)); refine blk_put (cs := #[.int .i64 t272, .slice Ao34 t273.length co34, .int .i64 x270002_3]) ?_ 2 _ rfl; (with_reducible repeat (first | refine blk_drewN ?_ _ | refine blk_drew ?_ | refine blk_alloc ?_ _)); refine blk_put (cs := #[.int .i64 t272, .slice Ao28 x270001_3.length co28, .int .i64 x270002_3]) ?_ 1 _ rfl; (with_reducible repeat (first | refine blk_drewN ?_ _ | refine blk_drew ?_ | refine blk_alloc ?_ _)); refine blk_put (cs := #[.int .i64 x270000_3, .slice Ao28 x270001_3.length co28, .int .i64 x270002_3]) ?_ 0 _ rfl; (with_reducible repeat (first | refine blk_drewN ?_ _ | refine blk_drew ?_ | refine blk_alloc ?_ _)); refine blk_far ?_ NB269_278.out _; (with_reducible repeat (first | refine blk_drewN ?_ _ | refine blk_drew ?_ | refine blk_alloc ?_ _)); refine blk_far ?_ NB269_278.out _; (with_reducible repeat (first | refine blk_drewN ?_ _ | refine blk_drew ?_ | refine blk_alloc ?_ _)); refine blk_far ?_ NB269_278.out _; (with_reducible repeat (first | refine blk_drewN ?_ _ | refine blk_drew ?_ | refine blk_alloc ?_ _)); exact BK269.out⟩, ⟨up_ HB.out⟩⟩
         ·have H' := Aside0.mk H
          clear H
          obtain ⟨Ao44, co44, eo44⟩ := Kd.S_slice HO_270001.out
          subst eo44
          try go_wp2
          have n0_ := Aside0.mk (Kd.S_drew HO_270001.out)
          have n1_ := Aside0.mk (blk_drew BK262.out)
          have n2_ := Aside0.mk (blk_drew BK263.out)
          have n3_ := Aside0.mk (blk_drew BK269.out)
          have n4_ := Aside0.mk (below_drew1 HB.out)
          clear HO_270001
          clear BK262
          clear BK263
          clear BK269
          clear HB
          have HO_270001 := n0_
          have BK262 := n1_
          have BK263 := n2_
          have BK269 := n3_
          have HB := n4_
          clear n0_ n1_ n2_ n3_ n4_
          have p271 : 0 ≤ (x12_3 : Int) := od_
          have q271 : x12_3 < (l1.length : Int) := od_
          obtain ⟨ad271, A271_0, c271_0, e271, hx271_0, hl271_0, hi271_0⟩ := at_T34 HR1.out x12_3 p271 q271
          have hw271_0 := hx271_0
          cases e271
          replace hx271_0 := bh_ HB hx271_0
          have HR271_0 := Aside0.mk hi271_0
          have HC271_0 := Aside0.mk hl271_0
          clear hi271_0 hl271_0
          replace p271 := eq_true p271
          replace q271 := eq_true q271
          refine start_ (n := 12) (S := fun w' => w'.cell? ⟨gb269, 0, none⟩ = some (.int .i64 x270000_3) ∧ w'.cell? ⟨gb269, 1, none⟩ = some (.slice Ao44 x270001_3.length co44) ∧ w'.cell? ⟨gb269, 2, none⟩ = some (.int .i64 x270002_3) ∧ w'.cell? (ad271.add (x12_3).toNat) = some (.slice A271_0 ((rd_T34 l1 x12_3).f0).length c271_0)) (ds := []) #[false, false, false, false, false, false, false, false, false, false, false, false] (by kernel_rfl) rfl rfl ⟨(blk_cell BK269.out 0).trans rfl, (blk_cell BK269.out 1).trans rfl, (blk_cell BK269.out 2).trans rfl, (bh_ HB hw271_0 :)⟩ (fun hHeld => ?_); refine with_tabW spec_HearAll.tab10 spec_HearAll.bits10 (fun HT_ HW_ => ?_)
          generalize wr.drew = w45 at HO_270001 BK262 BK263 BK269 HB HR271_0 hx271_0 hHeld ⊢
          refine pu_ 1 (some 40) ?_
          refine pu_ 2 (some 41) ?_
          refine pu_ 3 (some 42) ?_
          refine tk_ 0 (some 39) hHeld ?_
          refine tk_ 4 (some 43) hHeld ?_
          refine join_ (σ := Value × Nat) 2 #[true, true, true, true, true, true, true, true, true, true, false, false] (fun s_ => [(44, .tuple #[.agg #[.int .i64 t272, s_.1, .int .i64 t276], .bool false]), (13, .pointer (some ⟨s_.2, 0, none⟩)), (38, .tuple #[.agg #[.int .i64 t272, s_.1, .int .i64 t276], .bool false]), (45, .agg #[.int .i64 t272, s_.1, .int .i64 t276]), (46, .bool false)]) (fun s_ w' => (w'.cell? ⟨gb269, 0, none⟩ = some (.int .i64 x270000_3) ∧ w'.cell? ⟨gb269, 1, none⟩ = some (.slice Ao44 x270001_3.length co44) ∧ w'.cell? ⟨gb269, 2, none⟩ = some (.int .i64 x270002_3) ∧ w'.cell? (ad271.add (x12_3).toNat) = some (.slice A271_0 ((rd_T34 l1 x12_3).f0).length c271_0)) ∧ (Kd.S (Kd.slice 3 (Kd.int .i64)) 25 w' w.heap.size (fun k_ => some k_ ≠ (.slice Ao44 x270001_3.length co44 : Value).ownBlock) s_.1 t273) ∧ (Kd.S (Kd.slice 3 (Kd.int .i64)) 25 w' w.heap.size (fun k_ => some k_ ≠ (s_.1 : Value).ownBlock) (.slice Ao44 x270001_3.length co44) x270001_3) ∧ (w'.heap[gb262]? = some (.cells #[.int .i64 a0_0, .slice A0_1 l0_1.length c0_1, .int .i64 a0_2] 30 (0, 0))) ∧ (w'.heap[gb263]? = some (.cells #[.int .i64 x264000_1, .slice none 0 0, .int .i64 x264002_1] 30 (0, 0))) ∧ (w'.heap[gb269]? = some (.cells #[.int .i64 x270000_3, .slice Ao44 x270001_3.length co44, .int .i64 x270002_3] 30 (0, 0))) ∧ (w'.heap[s_.2]? = some (.cells #[.int .i64 0, .slice none 0 0, .int .i64 0] 30 (0, 0))) ∧ (w.heap.size ≤ s_.2) ∧ (w.heap.size ≤ s_.2) ∧ (gb262 ≠ s_.2) ∧ (s_.2 ≠ gb262) ∧ (gb263 ≠ s_.2) ∧ (s_.2 ≠ gb263) ∧ (gb269 ≠ s_.2) ∧ (s_.2 ≠ gb269) ∧ (Below w.heap.size w w')) ?_ ?_
          rotate_left
          ·intro hCont
           refine two_ (i := 5) (j := 9) (Ni := some 44) (Nj := some 13) #[true, true, true, true, true, true, false, false, false, false, false, false] #[true, true, true, true, true, false, false, false, false, true, false, false] rfl rfl rfl rfl (two_of HT_.out (by kernel_rfl)) (by decide) (by decide) (fun K hK => ?_) (fun K hK => ?_)
           ·skip
            refine goes_ Try.func14 (by kernel_rfl) rfl #[.agg #[.int .i64 x270000_3, .slice Ao44 x270001_3.length co44, .int .i64 x270002_3], .agg #[.slice A271_0 ((rd_T34 l1 x12_3).f0).length c271_0]] (by rfl) rfl rfl am_ ?_
            with_reducible refine (spec_HearRow.calls k3 x270000_3 _ _ x270001_3 x270002_3 _ _ ((rd_T34 l1 x12_3).f0) t272 t273 t276 false _ ?side1 ?side2 ?side3 ?side4 A26.out).mono ?_
            (case side1 => repeat (first | exact (Kd.S_reads' HO_270001.out).2.2 | (with_reducible refine Kd.C_alloc ?_ _) | (with_reducible refine Kd.C_drewN ?_ _) | (with_reducible refine Kd.C_drew ?_)))
            (case side2 => exact (Kd.S_reads' HO_270001.out).2.1)
            (case side3 => exact Kd.C_below HR271_0.out (up_ HB.out))
            (case side4 => exact HC271_0.out)
            rintro e w46 ⟨v274, rfl, ho0, hb⟩
            refine ⟨_, rfl, ?_⟩
            have n0_ := Aside0.mk (Kd.S_elder' (up_ HO_270001.out) (Kd.S_base ho0) hb)
            have n1_ := Aside0.mk (Kd.S_lower (Kd.S_new' ho0 (Kd.S_lt (up_ HO_270001.out))) (below_size (up_ HB.out)))
            have n2_ := bb_ BK262 hb
            have n3_ := bb_ BK263 hb
            have n4_ := bb_ BK269 hb
            have n5_ := bs_ HB hb
            clear HO_270001
            clear BK262
            clear BK263
            clear BK269
            clear HB
            have HO_270001 := n0_
            have HO275 := n1_
            have BK262 := n2_
            have BK263 := n3_
            have BK269 := n4_
            have HB := n5_
            clear n0_ n1_ n2_ n3_ n4_ n5_
            (try clear hb)
            (try clear hb2)
            (try clear hk)
            (try clear hi)
            (try clear ho0)
            refine hK.out _ _ ⟨(blk_cell BK269.out 0).trans rfl, (blk_cell BK269.out 1).trans rfl, (blk_cell BK269.out 2).trans rfl, (bh_ HB hw271_0 :)⟩ (fun hHeld => ?_)
            clear hK K
            refine nm_ ?_
            refine pu_ 6 (some 38) ?_
            refine pu_ 7 (some 45) ?_
            refine pu_ 8 (some 46) ?_
            refine one_ (i := 9) (N := some 13) #[true, true, true, true, true, true, true, true, true, true, false, false] rfl rfl (one_of HT_.out (by kernel_rfl)) (by decide) (fun K hK => ?_)
            refine box_step ?hg (N := 13) ?hd (cs := #[.int .i64 0, .slice none 0 0, .int .i64 0]) (t := 30) ?hr ?_; (case hd => rfl); (case hg => rfl); (case hr => first | (go_simp; done) | (go_simp; rfl))
            intro gb278 hg w47 hbox hb
            have n0_ := Aside0.mk (Kd.S_below (up_ HO_270001.out) hb)
            have n1_ := Aside0.mk (Kd.S_below (up_ HO275.out) hb)
            have n2_ := bb_ BK262 hb
            have n3_ := bb_ BK263 hb
            have n4_ := bb_ BK269 hb
            have n5_ := bs_ HB hb
            have n6_ := Aside0.mk (hbox)
            have n7_ := gw_ HB hg
            have n8_ := gw_ HB hg
            have n9_ := Aside0.mk ((by rw [hg]; exact Nat.ne_of_lt (blk_lt (g := gb262) (o := .cells #[.int .i64 a0_0, .slice A0_1 l0_1.length c0_1, .int .i64 a0_2] 30 (0, 0)) (up_ BK262.out)) : gb262 ≠ gb278))
            have n10_ := Aside0.mk ((by rw [hg]; exact Nat.ne_of_gt (blk_lt (g := gb262) (o := .cells #[.int .i64 a0_0, .slice A0_1 l0_1.length c0_1, .int .i64 a0_2] 30 (0, 0)) (up_ BK262.out)) : gb278 ≠ gb262))
            have n11_ := Aside0.mk ((by rw [hg]; exact Nat.ne_of_lt (blk_lt (g := gb263) (o := .cells #[.int .i64 x264000_1, .slice none 0 0, .int .i64 x264002_1] 30 (0, 0)) (up_ BK263.out)) : gb263 ≠ gb278))
            have n12_ := Aside0.mk ((by rw [hg]; exact Nat.ne_of_gt (blk_lt (g := gb263) (o := .cells #[.int .i64 x264000_1, .slice none 0 0, .int .i64 x264002_1] 30 (0, 0)) (up_ BK263.out)) : gb278 ≠ gb263))
            have n13_ := Aside0.mk ((by rw [hg]; exact Nat.ne_of_lt (blk_lt (g := gb269) (o := .cells #[.int .i64 x270000_3, .slice Ao44 x270001_3.length co44, .int .i64 x270002_3] 30 (0, 0)) (up_ BK269.out)) : gb269 ≠ gb278))
            have n14_ := Aside0.mk ((by rw [hg]; exact Nat.ne_of_gt (blk_lt (g := gb269) (o := .cells #[.int .i64 x270000_3, .slice Ao44 x270001_3.length co44, .int .i64 x270002_3] 30 (0, 0)) (up_ BK269.out)) : gb278 ≠ gb269))
            clear HO_270001
            clear HO275
            clear BK262
            clear BK263
            clear BK269
            clear HB
            have HO_270001 := n0_
            have HO275 := n1_
            have BK262 := n2_
            have BK263 := n3_
            have BK269 := n4_
            have HB := n5_
            have BK278 := n6_
            have GW278 := n7_
            have GE278 := n8_
            have NB262_278 := n9_
            have NB278_262 := n10_
            have NB263_278 := n11_
            have NB278_263 := n12_
            have NB269_278 := n13_
            have NB278_269 := n14_
            clear n0_ n1_ n2_ n3_ n4_ n5_ n6_ n7_ n8_ n9_ n10_ n11_ n12_ n13_ n14_
            clear hb hbox hg
            refine hK.out _ _ ⟨(blk_cell BK269.out 0).trans rfl, (blk_cell BK269.out 1).trans rfl, (blk_cell BK269.out 2).trans rfl, (bh_ HB hw271_0 :)⟩ (fun hHeld => ?_)
            clear hK K
            refine nm_ ?_
            exact norm_ (by simp only [putAll, Act.put, List.setIfInBounds_toArray, List.set_cons_zero, List.set_cons_succ]) (hCont (v274, gb278) _ ⟨hHeld, (by (with_reducible repeat (first | apply Kd.S_alloc | apply Kd.S_drewN | apply Kd.S_drew)); exact Kd.S_mono HO275.out (fun _ hk => hk.2)), (by (with_reducible repeat (first | apply Kd.S_alloc | apply Kd.S_drewN | apply Kd.S_drew)); exact Kd.S_mono HO_270001.out (fun _ hk => hk.2)), (up_ BK262.out), (up_ BK263.out), (up_ BK269.out), (up_ BK278.out), GW278.out, GE278.out, NB262_278.out, NB278_262.out, NB263_278.out, NB278_263.out, NB269_278.out, NB278_269.out, (up_ HB.out)⟩)
           ·skip
            refine box_step ?hg (N := 13) ?hd (cs := #[.int .i64 0, .slice none 0 0, .int .i64 0]) (t := 30) ?hr ?_; (case hd => rfl); (case hg => rfl); (case hr => first | (go_simp; done) | (go_simp; rfl))
            intro gb278 hg w46 hbox hb
            have n0_ := Aside0.mk (Kd.S_below (up_ HO_270001.out) hb)
            have n1_ := bb_ BK262 hb
            have n2_ := bb_ BK263 hb
            have n3_ := bb_ BK269 hb
            have n4_ := bs_ HB hb
            have n5_ := Aside0.mk (hbox)
            have n6_ := gw_ HB hg
            have n7_ := gw_ HB hg
            have n8_ := Aside0.mk ((by rw [hg]; exact Nat.ne_of_lt (blk_lt (g := gb262) (o := .cells #[.int .i64 a0_0, .slice A0_1 l0_1.length c0_1, .int .i64 a0_2] 30 (0, 0)) (up_ BK262.out)) : gb262 ≠ gb278))
            have n9_ := Aside0.mk ((by rw [hg]; exact Nat.ne_of_gt (blk_lt (g := gb262) (o := .cells #[.int .i64 a0_0, .slice A0_1 l0_1.length c0_1, .int .i64 a0_2] 30 (0, 0)) (up_ BK262.out)) : gb278 ≠ gb262))
            have n10_ := Aside0.mk ((by rw [hg]; exact Nat.ne_of_lt (blk_lt (g := gb263) (o := .cells #[.int .i64 x264000_1, .slice none 0 0, .int .i64 x264002_1] 30 (0, 0)) (up_ BK263.out)) : gb263 ≠ gb278))
            have n11_ := Aside0.mk ((by rw [hg]; exact Nat.ne_of_gt (blk_lt (g := gb263) (o := .cells #[.int .i64 x264000_1, .slice none 0 0, .int .i64 x264002_1] 30 (0, 0)) (up_ BK263.out)) : gb278 ≠ gb263))
            have n12_ := Aside0.mk ((by rw [hg]; exact Nat.ne_of_lt (blk_lt (g := gb269) (o := .cells #[.int .i64 x270000_3, .slice Ao44 x270001_3.length co44, .int .i64 x270002_3] 30 (0, 0)) (up_ BK269.out)) : gb269 ≠ gb278))
            have n13_ := Aside0.mk ((by rw [hg]; exact Nat.ne_of_gt (blk_lt (g := gb269) (o := .cells #[.int .i64 x270000_3, .slice Ao44 x270001_3.length co44, .int .i64 x270002_3] 30 (0, 0)) (up_ BK269.out)) : gb278 ≠ gb269))
            clear HO_270001
            clear BK262
            clear BK263
            clear BK269
            clear HB
            have HO_270001 := n0_
            have BK262 := n1_
            have BK263 := n2_
            have BK269 := n3_
            have HB := n4_
            have BK278 := n5_
            have GW278 := n6_
            have GE278 := n7_
            have NB262_278 := n8_
            have NB278_262 := n9_
            have NB263_278 := n10_
            have NB278_263 := n11_
            have NB269_278 := n12_
            have NB278_269 := n13_
            clear n0_ n1_ n2_ n3_ n4_ n5_ n6_ n7_ n8_ n9_ n10_ n11_ n12_ n13_
            clear hb hbox hg
            refine hK.out _ _ ⟨(blk_cell BK269.out 0).trans rfl, (blk_cell BK269.out 1).trans rfl, (blk_cell BK269.out 2).trans rfl, (bh_ HB hw271_0 :)⟩ (fun hHeld => ?_)
            clear hK K
            refine nm_ ?_
            refine one_ (i := 5) (N := some 44) #[true, true, true, true, true, true, false, false, false, true, false, false] rfl rfl (one_of HT_.out (by kernel_rfl)) (by decide) (fun K hK => ?_)
            refine goes_ Try.func14 (by kernel_rfl) rfl #[.agg #[.int .i64 x270000_3, .slice Ao44 x270001_3.length co44, .int .i64 x270002_3], .agg #[.slice A271_0 ((rd_T34 l1 x12_3).f0).length c271_0]] (by rfl) rfl rfl am_ ?_
            with_reducible refine (spec_HearRow.calls k3 x270000_3 _ _ x270001_3 x270002_3 _ _ ((rd_T34 l1 x12_3).f0) t272 t273 t276 false _ ?side1 ?side2 ?side3 ?side4 A26.out).mono ?_
            (case side1 => repeat (first | exact (Kd.S_reads' HO_270001.out).2.2 | (with_reducible refine Kd.C_alloc ?_ _) | (with_reducible refine Kd.C_drewN ?_ _) | (with_reducible refine Kd.C_drew ?_)))
            (case side2 => exact (Kd.S_reads' HO_270001.out).2.1)
            (case side3 => exact Kd.C_below HR271_0.out (up_ HB.out))
            (case side4 => exact HC271_0.out)
            rintro e w47 ⟨v274, rfl, ho0, hb⟩
            refine ⟨_, rfl, ?_⟩
            have n0_ := Aside0.mk (Kd.S_elder' (up_ HO_270001.out) (Kd.S_base ho0) hb)
            have n1_ := Aside0.mk (Kd.S_lower (Kd.S_new' ho0 (Kd.S_lt (up_ HO_270001.out))) (below_size (up_ HB.out)))
            have n2_ := bb_ BK262 hb
            have n3_ := bb_ BK263 hb
            have n4_ := bb_ BK269 hb
            have n5_ := bb_ BK278 hb
            have n6_ := bs_ HB hb
            clear HO_270001
            clear BK262
            clear BK263
            clear BK269
            clear BK278
            clear HB
            have HO_270001 := n0_
            have HO275 := n1_
            have BK262 := n2_
            have BK263 := n3_
            have BK269 := n4_
            have BK278 := n5_
            have HB := n6_
            clear n0_ n1_ n2_ n3_ n4_ n5_ n6_
            (try clear hb)
            (try clear hb2)
            (try clear hk)
            (try clear hi)
            (try clear ho0)
            refine hK.out _ _ ⟨(blk_cell BK269.out 0).trans rfl, (blk_cell BK269.out 1).trans rfl, (blk_cell BK269.out 2).trans rfl, (bh_ HB hw271_0 :)⟩ (fun hHeld => ?_)
            clear hK K
            refine nm_ ?_
            refine pu_ 6 (some 38) ?_
            refine pu_ 7 (some 45) ?_
            refine pu_ 8 (some 46) ?_
            exact norm_ (by simp only [putAll, Act.put, List.setIfInBounds_toArray, List.set_cons_zero, List.set_cons_succ]) (hCont (v274, gb278) _ ⟨hHeld, (by (with_reducible repeat (first | apply Kd.S_alloc | apply Kd.S_drewN | apply Kd.S_drew)); exact Kd.S_mono HO275.out (fun _ hk => hk.2)), (by (with_reducible repeat (first | apply Kd.S_alloc | apply Kd.S_drewN | apply Kd.S_drew)); exact Kd.S_mono HO_270001.out (fun _ hk => hk.2)), (up_ BK262.out), (up_ BK263.out), (up_ BK269.out), (up_ BK278.out), GW278.out, GE278.out, NB262_278.out, NB278_262.out, NB263_278.out, NB278_263.out, NB269_278.out, NB278_269.out, (up_ HB.out)⟩)
          rintro ⟨v274, gb278⟩ w48 ⟨hS_, h0_, h1_, h2_, h3_, h4_, h5_, h6_, h7_, h8_, h9_, h10_, h11_, h12_, h13_, h14_⟩
          have n0_ : Aside0 (Kd.S (Kd.slice 3 (Kd.int .i64)) 25 w48 w.heap.size (fun k_ => some k_ ≠ (.slice Ao44 x270001_3.length co44 : Value).ownBlock) v274 t273) := ⟨h0_⟩
          have n1_ : Aside0 (Kd.S (Kd.slice 3 (Kd.int .i64)) 25 w48 w.heap.size (fun k_ => some k_ ≠ (v274 : Value).ownBlock) (.slice Ao44 x270001_3.length co44) x270001_3) := ⟨h1_⟩
          have n2_ : Aside0 (w48.heap[gb262]? = some (.cells #[.int .i64 a0_0, .slice A0_1 l0_1.length c0_1, .int .i64 a0_2] 30 (0, 0))) := ⟨h2_⟩
          have n3_ : Aside0 (w48.heap[gb263]? = some (.cells #[.int .i64 x264000_1, .slice none 0 0, .int .i64 x264002_1] 30 (0, 0))) := ⟨h3_⟩
          have n4_ : Aside0 (w48.heap[gb269]? = some (.cells #[.int .i64 x270000_3, .slice Ao44 x270001_3.length co44, .int .i64 x270002_3] 30 (0, 0))) := ⟨h4_⟩
          have n5_ : Aside0 (w48.heap[gb278]? = some (.cells #[.int .i64 0, .slice none 0 0, .int .i64 0] 30 (0, 0))) := ⟨h5_⟩
          have n6_ : Aside0 (w.heap.size ≤ gb278) := ⟨h6_⟩
          have n7_ : Aside0 (w.heap.size ≤ gb278) := ⟨h7_⟩
          have n8_ : Aside0 (gb262 ≠ gb278) := ⟨h8_⟩
          have n9_ : Aside0 (gb278 ≠ gb262) := ⟨h9_⟩
          have n10_ : Aside0 (gb263 ≠ gb278) := ⟨h10_⟩
          have n11_ : Aside0 (gb278 ≠ gb263) := ⟨h11_⟩
          have n12_ : Aside0 (gb269 ≠ gb278) := ⟨h12_⟩
          have n13_ : Aside0 (gb278 ≠ gb269) := ⟨h13_⟩
          have n14_ : Aside0 (Below w.heap.size w w48) := ⟨h14_⟩
          clear HO_270001
          clear BK262
          clear BK263
          clear BK269
          clear HB
          clear h0_ h1_ h2_ h3_ h4_ h5_ h6_ h7_ h8_ h9_ h10_ h11_ h12_ h13_ h14_
          have HO275 := n0_
          have HO_270001 := n1_
          have BK262 := n2_
          have BK263 := n3_
          have BK269 := n4_
          have BK278 := n5_
          have GW278 := n6_
          have GE278 := n7_
          have NB262_278 := n8_
          have NB278_262 := n9_
          have NB263_278 := n10_
          have NB278_263 := n11_
          have NB269_278 := n12_
          have NB278_269 := n13_
          have HB := n14_
          clear n0_ n1_ n2_ n3_ n4_ n5_ n6_ n7_ n8_ n9_ n10_ n11_ n12_ n13_ n14_
          have hHeld : w48.cell? ⟨gb269, 0, none⟩ = some (.int .i64 x270000_3) ∧ w48.cell? ⟨gb269, 1, none⟩ = some (.slice Ao44 x270001_3.length co44) ∧ w48.cell? ⟨gb269, 2, none⟩ = some (.int .i64 x270002_3) ∧ w48.cell? (ad271.add (x12_3).toNat) = some (.slice A271_0 ((rd_T34 l1 x12_3).f0).length c271_0) := hS_
          obtain ⟨Ao50, co50, eo50⟩ := Kd.S_slice HO275.out
          (first | subst eo50 | (injection eo50 with f1_ f2_ f3_; have f4_ := f1_.symm; have f5_ := f3_.symm; clear f1_ f2_ f3_; subst f4_; subst f5_))
          refine norm_ (a' := ?_) ?_ ?_
          rotate_left
          ·simp only [putAll, Act.put, List.setIfInBounds_toArray, List.set_cons_zero, List.set_cons_succ]
           rfl
          refine one_ (i := 10) (N := none) #[true, true, true, true, true, true, true, true, true, true, true, false] rfl rfl (one_of HT_.out (by kernel_rfl)) (by decide) (fun K hK => ?_)
          have hs49 : w48.cell? ⟨gb278, 0, none⟩ = some (.int .i64 0) := (blk_cell BK278.out 0).trans rfl
          have hfs49 := blk_frozen BK278.out 0
          have hns49_0 := NB262_278.out
          have hns49_1 := NB263_278.out
          have hns49_2 := NB269_278.out
          have hms49_0 := NB278_262.out
          have hms49_1 := NB278_263.out
          have hms49_2 := NB278_269.out
          have hs51 : w48.cell? ⟨gb278, 1, none⟩ = some (.slice none 0 0) := (blk_cell BK278.out 1).trans rfl
          have hfs51 := blk_frozen BK278.out 1
          have hns51_0 := NB262_278.out
          have hns51_1 := NB263_278.out
          have hns51_2 := NB269_278.out
          have hms51_0 := NB278_262.out
          have hms51_1 := NB278_263.out
          have hms51_2 := NB278_269.out
          have hs52 : w48.cell? ⟨gb278, 2, none⟩ = some (.int .i64 0) := (blk_cell BK278.out 2).trans rfl
          have hfs52 := blk_frozen BK278.out 2
          have hns52_0 := NB262_278.out
          have hns52_1 := NB263_278.out
          have hns52_2 := NB269_278.out
          have hms52_0 := NB278_262.out
          have hms52_1 := NB278_263.out
          have hms52_2 := NB278_269.out
          refine skip_ (w1 := ?_) (by rfl) rfl ?_ ?_
          rotate_left
          ·go_simp
           rfl
          refine hK.out _ _ ⟨((cell_far (p := ⟨gb278, _, none⟩) NB269_278.out _).trans (((cell_far (p := ⟨gb278, _, none⟩) NB269_278.out _).trans (((cell_far (p := ⟨gb278, _, none⟩) NB269_278.out _).trans (hHeld.1)))))), ((cell_far (p := ⟨gb278, _, none⟩) NB269_278.out _).trans (((cell_far (p := ⟨gb278, _, none⟩) NB269_278.out _).trans (((cell_far (p := ⟨gb278, _, none⟩) NB269_278.out _).trans (hHeld.2.1)))))), ((cell_far (p := ⟨gb278, _, none⟩) NB269_278.out _).trans (((cell_far (p := ⟨gb278, _, none⟩) NB269_278.out _).trans (((cell_far (p := ⟨gb278, _, none⟩) NB269_278.out _).trans (hHeld.2.2.1)))))), ((cell_far (p := ⟨gb278, _, none⟩) (by first | exact Nat.ne_of_lt (Nat.lt_of_lt_of_le (by have := World.block_lt_of_cell? _ _ hw271_0; first | rwa [add_block] at this | exact this) GW278.out) | (rw [add_block]; exact Nat.ne_of_lt (Nat.lt_of_lt_of_le (by have := World.block_lt_of_cell? _ _ hw271_0; first | rwa [add_block] at this | exact this) GW278.out)) | (show (Addr.add _ _).block ≠ _; rw [add_block]; exact Nat.ne_of_lt (Nat.lt_of_lt_of_le (by have := World.block_lt_of_cell? _ _ hw271_0; first | rwa [add_block] at this | exact this) GW278.out)) | (dsimp only; exact Nat.ne_of_lt (Nat.lt_of_lt_of_le (by have := World.block_lt_of_cell? _ _ hw271_0; first | rwa [add_block] at this | exact this) GW278.out))) _).trans (((cell_far (p := ⟨gb278, _, none⟩) (by first | exact Nat.ne_of_lt (Nat.lt_of_lt_of_le (by have := World.block_lt_of_cell? _ _ hw271_0; first | rwa [add_block] at this | exact this) GW278.out) | (rw [add_block]; exact Nat.ne_of_lt (Nat.lt_of_lt_of_le (by have := World.block_lt_of_cell? _ _ hw271_0; first | rwa [add_block] at this | exact this) GW278.out)) | (show (Addr.add _ _).block ≠ _; rw [add_block]; exact Nat.ne_of_lt (Nat.lt_of_lt_of_le (by have := World.block_lt_of_cell? _ _ hw271_0; first | rwa [add_block] at this | exact this) GW278.out)) | (dsimp only; exact Nat.ne_of_lt (Nat.lt_of_lt_of_le (by have := World.block_lt_of_cell? _ _ hw271_0; first | rwa [add_block] at this | exact this) GW278.out))) _).trans (((cell_far (p := ⟨gb278, _, none⟩) (by first | exact Nat.ne_of_lt (Nat.lt_of_lt_of_le (by have := World.block_lt_of_cell? _ _ hw271_0; first | rwa [add_block] at this | exact this) GW278.out) | (rw [add_block]; exact Nat.ne_of_lt (Nat.lt_of_lt_of_le (by have := World.block_lt_of_cell? _ _ hw271_0; first | rwa [add_block] at this | exact this) GW278.out)) | (show (Addr.add _ _).block ≠ _; rw [add_block]; exact Nat.ne_of_lt (Nat.lt_of_lt_of_le (by have := World.block_lt_of_cell? _ _ hw271_0; first | rwa [add_block] at this | exact this) GW278.out)) | (dsimp only; exact Nat.ne_of_lt (Nat.lt_of_lt_of_le (by have := World.block_lt_of_cell? _ _ hw271_0; first | rwa [add_block] at this | exact this) GW278.out))) _).trans (hHeld.2.2.2))))))⟩ (fun hHeld => ?_)
          clear hK K
          refine pu_ 11 (some 14) ?_
          refine done_ (done_of HT_.out (by kernel_rfl)) ?_
          try go_wp2
          go_roundg k3
          case measure => have := HK1.out; have := HJ14.out; have := HK3.out; omega
          case rel => exact ⟨(x11_3), (wrap64 (x12_3 + 1)), (x270000_3), (x270001_3), (x270002_3), (.slice Ao44 x270001_3.length co44), rs_, rs_, H', ⟨by have := HK1.out; have := HJ14.out; have := HK3.out; omega⟩, ⟨by (with_reducible repeat (first | apply Kd.S_alloc | apply Kd.S_drewN | apply Kd.S_drew)); exact Kd.S_mono (Kd.S_far (p := ⟨gb278, 2, none⟩) (Kd.S_far (p := ⟨gb278, 1, none⟩) (Kd.S_far (p := ⟨gb278, 0, none⟩) (Kd.S_types HO_270001.out BK278.out (by decide)) (fun _ hk => hk.2) (.int .i64 t272)) (fun _ hk => hk.2) (.slice Ao50 t273.length co50)) (fun _ hk => hk.2) (.int .i64 t276)) (fun _ hk => trivial)⟩, ⟨by (with_reducible repeat (first | refine blk_drewN ?_ _ | refine blk_drew ?_ | refine blk_alloc ?_ _)); refine blk_far ?_ NB262_278.out _; (with_reducible repeat (first | refine blk_drewN ?_ _ | refine blk_drew ?_ | refine blk_alloc ?_ _)); refine blk_far ?_ NB262_278.out _; (with_reducible repeat (first | refine blk_drewN ?_ _ | refine blk_drew ?_ | refine blk_alloc ?_ _)); refine blk_far ?_ NB262_278.out _; (with_reducible repeat (first | refine blk_drewN ?_ _ | refine blk_drew ?_ | refine blk_alloc ?_ _)); exact BK262.out⟩, ⟨by (with_reducible repeat (first | refine blk_drewN ?_ _ | refine blk_drew ?_ | refine blk_alloc ?_ _)); refine blk_far ?_ NB263_278.out _; (with_reducible repeat (first | refine blk_drewN ?_ _ | refine blk_drew ?_ | refine blk_alloc ?_ _)); refine blk_far ?_ NB263_278.out _; (with_reducible repeat (first | refine blk_drewN ?_ _ | refine blk_drew ?_ | refine blk_alloc ?_ _)); refine blk_far ?_ NB263_278.out _; (with_reducible repeat (first | refine blk_drewN ?_ _ | refine blk_drew ?_ | refine blk_alloc ?_ _)); exact BK263.out⟩, ⟨by (with_reducible repeat (first | refine blk_drewN ?_ _ | refine blk_drew ?_ | refine blk_alloc ?_ _)); refine blk_far ?_ NB269_278.out _; (with_reducible repeat (first | refine blk_drewN ?_ _ | refine blk_drew ?_ | refine blk_alloc ?_ _)); refine blk_far ?_ NB269_278.out _; (with_reducible repeat (first | refine blk_drewN ?_ _ | refine blk_drew ?_ | refine blk_alloc ?_ _)); refine blk_far ?_ NB269_278.out _; (with_reducible repeat (first | refine blk_drewN ?_ _ | refine blk_drew ?_ | refine blk_alloc ?_ _)); exact BK269.out⟩, ⟨up_ HB.out⟩⟩
        ·replace H := itb_ H; rcases H with ⟨rfl, H⟩ | ⟨rfl, H⟩
         ·have H' := Aside0.mk H
          clear H
          go_wp2
          go_roundg k3
          case measure => have := HK1.out; have := HJ14.out; have := HK3.out; omega
          case rel => exact ⟨(wrap64 (x9_1 + 1)), (wrap64 (x10_1 + 1)), (x264000_1), (x264002_1), (x270000_3), (x270001_3), (x270002_3), (u270001), rs_, rs_, H', ⟨by have := HK1.out; have := HJ14.out; have := HK3.out; omega⟩, ⟨up_ HO_270001.out⟩, ⟨up_ BK262.out⟩, ⟨up_ BK263.out⟩, ⟨up_ BK269.out⟩, ⟨up_ HB.out⟩⟩
         ·simp only [Option.some.injEq, Prod.mk.injEq] at H
          obtain ⟨rfl, rfl, rfl, rfl⟩ := H
          have hnb54 := NB269_262.out
          have hnc54 := NB262_269.out
          have hnb55 := NB269_263.out
          have hnc55 := NB263_269.out
          obtain ⟨hcz56_0, hcz56_1, hcz56_2⟩ := c3_ BK269
          have hfz56_0 := blk_frozen BK269.out 0
          have hfz56_1 := blk_frozen BK269.out 1
          have hfz56_2 := blk_frozen BK269.out 2
          have hnb57 := NB263_262.out
          have hnc57 := NB262_263.out
          obtain ⟨hcz58_0, hcz58_1, hcz58_2⟩ := c3_ BK263
          have hfz58_0 := blk_frozen BK263.out 0
          have hfz58_1 := blk_frozen BK263.out 1
          have hfz58_2 := blk_frozen BK263.out 2
          obtain ⟨Ao59, co59, eo59⟩ := Kd.S_slice HO_270001.out
          subst eo59
          go_wp2
          refine bodyPost_ret (results_ct rfl _ _ gb263 30 #[.int .i64 x270000_3, .slice Ao59 x270001_3.length co59, .int .i64 x270002_3] (0, 0) _ rfl (by (with_reducible repeat (first | refine blk_drewN ?_ _ | refine blk_drew ?_ | refine blk_alloc ?_ _)); refine blk_put (cs := #[.int .i64 x270000_3, .slice Ao59 x270001_3.length co59, .int .i64 x264002_1]) ?_ 2 _ rfl; (with_reducible repeat (first | refine blk_drewN ?_ _ | refine blk_drew ?_ | refine blk_alloc ?_ _)); refine blk_put (cs := #[.int .i64 x270000_3, .slice none 0 0, .int .i64 x264002_1]) ?_ 1 _ rfl; (with_reducible repeat (first | refine blk_drewN ?_ _ | refine blk_drew ?_ | refine blk_alloc ?_ _)); refine blk_put (cs := #[.int .i64 x264000_1, .slice none 0 0, .int .i64 x264002_1]) ?_ 0 _ rfl; (with_reducible repeat (first | refine blk_drewN ?_ _ | refine blk_drew ?_ | refine blk_alloc ?_ _)); exact BK263.out) Try.underlying30 rfl (by kernel_rfl)) rfl ?_
          exact ⟨_, re_, by (with_reducible repeat (first | apply Kd.S_alloc | apply Kd.S_drewN | apply Kd.S_drew)); exact Kd.S_mono (Kd.S_far (p := ⟨gb263, 2, none⟩) (Kd.S_far (p := ⟨gb263, 1, none⟩) (Kd.S_far (p := ⟨gb263, 0, none⟩) (Kd.S_types HO_270001.out BK263.out (by decide)) (fun _ hk => hk.2) (.int .i64 x270000_3)) (fun _ hk => hk.2) (.slice Ao59 x270001_3.length co59)) (fun _ hk => hk.2) (.int .i64 x270002_3)) (fun _ hk => trivial), up_ HB.out⟩
     ·simp only [Option.some.injEq, Prod.mk.injEq] at H
      obtain ⟨rfl, rfl, rfl, rfl⟩ := H
      have hnb60 := NB269_262.out
      have hnc60 := NB262_269.out
      have hnb61 := NB269_263.out
      have hnc61 := NB263_269.out
      obtain ⟨hcz62_0, hcz62_1, hcz62_2⟩ := c3_ BK269
      have hfz62_0 := blk_frozen BK269.out 0
      have hfz62_1 := blk_frozen BK269.out 1
      have hfz62_2 := blk_frozen BK269.out 2
      have hnb63 := NB263_262.out
      have hnc63 := NB262_263.out
      obtain ⟨hcz64_0, hcz64_1, hcz64_2⟩ := c3_ BK263
      have hfz64_0 := blk_frozen BK263.out 0
      have hfz64_1 := blk_frozen BK263.out 1
      have hfz64_2 := blk_frozen BK263.out 2
      obtain ⟨Ao65, co65, eo65⟩ := Kd.S_slice HO_270001.out
      subst eo65
      go_wp2
      refine bodyPost_ret (results_ct rfl _ _ gb263 30 #[.int .i64 x270000_1, .slice Ao65 x270001_1.length co65, .int .i64 x270002_1] (0, 0) _ rfl (by (with_reducible repeat (first | refine blk_drewN ?_ _ | refine blk_drew ?_ | refine blk_alloc ?_ _)); refine blk_put (cs := #[.int .i64 x270000_1, .slice Ao65 x270001_1.length co65, .int .i64 x264002_1]) ?_ 2 _ rfl; (with_reducible repeat (first | refine blk_drewN ?_ _ | refine blk_drew ?_ | refine blk_alloc ?_ _)); refine blk_put (cs := #[.int .i64 x270000_1, .slice none 0 0, .int .i64 x264002_1]) ?_ 1 _ rfl; (with_reducible repeat (first | refine blk_drewN ?_ _ | refine blk_drew ?_ | refine blk_alloc ?_ _)); refine blk_put (cs := #[.int .i64 x264000_1, .slice none 0 0, .int .i64 x264002_1]) ?_ 0 _ rfl; (with_reducible repeat (first | refine blk_drewN ?_ _ | refine blk_drew ?_ | refine blk_alloc ?_ _)); exact BK263.out) Try.underlying30 rfl (by kernel_rfl)) rfl ?_
      exact ⟨_, re_, by (with_reducible repeat (first | apply Kd.S_alloc | apply Kd.S_drewN | apply Kd.S_drew)); exact Kd.S_mono (Kd.S_far (p := ⟨gb263, 2, none⟩) (Kd.S_far (p := ⟨gb263, 1, none⟩) (Kd.S_far (p := ⟨gb263, 0, none⟩) (Kd.S_types HO_270001.out BK263.out (by decide)) (fun _ hk => hk.2) (.int .i64 x270000_1)) (fun _ hk => hk.2) (.slice Ao65 x270001_1.length co65)) (fun _ hk => hk.2) (.int .i64 x270002_1)) (fun _ hk => trivial), up_ HB.out⟩

end Go.Proofs.Ytkddpilambnicaa.PFnExactHearAll
