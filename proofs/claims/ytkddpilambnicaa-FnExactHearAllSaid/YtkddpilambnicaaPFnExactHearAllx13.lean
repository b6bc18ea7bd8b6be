/- Walks of Go functions that the law FnExactHearAll uses: written by this session's program out of the kit's printer; each shows that a call comes to the answers of the Lean function beside it. Conditions: each contract's own. -/
import Derived.Test.YtkddpilambnicaaPFnExactHearAllx0
import Derived.Test.YtkddpilambnicaaPFnExactHearAllx1
import Derived.Test.YtkddpilambnicaaPFnExactHearAllx9
import Derived.Test.YtkddpilambnicaaPFnExactHearAllx10
import Derived.Test.YtkddpilambnicaaPFnExactHearAllx11
import Derived.Test.YtkddpilambnicaaPFnExactHearAllx12
namespace Go.Proofs.Ytkddpilambnicaa.PFnExactHearAll
open Go.RowKit Go.Proofs.YtkddpilambnicaaW.PrintWords Go.Proofs.YtkddpilambnicaaW.PrintLast Go.Proofs.YtkddpilambnicaaW.PrintMore Go.Proofs.Ytkddpilambnicaa.Mac Go.Proofs.Ytkddpilambnicaa.Law
attribute [local go_sem] max2_int min2_int max_two min_two max_three min_three max_four min_four   -- for this text's walks alone
set_option linter.unusedVariables false
set_option linter.unusedSimpArgs false

/-! ### impl_AreRows: function 94 -/
def impl_AreRows.l0 : Nat → List (S34) → Int → List (S34) → Int → Int → Option (Bool)
 | 0, _, _, _, _, _ => none
 | k + 1, x0, x1, x7, x8, x9 => if x9 < x8 then (if 0 ≤ x9 then (if x9 < (x7.length : Int) then ((impl_IsRow.f k ((rd_T34 x7 x9).f0) x1).bind fun t410 => (if t410 = true then (impl_AreRows.l0 k x0 x1 x7 x8 (wrap64 (x9 + 1))) else (some false))) else (none)) else (none)) else ((impl_within.f x1 1 5).bind fun t411 => (if t411 = true then (some (decide ((x0.length : Int) ≤ 20))) else (some false)))
def impl_AreRows.f (k : Nat) (l0 : List (S34)) (a1 : Int) : Option (Bool) := impl_AreRows.l0 k l0 a1 l0 (l0.length : Int) 0
set_option maxHeartbeats 8000000 in
set_option maxRecDepth 100000 in
theorem impl_AreRows.calls (k : Nat) (A0 : Option Addr) (c0 : Nat) (l0 : List (S34)) (a1 : Int) (r : Bool) (w : World) (hr0 : Kd.C k34 w A0 l0.length l0) (hc0 : l0.length ≤ c0) (h : impl_AreRows.f k l0 a1 = some r) :
  Calls Try.prog 94 #[.slice A0 l0.length c0, .int .i64 a1] w fun e w' => e = .returned (.bool r) ∧ Below w.heap.size w w' := by
 have hu34 := Try.underlying34
 have HR0 := Aside0.mk hr0
 have HC0 := Aside0.mk hc0
 clear hr0 hc0
 have HB := Aside0.mk (Below.refl w.heap.size w)
 have H : (impl_AreRows.l0 k l0 a1 l0 (l0.length : Int) 0) = some r := h
 clear h
 have H' := Aside0.mk H
 clear H
 go_enter Try.func94, Try.ntmps94
 go_wp2
 go_loopg [9] k (fun kq v9 w' => ∃ (x9_1 : Int), v9 = .int .i64 x9_1 ∧ Aside0 (impl_AreRows.l0 kq l0 a1 l0 (l0.length : Int) x9_1 = some r) ∧ Aside0 (kq ≤ k) ∧ Aside0 (Below w.heap.size w w'))
 case atStart => exact ⟨(0), rs_, H', ⟨Nat.le_refl _⟩, ⟨up_ HB.out⟩⟩
 case round =>
  clear H'
  try clear p2
  obtain ⟨x9_1, rfl, HA, HK1, HB⟩ := hrel
  cases gk with
  | zero => exact absurd HA.out (by simp [impl_AreRows.l0])
  | succ k1 =>
   have H := HA.out
   clear HA
   simp only [impl_AreRows.l0] at H
   replace H := its_ H; rcases H with ⟨c3b0, H⟩ | ⟨c3b0, H⟩
   ·replace H := its_ H; rcases H with ⟨c4b0, H⟩ | ⟨_, ⟨⟩⟩
    replace H := its_ H; rcases H with ⟨c5b0, H⟩ | ⟨_, ⟨⟩⟩
    replace H := bnd_ H; obtain ⟨t410, A6, H⟩ := H
    replace H := itb_ H; rcases H with ⟨rfl, H⟩ | ⟨rfl, H⟩
    ·have H' := Aside0.mk H
     clear H
     have p408 : 0 ≤ (x9_1 : Int) := od_
     have q408 : x9_1 < (l0.length : Int) := od_
     obtain ⟨ad408, A408_0, c408_0, e408, hx408_0, hl408_0, hi408_0⟩ := at_T34 HR0.out x9_1 p408 q408
     cases e408
     replace hx408_0 := bh_ HB hx408_0
     have HR408_0 := Aside0.mk hi408_0
     have HC408_0 := Aside0.mk hl408_0
     clear hi408_0 hl408_0
     replace p408 := eq_true p408
     replace q408 := eq_true q408
     go_wp2_with (first | ((refine gd_ 6 ?_); (try (refine gate_guard (by rfl) ?_; dsimp only)); refine bx_ 6 #[.slice none 0 0] 34 ?_; intro gb409 hg w8 hbox hb; have BK409 := Aside0.mk (hbox); have GW409 := gw_ HB hg; have GE409 := gw_ HB hg; replace HB := bs_ HB hb; clear hb hbox hg; have hcz9_0 := c1_ BK409; have hfz9_0 := blk_frozen BK409.out 0) | ((refine gc_ 83 ?_); refine gl_ (some 15) Try.func83 (impl_IsRow.calls k1 _ _ ((rd_T34 l0 x9_1).f0) a1 true _ (Kd.C_below HR408_0.out (up_ HB.out)) HC408_0.out A6.out) ?_; rintro e w10 ⟨rfl, hb⟩; refine ⟨_, rfl, ?_⟩; replace BK409 := Aside0.mk (blk_below (g := gb409) (o := .cells #[.slice A408_0 ((rd_T34 l0 x9_1).f0).length c408_0] 34 (0, 0)) (by (with_reducible repeat (first | refine blk_drewN ?_ _ | refine blk_drew ?_ | refine blk_alloc ?_ _)); refine blk_put (cs := #[.slice none 0 0]) ?_ 0 _ rfl; (with_reducible repeat (first | refine blk_drewN ?_ _ | refine blk_drew ?_ | refine blk_alloc ?_ _)); exact BK409.out) hb); replace HB := bs_ HB hb; (try clear hb); (try clear hb2); (try clear hk); (try clear hi)))
     go_roundg k1
     case measure => have := HK1.out; omega
     case rel => exact ⟨(wrap64 (x9_1 + 1)), rs_, H', ⟨by have := HK1.out; omega⟩, ⟨up_ HB.out⟩⟩
    ·obtain rfl := Option.some.inj H
     have p408 : 0 ≤ (x9_1 : Int) := od_
     have q408 : x9_1 < (l0.length : Int) := od_
     obtain ⟨ad408, A408_0, c408_0, e408, hx408_0, hl408_0, hi408_0⟩ := at_T34 HR0.out x9_1 p408 q408
     cases e408
     replace hx408_0 := bh_ HB hx408_0
     have HR408_0 := Aside0.mk hi408_0
     have HC408_0 := Aside0.mk hl408_0
     clear hi408_0 hl408_0
     replace p408 := eq_true p408
     replace q408 := eq_true q408
     go_wp2_with (first | ((refine gd_ 6 ?_); (try (refine gate_guard (by rfl) ?_; dsimp only)); refine bx_ 6 #[.slice none 0 0] 34 ?_; intro gb409 hg w11 hbox hb; have BK409 := Aside0.mk (hbox); have GW409 := gw_ HB hg; have GE409 := gw_ HB hg; replace HB := bs_ HB hb; clear hb hbox hg; have hcz12_0 := c1_ BK409; have hfz12_0 := blk_frozen BK409.out 0) | ((refine gc_ 83 ?_); refine gl_ (some 15) Try.func83 (impl_IsRow.calls k1 _ _ ((rd_T34 l0 x9_1).f0) a1 false _ (Kd.C_below HR408_0.out (up_ HB.out)) HC408_0.out A6.out) ?_; rintro e w13 ⟨rfl, hb⟩; refine ⟨_, rfl, ?_⟩; replace BK409 := Aside0.mk (blk_below (g := gb409) (o := .cells #[.slice A408_0 ((rd_T34 l0 x9_1).f0).length c408_0] 34 (0, 0)) (by (with_reducible repeat (first | refine blk_drewN ?_ _ | refine blk_drew ?_ | refine blk_alloc ?_ _)); refine blk_put (cs := #[.slice none 0 0]) ?_ 0 _ rfl; (with_reducible repeat (first | refine blk_drewN ?_ _ | refine blk_drew ?_ | refine blk_alloc ?_ _)); exact BK409.out) hb); replace HB := bs_ HB hb; (try clear hb); (try clear hb2); (try clear hk); (try clear hi)))
     go_ret
     exact ⟨re_, up_ HB.out⟩
   ·replace H := bnd_ H; obtain ⟨t411, A14, H⟩ := H
    replace H := itb_ H; rcases H with ⟨rfl, H⟩ | ⟨rfl, H⟩
    ·obtain rfl := Option.some.inj H
     go_wp2_with (first | ((refine gc_ 98 ?_); refine gq_ (some 19) Try.func98 (impl_within.calls a1 1 5 true _ A14.out) (fun nd => ?_)))
     go_ret
     exact ⟨re_, up_ HB.out⟩
    ·obtain rfl := Option.some.inj H
     go_wp2_with (first | ((refine gc_ 98 ?_); refine gq_ (some 19) Try.func98 (impl_within.calls a1 1 5 false _ A14.out) (fun nd => ?_)))
     go_ret
     exact ⟨re_, up_ HB.out⟩

/-! ### impl_HearAll: function 26 -/
mutual
def impl_HearAll.j0 : Nat → List (S34) → Int → Int → Bool → Int → List (List Int) → Int → Option (Int × (List (List Int)) × Int × Int)
 | 0, _, _, _, _, _, _, _ => none
 | k + 1, x1, x2, x9, x25, x420000, x420001, x420002 => if x25 = true then (some (x420000, x420001, x420002, 0)) else (impl_HearAll.l0 k x1 x9 (mx x2 0) 0 x420000 x420001 x420002)
def impl_HearAll.l0 : Nat → List (S34) → Int → Int → Int → Int → List (List Int) → Int → Option (Int × (List (List Int)) × Int × Int)
 | 0, _, _, _, _, _, _, _ => none
 | k + 1, x1, x9, x28, x29, x420000, x420001, x420002 => if x29 < x28 then (impl_HearAll.l1 k x1 x9 false x28 x29 x1 (x1.length : Int) 0 x420000 x420001 x420002) else (some (x420000, x420001, x420002, x9))
def impl_HearAll.l1 : Nat → List (S34) → Int → Bool → Int → Int → List (S34) → Int → Int → Int → List (List Int) → Int → Option (Int × (List (List Int)) × Int × Int)
 | 0, _, _, _, _, _, _, _, _, _, _, _ => none
 | k + 1, x1, x9, x10, x28, x29, x31, x32, x33, x420000, x420001, x420002 => if x33 < x32 then (if 0 ≤ x33 then (if x33 < (x31.length : Int) then ((impl_HearRow.f k x420000 x420001 x420002 ((rd_T34 x31 x33).f0)).bind fun bt423 => (if x10 = true then (impl_HearAll.l1 k x1 x9 true x28 x29 x31 x32 (wrap64 (x33 + 1)) bt423.1 bt423.2.1 bt423.2.2.1) else (impl_HearAll.l1 k x1 x9 bt423.2.2.2 x28 x29 x31 x32 (wrap64 (x33 + 1)) bt423.1 bt423.2.1 bt423.2.2.1))) else (none)) else (none)) else (if x10 = true then (impl_HearAll.l0 k x1 (wrap64 (x9 + 1)) x28 (wrap64 (x29 + 1)) x420000 x420001 x420002) else (some (x420000, x420001, x420002, x9)))
end
def impl_HearAll.f (k : Nat) (a0_0 : Int) (l0_1 : List (List Int)) (a0_2 : Int) (l1 : List (S34)) (a2 : Int) : Option (Int × (List (List Int)) × Int × Int) := (impl_Learner_copied.f k a0_0 l0_1 a0_2).bind fun bt414 => ((impl_AreRows.f k l1 a0_0).bind fun t420 => (if t420 = true then (impl_HearAll.j0 k l1 a2 0 (decide (a2 > 30)) bt414.1 bt414.2.1 bt414.2.2) else (impl_HearAll.j0 k l1 a2 0 true bt414.1 bt414.2.1 bt414.2.2)))
set_option maxHeartbeats 8000000 in
set_option maxRecDepth 100000 in
theorem impl_HearAll.calls (k : Nat) (a0_0 : Int) (A0_1 : Option Addr) (c0_1 : Nat) (l0_1 : List (List Int)) (a0_2 : Int) (A1 : Option Addr) (c1 : Nat) (l1 : List (S34)) (a2 : Int) (r1 : Int) (r2 : List (List Int)) (r3 : Int) (r4 : Int) (w : World) (hr0_1 : Kd.C (Kd.slice 3 (Kd.int .i64)) w A0_1 l0_1.length l0_1) (hc0_1 : l0_1.length ≤ c0_1) (hr1 : Kd.C k34 w A1 l1.length l1) (hc1 : l1.length ≤ c1) (h : impl_HearAll.f k a0_0 l0_1 a0_2 l1 a2 = some (r1, r2, r3, r4)) :
  Calls Try.prog 26 #[.agg #[.int .i64 a0_0, .slice A0_1 l0_1.length c0_1, .int .i64 a0_2], .slice A1 l1.length c1, .int .i64 a2] w fun e w' => ∃ v1_ : Value, e = .returned (.tuple #[.agg #[.int .i64 r1, v1_, .int .i64 r3], .int .i64 r4]) ∧ Kd.S (Kd.slice 3 (Kd.int .i64)) 25 w' w.heap.size (fun _ => True) v1_ r2 ∧ Below w.heap.size w w' := by
 have hu30 := Try.underlying30
 have hu34 := Try.underlying34
 have HR0_1 := Aside0.mk hr0_1
 have HC0_1 := Aside0.mk hc0_1
 clear hr0_1 hc0_1
 have HR1 := Aside0.mk hr1
 have HC1 := Aside0.mk hc1
 clear hr1 hc1
 have HB := Aside0.mk (Below.refl w.heap.size w)
 have H : ((impl_Learner_copied.f k a0_0 l0_1 a0_2).bind fun bt414 => ((impl_AreRows.f k l1 a0_0).bind fun t420 => (if t420 = true then (impl_HearAll.j0 k l1 a2 0 (decide (a2 > 30)) bt414.1 bt414.2.1 bt414.2.2) else (impl_HearAll.j0 k l1 a2 0 true bt414.1 bt414.2.1 bt414.2.2)))) = some (r1, r2, r3, r4) := h
 clear h
 replace H := Option.bind_eq_some_iff.mp H
 obtain ⟨⟨t414, t415, t418⟩, A40, H⟩ := H
 replace H : ((impl_AreRows.f k l1 a0_0).bind fun t420 => (if t420 = true then (impl_HearAll.j0 k l1 a2 0 (decide (a2 > 30)) t414 t415 t418) else (impl_HearAll.j0 k l1 a2 0 true t414 t415 t418))) = some (r1, r2, r3, r4) := H
 have A4 := Aside0.mk A40
 clear A40
 have HC5 := Aside0.mk H
 clear H
 go_enter Try.func26, Try.ntmps26
 go_upto_region 2 with (first | ((refine gd_ 3 ?_); refine bx_ 3 #[.int .i64 a0_0, .slice A0_1 l0_1.length c0_1, .int .i64 a0_2] 30 ?_; intro gb412 hg w6 hbox hb; have BK412 := Aside0.mk (hbox); have GW412 := gw_ HB hg; have GE412 := gw_ HB hg; replace HB := bs_ HB hb; clear hb hbox hg) | ((refine gd_ 6 ?_); refine bx_ 6 #[.int .i64 0, .slice none 0 0, .int .i64 0] 30 ?_; intro gb413 hg w7 hbox hb; have BK413 := Aside0.mk (hbox); have GW413 := gw_ HB hg; have GE413 := gw_ HB hg; replace HB := bs_ HB hb; have NB412_413 := Aside0.mk ((by rw [hg]; exact Nat.ne_of_lt (blk_lt (g := gb412) (o := .cells #[.int .i64 a0_0, .slice A0_1 l0_1.length c0_1, .int .i64 a0_2] 30 (0, 0)) (up_ BK412.out)) : gb412 ≠ gb413)); have NB413_412 := Aside0.mk ((by rw [hg]; exact Nat.ne_of_gt (blk_lt (g := gb412) (o := .cells #[.int .i64 a0_0, .slice A0_1 l0_1.length c0_1, .int .i64 a0_2] 30 (0, 0)) (up_ BK412.out)) : gb413 ≠ gb412)); replace BK412 := bb_ BK412 hb; clear hb hbox hg; have hnb8 := NB412_413.out; have hnc8 := NB413_412.out; obtain ⟨hcz9_0, hcz9_1, hcz9_2⟩ := c3_ BK412; have hfz9_0 := blk_frozen BK412.out 0; have hfz9_1 := blk_frozen BK412.out 1; have hfz9_2 := blk_frozen BK412.out 2) | ((refine gc_ 86 ?_); refine gl_ (some 16) Try.func86 (impl_Learner_copied.calls k a0_0 _ _ l0_1 a0_2 t414 t415 t418 _ (Kd.C_below HR0_1.out (up_ HB.out)) HC0_1.out A4.out) ?_; rintro e w10 ⟨v416, rfl, ho0, hb⟩; refine ⟨_, rfl, ?_⟩; have HO417 := Aside0.mk (Kd.S_lower ho0 (below_size (up_ HB.out))); replace BK412 := bb_ BK412 hb; replace BK413 := bb_ BK413 hb; replace HB := bs_ HB hb; (try clear hb); (try clear hb2); (try clear hk); (try clear hi); (try clear ho0)) | ((refine gd_ 8 ?_); refine bx_ 8 #[.int .i64 0, .slice none 0 0, .int .i64 0] 30 ?_; intro gb419 hg w11 hbox hb; replace HO417 := Aside0.mk (Kd.S_below (up_ HO417.out) hb); have BK419 := Aside0.mk (hbox); have GW419 := gw_ HB hg; have GE419 := gw_ HB hg; replace HB := bs_ HB hb; have NB412_419 := Aside0.mk ((by rw [hg]; exact Nat.ne_of_lt (blk_lt (g := gb412) (o := .cells #[.int .i64 a0_0, .slice A0_1 l0_1.length c0_1, .int .i64 a0_2] 30 (0, 0)) (up_ BK412.out)) : gb412 ≠ gb419)); have NB419_412 := Aside0.mk ((by rw [hg]; exact Nat.ne_of_gt (blk_lt (g := gb412) (o := .cells #[.int .i64 a0_0, .slice A0_1 l0_1.length c0_1, .int .i64 a0_2] 30 (0, 0)) (up_ BK412.out)) : gb419 ≠ gb412)); replace BK412 := bb_ BK412 hb; have NB413_419 := Aside0.mk ((by rw [hg]; exact Nat.ne_of_lt (blk_lt (g := gb413) (o := .cells #[.int .i64 0, .slice none 0 0, .int .i64 0] 30 (0, 0)) (up_ BK413.out)) : gb413 ≠ gb419)); have NB419_413 := Aside0.mk ((by rw [hg]; exact Nat.ne_of_gt (blk_lt (g := gb413) (o := .cells #[.int .i64 0, .slice none 0 0, .int .i64 0] 30 (0, 0)) (up_ BK413.out)) : gb419 ≠ gb413)); replace BK413 := bb_ BK413 hb; clear hb hbox hg; have hnb12 := NB419_412.out; have hnc12 := NB412_419.out; have hnb13 := NB419_413.out; have hnc13 := NB413_419.out; obtain ⟨hcz14_0, hcz14_1, hcz14_2⟩ := c3_ BK419; have hfz14_0 := blk_frozen BK419.out 0; have hfz14_1 := blk_frozen BK419.out 1; have hfz14_2 := blk_frozen BK419.out 2; obtain ⟨Ao15, co15, eo15⟩ := Kd.S_slice HO417.out; subst eo15))
 (try simp only [Act.put, List.setIfInBounds_toArray, List.set_cons_zero, List.set_cons_succ])
 go_cut [25] (fun v25 wc => ∃ (kq : Nat) (x25_4 : Bool), v25 = .bool x25_4 ∧ Aside0 (impl_HearAll.j0 kq l1 a2 0 x25_4 t414 t415 t418 = some (r1, r2, r3, r4)) ∧ Aside0 (kq ≤ k) ∧ Aside0 (Kd.S (Kd.slice 3 (Kd.int .i64)) 25 wc w.heap.size (fun _ => True) (.slice Ao15 t415.length co15) t415) ∧ Aside0 (wc.heap[gb412]? = some (.cells #[.int .i64 a0_0, (.slice A0_1 l0_1.length c0_1), .int .i64 a0_2] 30 (0, 0))) ∧ Aside0 (wc.heap[gb413]? = some (.cells #[.int .i64 0, (.slice none 0 0), .int .i64 0] 30 (0, 0))) ∧ Aside0 (wc.heap[gb419]? = some (.cells #[.int .i64 t414, (.slice Ao15 t415.length co15), .int .i64 t418] 30 (0, 0))) ∧ Aside0 (Below w.heap.size w wc))
 case first =>
  have H := HC5.out
  clear HC5
  replace H := Option.bind_eq_some_iff.mp H
  obtain ⟨t420, A160, H⟩ := H
  replace H : (if t420 = true then (impl_HearAll.j0 k l1 a2 0 (decide (a2 > 30)) t414 t415 t418) else (impl_HearAll.j0 k l1 a2 0 true t414 t415 t418)) = some (r1, r2, r3, r4) := H
  have A16 := Aside0.mk A160
  clear A160
  replace H := itb_ H; rcases H with ⟨rfl, H⟩ | ⟨rfl, H⟩
  ·have H' := Aside0.mk H
   clear H
   have hnb18 := NB412_413.out
   have hnc18 := NB413_412.out
   have hnb19 := NB412_419.out
   have hnc19 := NB419_412.out
   obtain ⟨hcz20_0, hcz20_1, hcz20_2⟩ := c3_ BK412
   have hfz20_0 := blk_frozen BK412.out 0
   have hfz20_1 := blk_frozen BK412.out 1
   have hfz20_2 := blk_frozen BK412.out 2
   go_wp2_with (first | ((refine gc_ 94 ?_); refine gl_ (some 20) Try.func94 (impl_AreRows.calls k _ _ l1 a0_0 true _ (Kd.C_below HR1.out (up_ HB.out)) HC1.out A16.out) ?_; rintro e w21 ⟨rfl, hb⟩; refine ⟨_, rfl, ?_⟩; replace HO417 := Aside0.mk (Kd.S_below (by (with_reducible repeat (first | apply Kd.S_alloc | apply Kd.S_drewN | apply Kd.S_drew)); exact (Kd.S_mono (Kd.S_far (p := ⟨gb419, 2, none⟩) (Kd.S_far (p := ⟨gb419, 1, none⟩) (Kd.S_far (p := ⟨gb419, 0, none⟩) (Kd.S_types HO417.out BK419.out (by decide)) (fun _ hk => hk.2) (.int .i64 t414)) (fun _ hk => hk.2) (.slice Ao15 t415.length co15)) (fun _ hk => hk.2) (.int .i64 t418)) (fun _ h_ => h_.1))) hb); replace BK412 := Aside0.mk (blk_below (g := gb412) (o := .cells #[.int .i64 a0_0, .slice A0_1 l0_1.length c0_1, .int .i64 a0_2] 30 (0, 0)) (by (with_reducible repeat (first | refine blk_drewN ?_ _ | refine blk_drew ?_ | refine blk_alloc ?_ _)); refine blk_far ?_ NB412_419.out _; (with_reducible repeat (first | refine blk_drewN ?_ _ | refine blk_drew ?_ | refine blk_alloc ?_ _)); refine blk_far ?_ NB412_419.out _; (with_reducible repeat (first | refine blk_drewN ?_ _ | refine blk_drew ?_ | refine blk_alloc ?_ _)); refine blk_far ?_ NB412_419.out _; (with_reducible repeat (first | refine blk_drewN ?_ _ | refine blk_drew ?_ | refine blk_alloc ?_ _)); exact BK412.out) hb); replace BK413 := Aside0.mk (blk_below (g := gb413) (o := .cells #[.int .i64 0, .slice none 0 0, .int .i64 0] 30 (0, 0)) (by (with_reducible repeat (first | refine blk_drewN ?_ _ | refine blk_drew ?_ | refine blk_alloc ?_ _)); refine blk_far ?_ NB413_419.out _; (with_reducible repeat (first | refine blk_drewN ?_ _ | refine blk_drew ?_ | refine blk_alloc ?_ _)); refine blk_far ?_ NB413_419.out _; (with_reducible repeat (first | refine blk_drewN ?_ _ | refine blk_drew ?_ | refine blk_alloc ?_ _)); refine blk_far ?_ NB413_419.out _; (with_reducible repeat (first | refine blk_drewN ?_ _ | refine blk_drew ?_ | refine blk_alloc ?_ _)); exact BK413.out) hb); replace BK419 := Aside0.mk (blk_below (g := gb419) (o := .cells #[.int .i64 t414, .slice Ao15 t415.length co15, .int .i64 t418] 30 (0, 0)) (by (with_reducible repeat (first | refine blk_drewN ?_ _ | refine blk_drew ?_ | refine blk_alloc ?_ _)); refine blk_put (cs := #[.int .i64 t414, .slice Ao15 t415.length co15, .int .i64 0]) ?_ 2 _ rfl; (with_reducible repeat (first | refine blk_drewN ?_ _ | refine blk_drew ?_ | refine blk_alloc ?_ _)); refine blk_put (cs := #[.int .i64 t414, .slice none 0 0, .int .i64 0]) ?_ 1 _ rfl; (with_reducible repeat (first | refine blk_drewN ?_ _ | refine blk_drew ?_ | refine blk_alloc ?_ _)); refine blk_put (cs := #[.int .i64 0, .slice none 0 0, .int .i64 0]) ?_ 0 _ rfl; (with_reducible repeat (first | refine blk_drewN ?_ _ | refine blk_drew ?_ | refine blk_alloc ?_ _)); exact BK419.out) hb); replace HB := bs_ HB hb; (try clear hb); (try clear hb2); (try clear hk); (try clear hi)))
   go_meet
   case rel => exact ⟨_, (decide (a2 > 30)), rs_, H', ⟨by first | omega | exact Nat.le_refl _⟩, ⟨up_ HO417.out⟩, ⟨up_ BK412.out⟩, ⟨up_ BK413.out⟩, ⟨up_ BK419.out⟩, ⟨up_ HB.out⟩⟩
  ·have H' := Aside0.mk H
   clear H
   have hnb22 := NB412_413.out
   have hnc22 := NB413_412.out
   have hnb23 := NB412_419.out
   have hnc23 := NB419_412.out
   obtain ⟨hcz24_0, hcz24_1, hcz24_2⟩ := c3_ BK412
   have hfz24_0 := blk_frozen BK412.out 0
   have hfz24_1 := blk_frozen BK412.out 1
   have hfz24_2 := blk_frozen BK412.out 2
   go_wp2_with (first | ((refine gc_ 94 ?_); refine gl_ (some 20) Try.func94 (impl_AreRows.calls k _ _ l1 a0_0 false _ (Kd.C_below HR1.out (up_ HB.out)) HC1.out A16.out) ?_; rintro e w25 ⟨rfl, hb⟩; refine ⟨_, rfl, ?_⟩; replace HO417 := Aside0.mk (Kd.S_below (by (with_reducible repeat (first | apply Kd.S_alloc | apply Kd.S_drewN | apply Kd.S_drew)); exact (Kd.S_mono (Kd.S_far (p := ⟨gb419, 2, none⟩) (Kd.S_far (p := ⟨gb419, 1, none⟩) (Kd.S_far (p := ⟨gb419, 0, none⟩) (Kd.S_types HO417.out BK419.out (by decide)) (fun _ hk => hk.2) (.int .i64 t414)) (fun _ hk => hk.2) (.slice Ao15 t415.length co15)) (fun _ hk => hk.2) (.int .i64 t418)) (fun _ h_ => h_.1))) hb); replace BK412 := Aside0.mk (blk_below (g := gb412) (o := .cells #[.int .i64 a0_0, .slice A0_1 l0_1.length c0_1, .int .i64 a0_2] 30 (0, 0)) (by (with_reducible repeat (first | refine blk_drewN ?_ _ | refine blk_drew ?_ | refine blk_alloc ?_ _)); refine blk_far ?_ NB412_419.out _; (with_reducible repeat (first | refine blk_drewN ?_ _ | refine blk_drew ?_ | refine blk_alloc ?_ _)); refine blk_far ?_ NB412_419.out _; (with_reducible repeat (first | refine blk_drewN ?_ _ | refine blk_drew ?_ | refine blk_alloc ?_ _)); refine blk_far ?_ NB412_419.out _; (with_reducible repeat (first | refine blk_drewN ?_ _ | refine blk_drew ?_ | refine blk_alloc ?_ _)); exact BK412.out) hb); replace BK413 := Aside0.mk (blk_below (g := gb413) (o := .cells #[.int .i64 0, .slice none 0 0, .int .i64 0] 30 (0, 0)) (by (with_reducible repeat (first | refine blk_drewN ?_ _ | refine blk_drew ?_ | refine blk_alloc ?_ _)); refine blk_far ?_ NB413_419.out _; (with_reducible repeat (first | refine blk_drewN ?_ _ | refine blk_drew ?_ | refine blk_alloc ?_ _)); refine blk_far ?_ NB413_419.out _; (with_reducible repeat (first | refine blk_drewN ?_ _ | refine blk_drew ?_ | refine blk_alloc ?_ _)); refine blk_far ?_ NB413_419.out _; (with_reducible repeat (first | refine blk_drewN ?_ _ | refine blk_drew ?_ | refine blk_alloc ?_ _)); exact BK413.out) hb); replace BK419 := Aside0.mk (blk_below (g := gb419) (o := .cells #[.int .i64 t414, .slice Ao15 t415.length co15, .int .i64 t418] 30 (0, 0)) (by (with_reducible repeat (first | refine blk_drewN ?_ _ | refine blk_drew ?_ | refine blk_alloc ?_ _)); refine blk_put (cs := #[.int .i64 t414, .slice Ao15 t415.length co15, .int .i64 0]) ?_ 2 _ rfl; (with_reducible repeat (first | refine blk_drewN ?_ _ | refine blk_drew ?_ | refine blk_alloc ?_ _)); refine blk_put (cs := #[.int .i64 t414, .slice none 0 0, .int .i64 0]) ?_ 1 _ rfl; (with_reducible repeat (first | refine blk_drewN ?_ _ | refine blk_drew ?_ | refine blk_alloc ?_ _)); refine blk_put (cs := #[.int .i64 0, .slice none 0 0, .int .i64 0]) ?_ 0 _ rfl; (with_reducible repeat (first | refine blk_drewN ?_ _ | refine blk_drew ?_ | refine blk_alloc ?_ _)); exact BK419.out) hb); replace HB := bs_ HB hb; (try clear hb); (try clear hb2); (try clear hk); (try clear hi)))
   go_meet
   case rel => exact ⟨_, (true), rs_, H', ⟨by first | omega | exact Nat.le_refl _⟩, ⟨up_ HO417.out⟩, ⟨up_ BK412.out⟩, ⟨up_ BK413.out⟩, ⟨up_ BK419.out⟩, ⟨up_ HB.out⟩⟩
 case rest =>
  clear HC5
  try clear c1
  try clear c2
  try clear p2
  try clear c8
  try clear c9
  try clear c12
  try clear c13
  try clear c17
  try clear c18
  try clear c19
  try clear c22
  try clear c23
  try clear hcz14_0
  try clear hcz14_1
  try clear hcz14_2
  try clear hcz20_0
  try clear hcz20_1
  try clear hcz20_2
  try clear hcz24_0
  try clear hcz24_1
  try clear hcz24_2
  try clear hcz9_0
  try clear hcz9_1
  try clear hcz9_2
  try clear hfz14_0
  try clear hfz14_1
  try clear hfz14_2
  try clear hfz20_0
  try clear hfz20_1
  try clear hfz20_2
  try clear hfz24_0
  try clear hfz24_1
  try clear hfz24_2
  try clear hfz9_0
  try clear hfz9_1
  try clear hfz9_2
  obtain ⟨kq, x25_4, rfl, HA, HJ4, HO_420001, BK412, BK413, BK419, HB⟩ := hcut
  cases kq with
  | zero => exact absurd HA.out (by simp [impl_HearAll.j0])
  | succ kj4 =>
   have H := HA.out
   clear HA
   simp only [impl_HearAll.j0] at H
   replace H := itb_ H; rcases H with ⟨rfl, H⟩ | ⟨rfl, H⟩
   ·simp only [Option.some.injEq, Prod.mk.injEq] at H
    obtain ⟨rfl, rfl, rfl, rfl⟩ := H
    have hnb27 := NB419_412.out
    have hnc27 := NB412_419.out
    have hnb28 := NB419_413.out
    have hnc28 := NB413_419.out
    obtain ⟨hcz29_0, hcz29_1, hcz29_2⟩ := c3_ BK419
    have hfz29_0 := blk_frozen BK419.out 0
    have hfz29_1 := blk_frozen BK419.out 1
    have hfz29_2 := blk_frozen BK419.out 2
    have hnb30 := NB413_412.out
    have hnc30 := NB412_413.out
    obtain ⟨hcz31_0, hcz31_1, hcz31_2⟩ := c3_ BK413
    have hfz31_0 := blk_frozen BK413.out 0
    have hfz31_1 := blk_frozen BK413.out 1
    have hfz31_2 := blk_frozen BK413.out 2
    go_wp2
    refine bodyPost_ret (results_ct rfl _ _ gb413 30 #[.int .i64 t414, .slice Ao15 t415.length co15, .int .i64 t418] (0, 0) _ rfl (by (with_reducible repeat (first | refine blk_drewN ?_ _ | refine blk_drew ?_ | refine blk_alloc ?_ _)); refine blk_put (cs := #[.int .i64 t414, .slice Ao15 t415.length co15, .int .i64 0]) ?_ 2 _ rfl; (with_reducible repeat (first | refine blk_drewN ?_ _ | refine blk_drew ?_ | refine blk_alloc ?_ _)); refine blk_put (cs := #[.int .i64 t414, .slice none 0 0, .int .i64 0]) ?_ 1 _ rfl; (with_reducible repeat (first | refine blk_drewN ?_ _ | refine blk_drew ?_ | refine blk_alloc ?_ _)); refine blk_put (cs := #[.int .i64 0, .slice none 0 0, .int .i64 0]) ?_ 0 _ rfl; (with_reducible repeat (first | refine blk_drewN ?_ _ | refine blk_drew ?_ | refine blk_alloc ?_ _)); exact BK413.out) Try.underlying30 rfl (by kernel_rfl)) rfl ?_
    exact ⟨_, re_, by (with_reducible repeat (first | apply Kd.S_alloc | apply Kd.S_drewN | apply Kd.S_drew)); exact Kd.S_mono (Kd.S_far (p := ⟨gb413, 2, none⟩) (Kd.S_far (p := ⟨gb413, 1, none⟩) (Kd.S_far (p := ⟨gb413, 0, none⟩) (Kd.S_types HO_420001.out BK413.out (by decide)) (fun _ hk => hk.2) (.int .i64 t414)) (fun _ hk => hk.2) (.slice Ao15 t415.length co15)) (fun _ hk => hk.2) (.int .i64 t418)) (fun _ hk => trivial), up_ HB.out⟩
   ·obtain ⟨ji32, hji32⟩ : ∃ j_ : Int, (mx a2 0) = j_ := ⟨_, rfl⟩
    replace H : (impl_HearAll.l0 kj4 l1 0 ji32 0 t414 t415 t418) = some (r1, r2, r3, r4) := by first | (rw [hji32] at H; exact H) | (simp only [hji32] at H ⊢; exact H)
    have hji32_ : (if a2 < 0 then 0 else a2) = ji32 := hji32
    have H' := Aside0.mk H
    clear H
    go_wp2
    go_loopg [9, 29] kj4 (fun kq v9 v29 w' => ∃ (x9_2 : Int) (x29_2 : Int) (x420000_2 : Int) (x420001_2 : List (List Int)) (x420002_2 : Int) (u420001 : Value), v9 = .int .i64 x9_2 ∧ v29 = .int .i64 x29_2 ∧ Aside0 (impl_HearAll.l0 kq l1 x9_2 ji32 x29_2 x420000_2 x420001_2 x420002_2 = some (r1, r2, r3, r4)) ∧ Aside0 (kq ≤ kj4) ∧ Aside0 (Kd.S (Kd.slice 3 (Kd.int .i64)) 25 w' w.heap.size (fun _ => True) u420001 x420001_2) ∧ Aside0 (w'.heap[gb412]? = some (.cells #[.int .i64 a0_0, (.slice A0_1 l0_1.length c0_1), .int .i64 a0_2] 30 (0, 0))) ∧ Aside0 (w'.heap[gb413]? = some (.cells #[.int .i64 0, (.slice none 0 0), .int .i64 0] 30 (0, 0))) ∧ Aside0 (w'.heap[gb419]? = some (.cells #[.int .i64 x420000_2, u420001, .int .i64 x420002_2] 30 (0, 0))) ∧ Aside0 (Below w.heap.size w w'))
    case atStart => exact ⟨(0), (0), (t414), (t415), (t418), (.slice Ao15 t415.length co15), rs_, rs_, H', ⟨Nat.le_refl _⟩, ⟨up_ HO_420001.out⟩, ⟨up_ BK412.out⟩, ⟨up_ BK413.out⟩, ⟨up_ BK419.out⟩, ⟨up_ HB.out⟩⟩
    case round =>
     clear H'
     try clear c1
     try clear c2
     try clear p2
     try clear c3
     try clear c8
     try clear c9
     try clear c12
     try clear c13
     try clear c17
     try clear c18
     try clear c19
     try clear c22
     try clear c23
     try clear c26
     try clear c27
     try clear c28
     try clear c30
     try clear hcz14_0
     try clear hcz14_1
     try clear hcz14_2
     try clear hcz20_0
     try clear hcz20_1
     try clear hcz20_2
     try clear hcz24_0
     try clear hcz24_1
     try clear hcz24_2
     try clear hcz29_0
     try clear hcz29_1
     try clear hcz29_2
     try clear hcz31_0
     try clear hcz31_1
     try clear hcz31_2
     try clear hcz9_0
     try clear hcz9_1
     try clear hcz9_2
     try clear hfz14_0
     try clear hfz14_1
     try clear hfz14_2
     try clear hfz20_0
     try clear hfz20_1
     try clear hfz20_2
     try clear hfz24_0
     try clear hfz24_1
     try clear hfz24_2
     try clear hfz29_0
     try clear hfz29_1
     try clear hfz29_2
     try clear hfz31_0
     try clear hfz31_1
     try clear hfz31_2
     try clear hfz9_0
     try clear hfz9_1
     try clear hfz9_2
     try clear p2
     obtain ⟨x9_2, x29_2, x420000_2, x420001_2, x420002_2, u420001, rfl, rfl, HA, HK2, HO_420001, BK412, BK413, BK419, HB⟩ := hrel
     cases gk with
     | zero => exact absurd HA.out (by simp [impl_HearAll.l0])
     | succ k2 =>
      have H := HA.out
      clear HA
      simp only [impl_HearAll.l0] at H
      replace H := its_ H; rcases H with ⟨c33b0, H⟩ | ⟨c33b0, H⟩
      ·have H' := Aside0.mk H
       clear H
       go_wp2
       go_loopg [10, 33] k2 (fun kq v10 v33 w' => ∃ (x10_3 : Bool) (x33_3 : Int) (x420000_3 : Int) (x420001_3 : List (List Int)) (x420002_3 : Int) (u420001 : Value), v10 = .bool x10_3 ∧ v33 = .int .i64 x33_3 ∧ Aside0 (impl_HearAll.l1 kq l1 x9_2 x10_3 ji32 x29_2 l1 (l1.length : Int) x33_3 x420000_3 x420001_3 x420002_3 = some (r1, r2, r3, r4)) ∧ Aside0 (kq ≤ k2) ∧ Aside0 (Kd.S (Kd.slice 3 (Kd.int .i64)) 25 w' w.heap.size (fun _ => True) u420001 x420001_3) ∧ Aside0 (w'.heap[gb412]? = some (.cells #[.int .i64 a0_0, (.slice A0_1 l0_1.length c0_1), .int .i64 a0_2] 30 (0, 0))) ∧ Aside0 (w'.heap[gb413]? = some (.cells #[.int .i64 0, (.slice none 0 0), .int .i64 0] 30 (0, 0))) ∧ Aside0 (w'.heap[gb419]? = some (.cells #[.int .i64 x420000_3, u420001, .int .i64 x420002_3] 30 (0, 0))) ∧ Aside0 (Below w.heap.size w w'))
       case atStart => exact ⟨(false), (0), (x420000_2), (x420001_2), (x420002_2), (u420001), rs_, rs_, H', ⟨Nat.le_refl _⟩, ⟨up_ HO_420001.out⟩, ⟨up_ BK412.out⟩, ⟨up_ BK413.out⟩, ⟨up_ BK419.out⟩, ⟨up_ HB.out⟩⟩
       case round =>
        clear H'
        try clear c1
        try clear c2
        try clear p2
        try clear c3
        try clear c8
        try clear c9
        try clear c12
        try clear c13
        try clear c17
        try clear c18
        try clear c19
        try clear c22
        try clear c23
        try clear c26
        try clear c27
        try clear c28
        try clear c30
        try clear c33
        try clear c33b0
        try clear hcz14_0
        try clear hcz14_1
        try clear hcz14_2
        try clear hcz20_0
        try clear hcz20_1
        try clear hcz20_2
        try clear hcz24_0
        try clear hcz24_1
        try clear hcz24_2
        try clear hcz29_0
        try clear hcz29_1
        try clear hcz29_2
        try clear hcz31_0
        try clear hcz31_1
        try clear hcz31_2
        try clear hcz9_0
        try clear hcz9_1
        try clear hcz9_2
        try clear hfz14_0
        try clear hfz14_1
        try clear hfz14_2
        try clear hfz20_0
        try clear hfz20_1
        try clear hfz20_2
        try clear hfz24_0
        try clear hfz24_1
        try clear hfz24_2
        try clear hfz29_0
        try clear hfz29_1
        try clear hfz29_2
        try clear hfz31_0
        try clear hfz31_1
        try clear hfz31_2
        try clear hfz9_0
        try clear hfz9_1
        try clear hfz9_2
        try clear p2
        obtain ⟨x10_3, x33_3, x420000_3, x420001_3, x420002_3, u420001, rfl, rfl, HA, HK3, HO_420001, BK412, BK413, BK419, HB⟩ := hrel
        cases gk with
        | zero => exact absurd HA.out (by simp [impl_HearAll.l1])
        | succ k3 =>
         have H := HA.out
         clear HA
         simp only [impl_HearAll.l1] at H
         replace H := its_ H; rcases H with ⟨c34b0, H⟩ | ⟨c34b0, H⟩
         ·replace H := its_ H; rcases H with ⟨c35b0, H⟩ | ⟨_, ⟨⟩⟩
          replace H := its_ H; rcases H with ⟨c36b0, H⟩ | ⟨_, ⟨⟩⟩
          replace H := Option.bind_eq_some_iff.mp H
          obtain ⟨⟨t423, t424, t427, t428⟩, A370, H⟩ := H
          replace H : (if x10_3 = true then (impl_HearAll.l1 k3 l1 x9_2 true ji32 x29_2 l1 (l1.length : Int) (wrap64 (x33_3 + 1)) t423 t424 t427) else (impl_HearAll.l1 k3 l1 x9_2 t428 ji32 x29_2 l1 (l1.length : Int) (wrap64 (x33_3 + 1)) t423 t424 t427)) = some (r1, r2, r3, r4) := H
          have A37 := Aside0.mk A370
          clear A370
          replace H := itb_ H; rcases H with ⟨rfl, H⟩ | ⟨rfl, H⟩
          ·have H' := Aside0.mk H
           clear H
           have p421 : 0 ≤ (x33_3 : Int) := od_
           have q421 : x33_3 < (l1.length : Int) := od_
           obtain ⟨ad421, A421_0, c421_0, e421, hx421_0, hl421_0, hi421_0⟩ := at_T34 HR1.out x33_3 p421 q421
           cases e421
           replace hx421_0 := bh_ HB hx421_0
           have HR421_0 := Aside0.mk hi421_0
           have HC421_0 := Aside0.mk hl421_0
           clear hi421_0 hl421_0
           replace p421 := eq_true p421
           replace q421 := eq_true q421
           go_wp2_with (first | ((refine gd_ 12 ?_); refine bx_ 12 #[.slice none 0 0] 34 ?_; intro gb422 hg w39 hbox hb; replace HO_420001 := Aside0.mk (Kd.S_below (up_ HO_420001.out) hb); have BK422 := Aside0.mk (hbox); have GW422 := gw_ HB hg; have GE422 := gw_ HB hg; replace HB := bs_ HB hb; have NB412_422 := Aside0.mk ((by rw [hg]; exact Nat.ne_of_lt (blk_lt (g := gb412) (o := .cells #[.int .i64 a0_0, .slice A0_1 l0_1.length c0_1, .int .i64 a0_2] 30 (0, 0)) (up_ BK412.out)) : gb412 ≠ gb422)); have NB422_412 := Aside0.mk ((by rw [hg]; exact Nat.ne_of_gt (blk_lt (g := gb412) (o := .cells #[.int .i64 a0_0, .slice A0_1 l0_1.length c0_1, .int .i64 a0_2] 30 (0, 0)) (up_ BK412.out)) : gb422 ≠ gb412)); replace BK412 := bb_ BK412 hb; have NB413_422 := Aside0.mk ((by rw [hg]; exact Nat.ne_of_lt (blk_lt (g := gb413) (o := .cells #[.int .i64 0, .slice none 0 0, .int .i64 0] 30 (0, 0)) (up_ BK413.out)) : gb413 ≠ gb422)); have NB422_413 := Aside0.mk ((by rw [hg]; exact Nat.ne_of_gt (blk_lt (g := gb413) (o := .cells #[.int .i64 0, .slice none 0 0, .int .i64 0] 30 (0, 0)) (up_ BK413.out)) : gb422 ≠ gb413)); replace BK413 := bb_ BK413 hb; have NB419_422 := Aside0.mk ((by rw [hg]; exact Nat.ne_of_lt (blk_lt (g := gb419) (o := .cells #[.int .i64 x420000_3, u420001, .int .i64 x420002_3] 30 (0, 0)) (up_ BK419.out)) : gb419 ≠ gb422)); have NB422_419 := Aside0.mk ((by rw [hg]; exact Nat.ne_of_gt (blk_lt (g := gb419) (o := .cells #[.int .i64 x420000_3, u420001, .int .i64 x420002_3] 30 (0, 0)) (up_ BK419.out)) : gb422 ≠ gb419)); replace BK419 := bb_ BK419 hb; clear hb hbox hg; have hnb40 := NB422_412.out; have hnc40 := NB412_422.out; have hnb41 := NB422_413.out; have hnc41 := NB413_422.out; have hnb42 := NB422_419.out; have hnc42 := NB419_422.out; have hcz43_0 := c1_ BK422; have hfz43_0 := blk_frozen BK422.out 0; have hnb44 := NB419_412.out; have hnc44 := NB412_419.out; have hnb45 := NB419_413.out; have hnc45 := NB413_419.out; obtain ⟨hcz46_0, hcz46_1, hcz46_2⟩ := c3_ BK419; have hfz46_0 := blk_frozen BK419.out 0; have hfz46_1 := blk_frozen BK419.out 1; have hfz46_2 := blk_frozen BK419.out 2; obtain ⟨Ao47, co47, eo47⟩ := Kd.S_slice HO_420001.out; subst eo47) | ((refine gc_ 17 ?_); refine goesL_ (some 40) rfl rfl Try.func17 (by kernel_rfl) rfl #[.agg #[.int .i64 x420000_3, .slice Ao47 x420001_3.length co47, .int .i64 x420002_3], .agg #[.slice A421_0 ((rd_T34 l1 x33_3).f0).length c421_0]] rfl am_ ?_; (with_reducible refine (impl_HearRow.calls k3 x420000_3 _ _ x420001_3 x420002_3 _ _ ((rd_T34 l1 x33_3).f0) t423 t424 t427 t428 _ ?side1 ?side2 ?side3 ?side4 A37.out).mono ?_); (case side1 => refine (Kd.S_reads' (e := 25) (base := w.heap.size) (ok := fun k_ => True) (n := x420001_3.length) (c := co47) ?_).2.2; exact (by (with_reducible repeat (first | apply Kd.S_alloc | apply Kd.S_drewN | apply Kd.S_drew)); exact (Kd.S_mono (Kd.S_far (p := ⟨gb422, 0, none⟩) (Kd.S_types HO_420001.out BK422.out (by decide)) (fun _ hk => hk.2) (.slice A421_0 ((rd_T34 l1 x33_3).f0).length c421_0)) (fun _ h_ => h_.1)))); (case side2 => exact (Kd.S_reads' HO_420001.out).2.1); (case side3 => exact Kd.C_below HR421_0.out (up_ HB.out)); (case side4 => exact HC421_0.out); rintro e w48 ⟨v425, rfl, ho0, hb⟩; refine ⟨_, rfl, ?_⟩; have HO426 := Aside0.mk (Kd.S_lower (Kd.S_new' ho0 (Kd.S_lt (by (with_reducible repeat (first | apply Kd.S_alloc | apply Kd.S_drewN | apply Kd.S_drew)); exact (Kd.S_mono (Kd.S_far (p := ⟨gb422, 0, none⟩) (Kd.S_types HO_420001.out BK422.out (by decide)) (fun _ hk => hk.2) (.slice A421_0 ((rd_T34 l1 x33_3).f0).length c421_0)) (fun _ h_ => h_.1))))) (below_size (up_ HB.out))); replace HO_420001 := Aside0.mk (Kd.S_elder' (by (with_reducible repeat (first | apply Kd.S_alloc | apply Kd.S_drewN | apply Kd.S_drew)); exact (Kd.S_mono (Kd.S_far (p := ⟨gb422, 0, none⟩) (Kd.S_types HO_420001.out BK422.out (by decide)) (fun _ hk => hk.2) (.slice A421_0 ((rd_T34 l1 x33_3).f0).length c421_0)) (fun _ h_ => h_.1))) (Kd.S_base ho0) hb); replace BK412 := Aside0.mk (blk_below (g := gb412) (o := .cells #[.int .i64 a0_0, .slice A0_1 l0_1.length c0_1, .int .i64 a0_2] 30 (0, 0)) (by (with_reducible repeat (first | refine blk_drewN ?_ _ | refine blk_drew ?_ | refine blk_alloc ?_ _)); refine blk_far ?_ NB412_422.out _; (with_reducible repeat (first | refine blk_drewN ?_ _ | refine blk_drew ?_ | refine blk_alloc ?_ _)); exact BK412.out) hb); replace BK413 := Aside0.mk (blk_below (g := gb413) (o := .cells #[.int .i64 0, .slice none 0 0, .int .i64 0] 30 (0, 0)) (by (with_reducible repeat (first | refine blk_drewN ?_ _ | refine blk_drew ?_ | refine blk_alloc ?_ _)); refine blk_far ?_ NB413_422.out _; (with_reducible repeat (first | refine blk_drewN ?_ _ | refine blk_drew ?_ | refine blk_alloc ?_ _)); exact BK413.out) hb); replace BK419 := Aside0.mk (blk_below (g := gb419) (o := .cells #[.int .i64 x420000_3, .slice Ao47 x420001_3.length co47, .int .i64 x420002_3] 30 (0, 0)) (by (with_reducible repeat (first | refine blk_drewN ?_ _ | refine blk_drew ?_ | refine blk_alloc ?_ _)); refine blk_far ?_ NB419_422.out _; (with_reducible repeat (first | refine blk_drewN ?_ _ | refine blk_drew ?_ | refine blk_alloc ?_ _)); exact BK419.out) hb); replace BK422 := Aside0.mk (blk_below (g := gb422) (o := .cells #[.slice A421_0 ((rd_T34 l1 x33_3).f0).length c421_0] 34 (0, 0)) (by (with_reducible repeat (first | refine blk_drewN ?_ _ | refine blk_drew ?_ | refine blk_alloc ?_ _)); refine blk_put (cs := #[.slice none 0 0]) ?_ 0 _ rfl; (with_reducible repeat (first | refine blk_drewN ?_ _ | refine blk_drew ?_ | refine blk_alloc ?_ _)); exact BK422.out) hb); replace HB := bs_ HB hb; (try clear hb); (try clear hb2); (try clear hk); (try clear hi); (try clear ho0)) | ((refine gd_ 13 ?_); refine bx_ 13 #[.int .i64 0, .slice none 0 0, .int .i64 0] 30 ?_; intro gb429 hg w49 hbox hb; replace HO_420001 := Aside0.mk (Kd.S_below (up_ HO_420001.out) hb); replace HO426 := Aside0.mk (Kd.S_below (up_ HO426.out) hb); have BK429 := Aside0.mk (hbox); have GW429 := gw_ HB hg; have GE429 := gw_ HB hg; replace HB := bs_ HB hb; have NB412_429 := Aside0.mk ((by rw [hg]; exact Nat.ne_of_lt (blk_lt (g := gb412) (o := .cells #[.int .i64 a0_0, .slice A0_1 l0_1.length c0_1, .int .i64 a0_2] 30 (0, 0)) (up_ BK412.out)) : gb412 ≠ gb429)); have NB429_412 := Aside0.mk ((by rw [hg]; exact Nat.ne_of_gt (blk_lt (g := gb412) (o := .cells #[.int .i64 a0_0, .slice A0_1 l0_1.length c0_1, .int .i64 a0_2] 30 (0, 0)) (up_ BK412.out)) : gb429 ≠ gb412)); replace BK412 := bb_ BK412 hb; have NB413_429 := Aside0.mk ((by rw [hg]; exact Nat.ne_of_lt (blk_lt (g := gb413) (o := .cells #[.int .i64 0, .slice none 0 0, .int .i64 0] 30 (0, 0)) (up_ BK413.out)) : gb413 ≠ gb429)); have NB429_413 := Aside0.mk ((by rw [hg]; exact Nat.ne_of_gt (blk_lt (g := gb413) (o := .cells #[.int .i64 0, .slice none 0 0, .int .i64 0] 30 (0, 0)) (up_ BK413.out)) : gb429 ≠ gb413)); replace BK413 := bb_ BK413 hb; have NB419_429 := Aside0.mk ((by rw [hg]; exact Nat.ne_of_lt (blk_lt (g := gb419) (o := .cells #[.int .i64 x420000_3, .slice Ao47 x420001_3.length co47, .int .i64 x420002_3] 30 (0, 0)) (up_ BK419.out)) : gb419 ≠ gb429)); have NB429_419 := Aside0.mk ((by rw [hg]; exact Nat.ne_of_gt (blk_lt (g := gb419) (o := .cells #[.int .i64 x420000_3, .slice Ao47 x420001_3.length co47, .int .i64 x420002_3] 30 (0, 0)) (up_ BK419.out)) : gb429 ≠ gb419)); replace BK419 := bb_ BK419 hb; have NB422_429 := Aside0.mk ((by rw [hg]; exact Nat.ne_of_lt (blk_lt (g := gb422) (o := .cells #[.slice A421_0 ((rd_T34 l1 x33_3).f0).length c421_0] 34 (0, 0)) (up_ BK422.out)) : gb422 ≠ gb429)); have NB429_422 := Aside0.mk ((by rw [hg]; exact Nat.ne_of_gt (blk_lt (g := gb422) (o := .cells #[.slice A421_0 ((rd_T34 l1 x33_3).f0).length c421_0] 34 (0, 0)) (up_ BK422.out)) : gb429 ≠ gb422)); replace BK422 := bb_ BK422 hb; clear hb hbox hg; have hnb50 := NB429_412.out; have hnc50 := NB412_429.out; have hnb51 := NB429_413.out; have hnc51 := NB413_429.out; have hnb52 := NB429_419.out; have hnc52 := NB419_429.out; have hnb53 := NB429_422.out; have hnc53 := NB422_429.out; obtain ⟨hcz54_0, hcz54_1, hcz54_2⟩ := c3_ BK429; have hfz54_0 := blk_frozen BK429.out 0; have hfz54_1 := blk_frozen BK429.out 1; have hfz54_2 := blk_frozen BK429.out 2; obtain ⟨Ao55, co55, eo55⟩ := Kd.S_slice HO426.out; subst eo55; obtain ⟨hcz56_0, hcz56_1, hcz56_2⟩ := c3_ BK419; have hfz56_0 := blk_frozen BK419.out 0; have hfz56_1 := blk_frozen BK419.out 1; have hfz56_2 := blk_frozen BK419.out 2))
           go_roundg k3
           case measure => have := HJ4.out; have := HK2.out; have := HK3.out; omega
           case rel => exact ⟨(true), (wrap64 (x33_3 + 1)), (t423), (t424), (t427), (.slice Ao55 t424.length co55), rs_, rs_, H', ⟨by have := HJ4.out; have := HK2.out; have := HK3.out; omega⟩, ⟨by (with_reducible repeat (first | apply Kd.S_alloc | apply Kd.S_drewN | apply Kd.S_drew)); exact Kd.S_mono (Kd.S_far (p := ⟨gb419, 2, none⟩) (Kd.S_far (p := ⟨gb419, 1, none⟩) (Kd.S_far (p := ⟨gb419, 0, none⟩) (Kd.S_far (p := ⟨gb429, 2, none⟩) (Kd.S_far (p := ⟨gb429, 1, none⟩) (Kd.S_far (p := ⟨gb429, 0, none⟩) (Kd.S_types (Kd.S_types HO426.out BK429.out (by decide)) BK419.out (by decide)) (fun _ hk => hk.1.2) (.int .i64 t423)) (fun _ hk => hk.1.2) (.slice Ao55 t424.length co55)) (fun _ hk => hk.1.2) (.int .i64 t427)) (fun _ hk => hk.2) (.int .i64 t423)) (fun _ hk => hk.2) (.slice Ao55 t424.length co55)) (fun _ hk => hk.2) (.int .i64 t427)) (fun _ hk => trivial)⟩, ⟨by (with_reducible repeat (first | refine blk_drewN ?_ _ | refine blk_drew ?_ | refine blk_alloc ?_ _)); refine blk_far ?_ NB412_419.out _; (with_reducible repeat (first | refine blk_drewN ?_ _ | refine blk_drew ?_ | refine blk_alloc ?_ _)); refine blk_far ?_ NB412_419.out _; (with_reducible repeat (first | refine blk_drewN ?_ _ | refine blk_drew ?_ | refine blk_alloc ?_ _)); refine blk_far ?_ NB412_419.out _; (with_reducible repeat (first | refine blk_drewN ?_ _ | refine blk_drew ?_ | refine blk_alloc ?_ _)); refine blk_far ?_ NB412_429.out _; (with_reducible repeat (first | refine blk_drewN ?_ _ | refine blk_drew ?_ | refine blk_alloc ?_ _)); refine blk_far ?_ NB412_429.out _; (with_reducible repeat (first | refine blk_drewN ?_ _ | refine blk_drew ?_ | refine blk_alloc ?_ _)); refine blk_far ?_ NB412_429.out _; (with_reducible repeat (first | refine blk_drewN ?_ _ | refine blk_drew ?_ | refine blk_alloc ?_ _)); exact BK412.out⟩, ⟨by (with_reducible repeat (first | refine blk_drewN ?_ _ | refine blk_drew ?_ | refine blk_alloc ?_ _)); refine blk_far ?_ NB413_419.out _; (with_reducible repeat (first | refine blk_drewN ?_ _ | refine blk_drew ?_ | refine blk_alloc ?_ _)); refine blk_far ?_ NB413_419.out _; (with_reducible repeat (first | refine blk_drewN ?_ _ | refine blk_drew ?_ | refine blk_alloc ?_ _)); refine blk_far ?_ NB413_419.out _; (with_reducible repeat (first | refine blk_drewN ?_ _ | refine blk_drew ?_ | refine blk_alloc ?_ _)); refine blk_far ?_ NB413_429.out _; (with_reducible repeat (first | refine blk_drewN ?_ _ | refine blk_drew ?_ | refine blk_alloc ?_ _)); refine blk_far ?_ NB413_429.out _; (with_reducible repeat (first | refine blk_drewN ?_ _ | refine blk_drew ?_ | refine blk_alloc ?_ _)); refine blk_far ?_ NB413_429.out _; (with_reducible repeat (first | refine blk_drewN ?_ _ | refine blk_drew ?_ | refine blk_alloc ?_ _)); exact BK413.out⟩, ⟨by (with_reducible repeat (first | refine blk_drewN ?_ _ | refine blk_drew ?_ | refine blk_alloc ?_ _)); refine blk_put (cs := #[.int .i64 t423, .slice Ao55 t424.length co55, .int .i64 x420002_3]) ?_ 2 _ rfl; (with_reducible repeat (first | refine blk_drewN ?_ _ | refine blk_drew ?_ | refine blk_alloc ?_ _)); refine blk_put (cs := #[.int .i64 t423, .slice Ao47 x420001_3.length co47, .int .i64 x420002_3]) ?_ 1 _ rfl; (with_reducible repeat (first | refine blk_drewN ?_ _ | refine blk_drew ?_ | refine blk_alloc ?_ _)); refine blk_put (cs := #[.int .i64 x420000_3, .slice Ao47 x420001_3.length co47, .int .i64 x420002_3]) ?_ 0 _ rfl; (with_reducible repeat (first | refine blk_drewN ?_ _ | refine blk_drew ?_ | refine blk_alloc ?_ _)); refine blk_far ?_ NB419_429.out _; (with_reducible repeat (first | refine blk_drewN ?_ _ | refine blk_drew ?_ | refine blk_alloc ?_ _)); refine blk_far ?_ NB419_429.out _; (with_reducible repeat (first | refine blk_drewN ?_ _ | refine blk_drew ?_ | refine blk_alloc ?_ _)); refine blk_far ?_ NB419_429.out _; (with_reducible repeat (first | refine blk_drewN ?_ _ | refine blk_drew ?_ | refine blk_alloc ?_ _)); exact BK419.out⟩, ⟨up_ HB.out⟩⟩
          ·have H' := Aside0.mk H
           clear H
           have p421 : 0 ≤ (x33_3 : Int) := od_
           have q421 : x33_3 < (l1.length : Int) := od_
           obtain ⟨ad421, A421_0, c421_0, e421, hx421_0, hl421_0, hi421_0⟩ := at_T34 HR1.out x33_3 p421 q421
           cases e421
           replace hx421_0 := bh_ HB hx421_0
           have HR421_0 := Aside0.mk hi421_0
           have HC421_0 := Aside0.mk hl421_0
           clear hi421_0 hl421_0
           replace p421 := eq_true p421
           replace q421 := eq_true q421
           go_wp2_with (first | ((refine gd_ 12 ?_); refine bx_ 12 #[.slice none 0 0] 34 ?_; intro gb422 hg w57 hbox hb; replace HO_420001 := Aside0.mk (Kd.S_below (up_ HO_420001.out) hb); have BK422 := Aside0.mk (hbox); have GW422 := gw_ HB hg; have GE422 := gw_ HB hg; replace HB := bs_ HB hb; have NB412_422 := Aside0.mk ((by rw [hg]; exact Nat.ne_of_lt (blk_lt (g := gb412) (o := .cells #[.int .i64 a0_0, .slice A0_1 l0_1.length c0_1, .int .i64 a0_2] 30 (0, 0)) (up_ BK412.out)) : gb412 ≠ gb422)); have NB422_412 := Aside0.mk ((by rw [hg]; exact Nat.ne_of_gt (blk_lt (g := gb412) (o := .cells #[.int .i64 a0_0, .slice A0_1 l0_1.length c0_1, .int .i64 a0_2] 30 (0, 0)) (up_ BK412.out)) : gb422 ≠ gb412)); replace BK412 := bb_ BK412 hb; have NB413_422 := Aside0.mk ((by rw [hg]; exact Nat.ne_of_lt (blk_lt (g := gb413) (o := .cells #[.int .i64 0, .slice none 0 0, .int .i64 0] 30 (0, 0)) (up_ BK413.out)) : gb413 ≠ gb422)); have NB422_413 := Aside0.mk ((by rw [hg]; exact Nat.ne_of_gt (blk_lt (g := gb413) (o := .cells #[.int .i64 0, .slice none 0 0, .int .i64 0] 30 (0, 0)) (up_ BK413.out)) : gb422 ≠ gb413)); replace BK413 := bb_ BK413 hb; have NB419_422 := Aside0.mk ((by rw [hg]; exact Nat.ne_of_lt (blk_lt (g := gb419) (o := .cells #[.int .i64 x420000_3, u420001, .int .i64 x420002_3] 30 (0, 0)) (up_ BK419.out)) : gb419 ≠ gb422)); have NB422_419 := Aside0.mk ((by rw [hg]; exact Nat.ne_of_gt (blk_lt (g := gb419) (o := .cells #[.int .i64 x420000_3, u420001, .int .i64 x420002_3] 30 (0, 0)) (up_ BK419.out)) : gb422 ≠ gb419)); replace BK419 := bb_ BK419 hb; clear hb hbox hg; have hnb58 := NB422_412.out; have hnc58 := NB412_422.out; have hnb59 := NB422_413.out; have hnc59 := NB413_422.out; have hnb60 := NB422_419.out; have hnc60 := NB419_422.out; have hcz61_0 := c1_ BK422; have hfz61_0 := blk_frozen BK422.out 0; have hnb62 := NB419_412.out; have hnc62 := NB412_419.out; have hnb63 := NB419_413.out; have hnc63 := NB413_419.out; obtain ⟨hcz64_0, hcz64_1, hcz64_2⟩ := c3_ BK419; have hfz64_0 := blk_frozen BK419.out 0; have hfz64_1 := blk_frozen BK419.out 1; have hfz64_2 := blk_frozen BK419.out 2; obtain ⟨Ao65, co65, eo65⟩ := Kd.S_slice HO_420001.out; subst eo65) | ((refine gc_ 17 ?_); refine goesL_ (some 40) rfl rfl Try.func17 (by kernel_rfl) rfl #[.agg #[.int .i64 x420000_3, .slice Ao65 x420001_3.length co65, .int .i64 x420002_3], .agg #[.slice A421_0 ((rd_T34 l1 x33_3).f0).length c421_0]] rfl am_ ?_; (with_reducible refine (impl_HearRow.calls k3 x420000_3 _ _ x420001_3 x420002_3 _ _ ((rd_T34 l1 x33_3).f0) t423 t424 t427 t428 _ ?side1 ?side2 ?side3 ?side4 A37.out).mono ?_); (case side1 => refine (Kd.S_reads' (e := 25) (base := w.heap.size) (ok := fun k_ => True) (n := x420001_3.length) (c := co65) ?_).2.2; exact (by (with_reducible repeat (first | apply Kd.S_alloc | apply Kd.S_drewN | apply Kd.S_drew)); exact (Kd.S_mono (Kd.S_far (p := ⟨gb422, 0, none⟩) (Kd.S_types HO_420001.out BK422.out (by decide)) (fun _ hk => hk.2) (.slice A421_0 ((rd_T34 l1 x33_3).f0).length c421_0)) (fun _ h_ => h_.1)))); (case side2 => exact (Kd.S_reads' HO_420001.out).2.1); (case side3 => exact Kd.C_below HR421_0.out (up_ HB.out)); (case side4 => exact HC421_0.out); rintro e w66 ⟨v425, rfl, ho0, hb⟩; refine ⟨_, rfl, ?_⟩; have HO426 := Aside0.mk (Kd.S_lower (Kd.S_new' ho0 (Kd.S_lt (by (with_reducible repeat (first | apply Kd.S_alloc | apply Kd.S_drewN | apply Kd.S_drew)); exact (Kd.S_mono (Kd.S_far (p := ⟨gb422, 0, none⟩) (Kd.S_types HO_420001.out BK422.out (by decide)) (fun _ hk => hk.2) (.slice A421_0 ((rd_T34 l1 x33_3).f0).length c421_0)) (fun _ h_ => h_.1))))) (below_size (up_ HB.out))); replace HO_420001 := Aside0.mk (Kd.S_elder' (by (with_reducible repeat (first | apply Kd.S_alloc | apply Kd.S_drewN | apply Kd.S_drew)); exact (Kd.S_mono (Kd.S_far (p := ⟨gb422, 0, none⟩) (Kd.S_types HO_420001.out BK422.out (by decide)) (fun _ hk => hk.2) (.slice A421_0 ((rd_T34 l1 x33_3).f0).length c421_0)) (fun _ h_ => h_.1))) (Kd.S_base ho0) hb); replace BK412 := Aside0.mk (blk_below (g := gb412) (o := .cells #[.int .i64 a0_0, .slice A0_1 l0_1.length c0_1, .int .i64 a0_2] 30 (0, 0)) (by (with_reducible repeat (first | refine blk_drewN ?_ _ | refine blk_drew ?_ | refine blk_alloc ?_ _)); refine blk_far ?_ NB412_422.out _; (with_reducible repeat (first | refine blk_drewN ?_ _ | refine blk_drew ?_ | refine blk_alloc ?_ _)); exact BK412.out) hb); replace BK413 := Aside0.mk (blk_below (g := gb413) (o := .cells #[.int .i64 0, .slice none 0 0, .int .i64 0] 30 (0, 0)) (by (with_reducible repeat (first | refine blk_drewN ?_ _ | refine blk_drew ?_ | refine blk_alloc ?_ _)); refine blk_far ?_ NB413_422.out _; (with_reducible repeat (first | refine blk_drewN ?_ _ | refine blk_drew ?_ | refine blk_alloc ?_ _)); exact BK413.out) hb); replace BK419 := Aside0.mk (blk_below (g := gb419) (o := .cells #[.int .i64 x420000_3, .slice Ao65 x420001_3.length co65, .int .i64 x420002_3] 30 (0, 0)) (by (with_reducible repeat (first | refine blk_drewN ?_ _ | refine blk_drew ?_ | refine blk_alloc ?_ _)); refine blk_far ?_ NB419_422.out _; (with_reducible repeat (first | refine blk_drewN ?_ _ | refine blk_drew ?_ | refine blk_alloc ?_ _)); exact BK419.out) hb); replace BK422 := Aside0.mk (blk_below (g := gb422) (o := .cells #[.slice A421_0 ((rd_T34 l1 x33_3).f0).length c421_0] 34 (0, 0)) (by (with_reducible repeat (first | refine blk_drewN ?_ _ | refine blk_drew ?_ | refine blk_alloc ?_ _)); refine blk_put (cs := #[.slice none 0 0]) ?_ 0 _ rfl; (with_reducible repeat (first | refine blk_drewN ?_ _ | refine blk_drew ?_ | refine blk_alloc ?_ _)); exact BK422.out) hb); replace HB := bs_ HB hb; (try clear hb); (try clear hb2); (try clear hk); (try clear hi); (try clear ho0)) | ((refine gd_ 13 ?_); refine bx_ 13 #[.int .i64 0, .slice none 0 0, .int .i64 0] 30 ?_; intro gb429 hg w67 hbox hb; replace HO_420001 := Aside0.mk (Kd.S_below (up_ HO_420001.out) hb); replace HO426 := Aside0.mk (Kd.S_below (up_ HO426.out) hb); have BK429 := Aside0.mk (hbox); have GW429 := gw_ HB hg; have GE429 := gw_ HB hg; replace HB := bs_ HB hb; have NB412_429 := Aside0.mk ((by rw [hg]; exact Nat.ne_of_lt (blk_lt (g := gb412) (o := .cells #[.int .i64 a0_0, .slice A0_1 l0_1.length c0_1, .int .i64 a0_2] 30 (0, 0)) (up_ BK412.out)) : gb412 ≠ gb429)); have NB429_412 := Aside0.mk ((by rw [hg]; exact Nat.ne_of_gt (blk_lt (g := gb412) (o := .cells #[.int .i64 a0_0, .slice A0_1 l0_1.length c0_1, .int .i64 a0_2] 30 (0, 0)) (up_ BK412.out)) : gb429 ≠ gb412)); replace BK412 := bb_ BK412 hb; have NB413_429 := Aside0.mk ((by rw [hg]; exact Nat.ne_of_lt (blk_lt (g := gb413) (o := .cells #[.int .i64 0, .slice none 0 0, .int .i64 0] 30 (0, 0)) (up_ BK413.out)) : gb413 ≠ gb429)); have NB429_413 := Aside0.mk ((by rw [hg]; exact Nat.ne_of_gt (blk_lt (g := gb413) (o := .cells #[.int .i64 0, .slice none 0 0, .int .i64 0] 30 (0, 0)) (up_ BK413.out)) : gb429 ≠ gb413)); replace BK413 := bb_ BK413 hb; have NB419_429 := Aside0.mk ((by rw [hg]; exact Nat.ne_of_lt (blk_lt (g := gb419) (o := .cells #[.int .i64 x420000_3, .slice Ao65 x420001_3.length co65, .int .i64 x420002_3] 30 (0, 0)) (up_ BK419.out)) : gb419 ≠ gb429)); have NB429_419 := Aside0.mk ((by rw [hg]; exact Nat.ne_of_gt (blk_lt (g := gb419) (o := .cells #[.int .i64 x420000_3, .slice Ao65 x420001_3.length co65, .int .i64 x420002_3] 30 (0, 0)) (up_ BK419.out)) : gb429 ≠ gb419)); replace BK419 := bb_ BK419 hb; have NB422_429 := Aside0.mk ((by rw [hg]; exact Nat.ne_of_lt (blk_lt (g := gb422) (o := .cells #[.slice A421_0 ((rd_T34 l1 x33_3).f0).length c421_0] 34 (0, 0)) (up_ BK422.out)) : gb422 ≠ gb429)); have NB429_422 := Aside0.mk ((by rw [hg]; exact Nat.ne_of_gt (blk_lt (g := gb422) (o := .cells #[.slice A421_0 ((rd_T34 l1 x33_3).f0).length c421_0] 34 (0, 0)) (up_ BK422.out)) : gb429 ≠ gb422)); replace BK422 := bb_ BK422 hb; clear hb hbox hg; have hnb68 := NB429_412.out; have hnc68 := NB412_429.out; have hnb69 := NB429_413.out; have hnc69 := NB413_429.out; have hnb70 := NB429_419.out; have hnc70 := NB419_429.out; have hnb71 := NB429_422.out; have hnc71 := NB422_429.out; obtain ⟨hcz72_0, hcz72_1, hcz72_2⟩ := c3_ BK429; have hfz72_0 := blk_frozen BK429.out 0; have hfz72_1 := blk_frozen BK429.out 1; have hfz72_2 := blk_frozen BK429.out 2; obtain ⟨Ao73, co73, eo73⟩ := Kd.S_slice HO426.out; subst eo73; obtain ⟨hcz74_0, hcz74_1, hcz74_2⟩ := c3_ BK419; have hfz74_0 := blk_frozen BK419.out 0; have hfz74_1 := blk_frozen BK419.out 1; have hfz74_2 := blk_frozen BK419.out 2))
           go_roundg k3
           case measure => have := HJ4.out; have := HK2.out; have := HK3.out; omega
           case rel => exact ⟨(t428), (wrap64 (x33_3 + 1)), (t423), (t424), (t427), (.slice Ao73 t424.length co73), rs_, rs_, H', ⟨by have := HJ4.out; have := HK2.out; have := HK3.out; omega⟩, ⟨by (with_reducible repeat (first | apply Kd.S_alloc | apply Kd.S_drewN | apply Kd.S_drew)); exact Kd.S_mono (Kd.S_far (p := ⟨gb419, 2, none⟩) (Kd.S_far (p := ⟨gb419, 1, none⟩) (Kd.S_far (p := ⟨gb419, 0, none⟩) (Kd.S_far (p := ⟨gb429, 2, none⟩) (Kd.S_far (p := ⟨gb429, 1, none⟩) (Kd.S_far (p := ⟨gb429, 0, none⟩) (Kd.S_types (Kd.S_types HO426.out BK429.out (by decide)) BK419.out (by decide)) (fun _ hk => hk.1.2) (.int .i64 t423)) (fun _ hk => hk.1.2) (.slice Ao73 t424.length co73)) (fun _ hk => hk.1.2) (.int .i64 t427)) (fun _ hk => hk.2) (.int .i64 t423)) (fun _ hk => hk.2) (.slice Ao73 t424.length co73)) (fun _ hk => hk.2) (.int .i64 t427)) (fun _ hk => trivial)⟩, ⟨by (with_reducible repeat (first | refine blk_drewN ?_ _ | refine blk_drew ?_ | refine blk_alloc ?_ _)); refine blk_far ?_ NB412_419.out _; (with_reducible repeat (first | refine blk_drewN ?_ _ | refine blk_drew ?_ | refine blk_alloc ?_ _)); refine blk_far ?_ NB412_419.out _; (with_reducible repeat (first | refine blk_drewN ?_ _ | refine blk_drew ?_ | refine blk_alloc ?_ _)); refine blk_far ?_ NB412_419.out _; (with_reducible repeat (first | refine blk_drewN ?_ _ | refine blk_drew ?_ | refine blk_alloc ?_ _)); refine blk_far ?_ NB412_429.out _; (with_reducible repeat (first | refine blk_drewN ?_ _ | refine blk_drew ?_ | refine blk_alloc ?_ _)); refine blk_far ?_ NB412_429.out _; (with_reducible repeat (first | refine blk_drewN ?_ _ | refine blk_drew ?_ | refine blk_alloc ?_ _)); refine blk_far ?_ NB412_429.out _; (with_reducible repeat (first | refine blk_drewN ?_ _ | refine blk_drew ?_ | refine blk_alloc ?_ _)); exact BK412.out⟩, ⟨by (with_reducible repeat (first | refine blk_drewN ?_ _ | refine blk_drew ?_ | refine blk_alloc ?_ _)); refine blk_far ?_ NB413_419.out _; (with_reducible repeat (first | refine blk_drewN ?_ _ | refine blk_drew ?_ | refine blk_alloc ?_ _)); refine blk_far ?_ NB413_419.out _; (with_reducible repeat (first | refine blk_drewN ?_ _ | refine blk_drew ?_ | refine blk_alloc ?_ _)); refine blk_far ?_ NB413_419.out _; (with_reducible repeat (first | refine blk_drewN ?_ _ | refine blk_drew ?_ | refine blk_alloc ?_ _)); refine blk_far ?_ NB413_429.out _; (with_reducible repeat (first | refine blk_drewN ?_ _ | refine blk_drew ?_ | refine blk_alloc ?_ _)); refine blk_far ?_ NB413_429.out _; (with_reducible repeat (first | refine blk_drewN ?_ _ | refine blk_drew ?_ | refine blk_alloc ?_ _)); refine blk_far ?_ NB413_429.out _; (with_reducible repeat (first | refine blk_drewN ?_ _ | refine blk_drew ?_ | refine blk_alloc ?_ _)); exact BK413.out⟩, ⟨by (with_reducible repeat (first | refine blk_drewN ?_ _ | refine blk_drew ?_ | refine blk_alloc ?_ _)); refine blk_put (cs := #[.int .i64 t423, .slice Ao73 t424.length co73, .int .i64 x420002_3]) ?_ 2 _ rfl; (with_reducible repeat (first | refine blk_drewN ?_ _ | refine blk_drew ?_ | refine blk_alloc ?_ _)); refine blk_put (cs := #[.int .i64 t423, .slice Ao65 x420001_3.length co65, .int .i64 x420002_3]) ?_ 1 _ rfl; (with_reducible repeat (first | refine blk_drewN ?_ _ | refine blk_drew ?_ | refine blk_alloc ?_ _)); refine blk_put (cs := #[.int .i64 x420000_3, .slice Ao65 x420001_3.length co65, .int .i64 x420002_3]) ?_ 0 _ rfl; (with_reducible repeat (first | refine blk_drewN ?_ _ | refine blk_drew ?_ | refine blk_alloc ?_ _)); refine blk_far ?_ NB419_429.out _; (with_reducible repeat (first | refine blk_drewN ?_ _ | refine blk_drew ?_ | refine blk_alloc ?_ _)); refine blk_far ?_ NB419_429.out _; (with_reducible repeat (first | refine blk_drewN ?_ _ | refine blk_drew ?_ | refine blk_alloc ?_ _)); refine blk_far ?_ NB419_429.out _; (with_reducible repeat (first | refine blk_drewN ?_ _ | refine blk_drew ?_ | refine blk_alloc ?_ _)); exact BK419.out⟩, ⟨up_ HB.out⟩⟩
         ·replace H := itb_ H; rcases H with ⟨rfl, H⟩ | ⟨rfl, H⟩
          ·have H' := Aside0.mk H
           clear H
           go_wp2
           go_roundg k3
           case measure => have := HJ4.out; have := HK2.out; have := HK3.out; omega
           case rel => exact ⟨(wrap64 (x9_2 + 1)), (wrap64 (x29_2 + 1)), (x420000_3), (x420001_3), (x420002_3), (u420001), rs_, rs_, H', ⟨by have := HJ4.out; have := HK2.out; have := HK3.out; omega⟩, ⟨up_ HO_420001.out⟩, ⟨up_ BK412.out⟩, ⟨up_ BK413.out⟩, ⟨up_ BK419.out⟩, ⟨up_ HB.out⟩⟩
          ·simp only [Option.some.injEq, Prod.mk.injEq] at H
           obtain ⟨rfl, rfl, rfl, rfl⟩ := H
           have hnb76 := NB419_412.out
           have hnc76 := NB412_419.out
           have hnb77 := NB419_413.out
           have hnc77 := NB413_419.out
           obtain ⟨hcz78_0, hcz78_1, hcz78_2⟩ := c3_ BK419
           have hfz78_0 := blk_frozen BK419.out 0
           have hfz78_1 := blk_frozen BK419.out 1
           have hfz78_2 := blk_frozen BK419.out 2
           have hnb79 := NB413_412.out
           have hnc79 := NB412_413.out
           obtain ⟨hcz80_0, hcz80_1, hcz80_2⟩ := c3_ BK413
           have hfz80_0 := blk_frozen BK413.out 0
           have hfz80_1 := blk_frozen BK413.out 1
           have hfz80_2 := blk_frozen BK413.out 2
           obtain ⟨Ao81, co81, eo81⟩ := Kd.S_slice HO_420001.out
           subst eo81
           go_wp2
           refine bodyPost_ret (results_ct rfl _ _ gb413 30 #[.int .i64 x420000_3, .slice Ao81 x420001_3.length co81, .int .i64 x420002_3] (0, 0) _ rfl (by (with_reducible repeat (first | refine blk_drewN ?_ _ | refine blk_drew ?_ | refine blk_alloc ?_ _)); refine blk_put (cs := #[.int .i64 x420000_3, .slice Ao81 x420001_3.length co81, .int .i64 0]) ?_ 2 _ rfl; (with_reducible repeat (first | refine blk_drewN ?_ _ | refine blk_drew ?_ | refine blk_alloc ?_ _)); refine blk_put (cs := #[.int .i64 x420000_3, .slice none 0 0, .int .i64 0]) ?_ 1 _ rfl; (with_reducible repeat (first | refine blk_drewN ?_ _ | refine blk_drew ?_ | refine blk_alloc ?_ _)); refine blk_put (cs := #[.int .i64 0, .slice none 0 0, .int .i64 0]) ?_ 0 _ rfl; (with_reducible repeat (first | refine blk_drewN ?_ _ | refine blk_drew ?_ | refine blk_alloc ?_ _)); exact BK413.out) Try.underlying30 rfl (by kernel_rfl)) rfl ?_
           exact ⟨_, by first | rfl | (simp [errW_none, errW_some] <;> rfl) | (simp only [← hji32]; first | rfl | (simp [errW_none, errW_some] <;> rfl)) | (simp [*, errW_none, errW_some] <;> rfl), by (with_reducible repeat (first | apply Kd.S_alloc | apply Kd.S_drewN | apply Kd.S_drew)); exact Kd.S_mono (Kd.S_far (p := ⟨gb413, 2, none⟩) (Kd.S_far (p := ⟨gb413, 1, none⟩) (Kd.S_far (p := ⟨gb413, 0, none⟩) (Kd.S_types HO_420001.out BK413.out (by decide)) (fun _ hk => hk.2) (.int .i64 x420000_3)) (fun _ hk => hk.2) (.slice Ao81 x420001_3.length co81)) (fun _ hk => hk.2) (.int .i64 x420002_3)) (fun _ hk => trivial), up_ HB.out⟩
      ·simp only [Option.some.injEq, Prod.mk.injEq] at H
       obtain ⟨rfl, rfl, rfl, rfl⟩ := H
       have hnb82 := NB419_412.out
       have hnc82 := NB412_419.out
       have hnb83 := NB419_413.out
       have hnc83 := NB413_419.out
       obtain ⟨hcz84_0, hcz84_1, hcz84_2⟩ := c3_ BK419
       have hfz84_0 := blk_frozen BK419.out 0
       have hfz84_1 := blk_frozen BK419.out 1
       have hfz84_2 := blk_frozen BK419.out 2
       have hnb85 := NB413_412.out
       have hnc85 := NB412_413.out
       obtain ⟨hcz86_0, hcz86_1, hcz86_2⟩ := c3_ BK413
       have hfz86_0 := blk_frozen BK413.out 0
       have hfz86_1 := blk_frozen BK413.out 1
       have hfz86_2 := blk_frozen BK413.out 2
       obtain ⟨Ao87, co87, eo87⟩ := Kd.S_slice HO_420001.out
       subst eo87
       go_wp2
       refine bodyPost_ret (results_ct rfl _ _ gb413 30 #[.int .i64 x420000_2, .slice Ao87 x420001_2.length co87, .int .i64 x420002_2] (0, 0) _ rfl (by (with_reducible repeat (first | refine blk_drewN ?_ _ | refine blk_drew ?_ | refine blk_alloc ?_ _)); refine blk_put (cs := #[.int .i64 x420000_2, .slice Ao87 x420001_2.length co87, .int .i64 0]) ?_ 2 _ rfl; (with_reducible repeat (first | refine blk_drewN ?_ _ | refine blk_drew ?_ | refine blk_alloc ?_ _)); refine blk_put (cs := #[.int .i64 x420000_2, .slice none 0 0, .int .i64 0]) ?_ 1 _ rfl; (with_reducible repeat (first | refine blk_drewN ?_ _ | refine blk_drew ?_ | refine blk_alloc ?_ _)); refine blk_put (cs := #[.int .i64 0, .slice none 0 0, .int .i64 0]) ?_ 0 _ rfl; (with_reducible repeat (first | refine blk_drewN ?_ _ | refine blk_drew ?_ | refine blk_alloc ?_ _)); exact BK413.out) Try.underlying30 rfl (by kernel_rfl)) rfl ?_
       exact ⟨_, by first | rfl | (simp [errW_none, errW_some] <;> rfl) | (simp only [← hji32]; first | rfl | (simp [errW_none, errW_some] <;> rfl)) | (simp [*, errW_none, errW_some] <;> rfl), by (with_reducible repeat (first | apply Kd.S_alloc | apply Kd.S_drewN | apply Kd.S_drew)); exact Kd.S_mono (Kd.S_far (p := ⟨gb413, 2, none⟩) (Kd.S_far (p := ⟨gb413, 1, none⟩) (Kd.S_far (p := ⟨gb413, 0, none⟩) (Kd.S_types HO_420001.out BK413.out (by decide)) (fun _ hk => hk.2) (.int .i64 x420000_2)) (fun _ hk => hk.2) (.slice Ao87 x420001_2.length co87)) (fun _ hk => hk.2) (.int .i64 x420002_2)) (fun _ hk => trivial), up_ HB.out⟩

/-! ### laws_eqRow: function 19 -/
def laws_eqRow.f (k : Nat) (l0_0 : List Int) (l1_0 : List Int) : Option (Bool) := (laws_eqIntS.f k l0_0 l1_0).bind fun t432 => (if t432 = true then (some true) else (some false))
set_option maxHeartbeats 8000000 in
set_option maxRecDepth 100000 in
theorem laws_eqRow.calls (k : Nat) (A0_0 : Option Addr) (c0_0 : Nat) (l0_0 : List Int) (A1_0 : Option Addr) (c1_0 : Nat) (l1_0 : List Int) (r : Bool) (w : World) (hr0_0 : Kd.C (Kd.int .i64) w A0_0 l0_0.length l0_0) (hc0_0 : l0_0.length ≤ c0_0) (hr1_0 : Kd.C (Kd.int .i64) w A1_0 l1_0.length l1_0) (hc1_0 : l1_0.length ≤ c1_0) (h : laws_eqRow.f k l0_0 l1_0 = some r) :
  Calls Try.prog 19 #[.agg #[.slice A0_0 l0_0.length c0_0], .agg #[.slice A1_0 l1_0.length c1_0]] w fun e w' => e = .returned (.bool r) ∧ Below w.heap.size w w' := by
 have hu34 := Try.underlying34
 have HR0_0 := Aside0.mk hr0_0
 have HC0_0 := Aside0.mk hc0_0
 clear hr0_0 hc0_0
 have HR1_0 := Aside0.mk hr1_0
 have HC1_0 := Aside0.mk hc1_0
 clear hr1_0 hc1_0
 have HB := Aside0.mk (Below.refl w.heap.size w)
 have H : ((laws_eqIntS.f k l0_0 l1_0).bind fun t432 => (if t432 = true then (some true) else (some false))) = some r := h
 clear h
 replace H := bnd_ H; obtain ⟨t432, A3, H⟩ := H
 replace H := itb_ H; rcases H with ⟨rfl, H⟩ | ⟨rfl, H⟩
 ·obtain rfl := Option.some.inj H
  go_enter Try.func19, Try.ntmps19
  go_wp2_with (first | ((refine gd_ 2 ?_); refine bx_ 2 #[.slice A0_0 l0_0.length c0_0] 34 ?_; intro gb430 hg w5 hbox hb; have BK430 := Aside0.mk (hbox); have GW430 := gw_ HB hg; have GE430 := gw_ HB hg; replace HB := bs_ HB hb; clear hb hbox hg) | ((refine gd_ 3 ?_); refine bx_ 3 #[.slice A1_0 l1_0.length c1_0] 34 ?_; intro gb431 hg w6 hbox hb; have BK431 := Aside0.mk (hbox); have GW431 := gw_ HB hg; have GE431 := gw_ HB hg; replace HB := bs_ HB hb; have NB430_431 := Aside0.mk ((by rw [hg]; exact Nat.ne_of_lt (blk_lt (g := gb430) (o := .cells #[.slice A0_0 l0_0.length c0_0] 34 (0, 0)) (up_ BK430.out)) : gb430 ≠ gb431)); have NB431_430 := Aside0.mk ((by rw [hg]; exact Nat.ne_of_gt (blk_lt (g := gb430) (o := .cells #[.slice A0_0 l0_0.length c0_0] 34 (0, 0)) (up_ BK430.out)) : gb431 ≠ gb430)); replace BK430 := bb_ BK430 hb; clear hb hbox hg; have hnb7 := NB430_431.out; have hnc7 := NB431_430.out; have hcz8_0 := c1_ BK430; have hfz8_0 := blk_frozen BK430.out 0; have hcz9_0 := c1_ BK431; have hfz9_0 := blk_frozen BK431.out 0) | ((refine gc_ 33 ?_); refine gq_ (some 9) Try.func33 (laws_eqIntS.calls k _ _ l0_0 _ _ l1_0 true _ (Kd.C_below HR0_0.out (up_ HB.out)) HC0_0.out (Kd.C_below HR1_0.out (up_ HB.out)) HC1_0.out A3.out) (fun nd => ?_)))
  go_ret
  exact ⟨re_, up_ HB.out⟩
 ·obtain rfl := Option.some.inj H
  go_enter Try.func19, Try.ntmps19
  go_wp2_with (first | ((refine gd_ 2 ?_); refine bx_ 2 #[.slice A0_0 l0_0.length c0_0] 34 ?_; intro gb430 hg w10 hbox hb; have BK430 := Aside0.mk (hbox); have GW430 := gw_ HB hg; have GE430 := gw_ HB hg; replace HB := bs_ HB hb; clear hb hbox hg) | ((refine gd_ 3 ?_); refine bx_ 3 #[.slice A1_0 l1_0.length c1_0] 34 ?_; intro gb431 hg w11 hbox hb; have BK431 := Aside0.mk (hbox); have GW431 := gw_ HB hg; have GE431 := gw_ HB hg; replace HB := bs_ HB hb; have NB430_431 := Aside0.mk ((by rw [hg]; exact Nat.ne_of_lt (blk_lt (g := gb430) (o := .cells #[.slice A0_0 l0_0.length c0_0] 34 (0, 0)) (up_ BK430.out)) : gb430 ≠ gb431)); have NB431_430 := Aside0.mk ((by rw [hg]; exact Nat.ne_of_gt (blk_lt (g := gb430) (o := .cells #[.slice A0_0 l0_0.length c0_0] 34 (0, 0)) (up_ BK430.out)) : gb431 ≠ gb430)); replace BK430 := bb_ BK430 hb; clear hb hbox hg; have hnb12 := NB430_431.out; have hnc12 := NB431_430.out; have hcz13_0 := c1_ BK430; have hfz13_0 := blk_frozen BK430.out 0; have hcz14_0 := c1_ BK431; have hfz14_0 := blk_frozen BK431.out 0) | ((refine gc_ 33 ?_); refine gq_ (some 9) Try.func33 (laws_eqIntS.calls k _ _ l0_0 _ _ l1_0 false _ (Kd.C_below HR0_0.out (up_ HB.out)) HC0_0.out (Kd.C_below HR1_0.out (up_ HB.out)) HC1_0.out A3.out) (fun nd => ?_)))
  go_ret
  exact ⟨re_, up_ HB.out⟩

end Go.Proofs.Ytkddpilambnicaa.PFnExactHearAll
