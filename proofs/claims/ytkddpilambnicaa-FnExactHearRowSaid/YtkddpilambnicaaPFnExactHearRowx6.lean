/- Walks of Go functions that the law FnExactHearRow uses: written by this session's program out of the kit's printer; each shows that a call comes to the answers of the Lean function beside it. Conditions: each contract's own. -/
import Derived.Test.YtkddpilambnicaaPFnExactHearRowx0
import Derived.Test.YtkddpilambnicaaPFnExactHearRowx5
namespace Go.Proofs.Ytkddpilambnicaa.PFnExactHearRow
open Go.RowKit Go.Proofs.YtkddpilambnicaaW.PrintWords Go.Proofs.YtkddpilambnicaaW.PrintLast Go.Proofs.YtkddpilambnicaaW.PrintMore Go.Proofs.Ytkddpilambnicaa.Mac Go.Proofs.Ytkddpilambnicaa.Law
attribute [local go_sem] max2_int min2_int max_two min_two max_three min_three max_four min_four   -- for this text's walks alone
set_option linter.unusedVariables false
set_option linter.unusedSimpArgs false

/-! ### impl_AreStrata: function 148 -/
def impl_AreStrata.l0 : Nat → List (List Int) → Int → List (List Int) → Int → Int → Option (Bool)
 | 0, _, _, _, _, _ => none
 | k + 1, x0, x1, x7, x8, x9 => if x9 < x8 then (if 0 ≤ x9 then (if x9 < (x7.length : Int) then (if ((rd_L1 x7 x9).length : Int) = 0 then (some false) else (impl_AreStrata.l0 k x0 x1 x7 x8 (wrap64 (x9 + 1)))) else (none)) else (none)) else ((slices_Concat_int_int.f k x0).bind fun t261 => ((impl_IsRanking.f k t261 x1).bind fun t264 => (some t264)))
def impl_AreStrata.f (k : Nat) (l0 : List (List Int)) (a1 : Int) : Option (Bool) := impl_AreStrata.l0 k l0 a1 l0 (l0.length : Int) 0
set_option maxHeartbeats 8000000 in
set_option maxRecDepth 100000 in
theorem impl_AreStrata.calls (k : Nat) (A0 : Option Addr) (c0 : Nat) (l0 : List (List Int)) (a1 : Int) (r : Bool) (w : World) (hr0 : Kd.C (Kd.slice 3 (Kd.int .i64)) w A0 l0.length l0) (hc0 : l0.length ≤ c0) (h : impl_AreStrata.f k l0 a1 = some r) :
  Calls Try.prog 148 #[.slice A0 l0.length c0, .int .i64 a1] w fun e w' => e = .returned (.bool r) ∧ Below w.heap.size w w' := by
 have HR0 := Aside0.mk hr0
 have HC0 := Aside0.mk hc0
 clear hr0 hc0
 have HB := Aside0.mk (Below.refl w.heap.size w)
 have H : (impl_AreStrata.l0 k l0 a1 l0 (l0.length : Int) 0) = some r := h
 clear h
 have H' := Aside0.mk H
 clear H
 go_enter Try.func148, Try.ntmps148
 go_wp2
 go_loopg [9] k (fun kq v9 w' => ∃ (x9_1 : Int), v9 = .int .i64 x9_1 ∧ Aside0 (impl_AreStrata.l0 kq l0 a1 l0 (l0.length : Int) x9_1 = some r) ∧ Aside0 (kq ≤ k) ∧ Aside0 (Below w.heap.size w w'))
 case atStart => exact ⟨(0), rs_, H', ⟨Nat.le_refl _⟩, ⟨up_ HB.out⟩⟩
 case round =>
  clear H'
  try clear c1
  try clear p2
  obtain ⟨x9_1, rfl, HA, HK1, HB⟩ := hrel
  cases gk with
  | zero => exact absurd HA.out (by simp [impl_AreStrata.l0])
  | succ k1 =>
   have H := HA.out
   clear HA
   simp only [impl_AreStrata.l0] at H
   replace H := its_ H; rcases H with ⟨c3b0, H⟩ | ⟨c3b0, H⟩
   ·replace H := its_ H; rcases H with ⟨c4b0, H⟩ | ⟨_, ⟨⟩⟩
    replace H := its_ H; rcases H with ⟨c5b0, H⟩ | ⟨_, ⟨⟩⟩
    replace H := ieq_ H; rcases H with ⟨-, c6b0, c6b1, H⟩ | ⟨c6, c6b0, c6b1, H⟩
    ·obtain rfl := Option.some.inj H
     have p260 : 0 ≤ (x9_1 : Int) := od_
     have q260 : x9_1 < (l0.length : Int) := od_
     obtain ⟨ad260, A260_0, c260_0, e260, hx260_0, hl260_0, hi260_0⟩ := at_L1 HR0.out x9_1 p260 q260
     cases e260
     replace hx260_0 := bh_ HB hx260_0
     have HR260_0 := Aside0.mk hi260_0
     have HC260_0 := Aside0.mk hl260_0
     clear hi260_0 hl260_0
     replace p260 := eq_true p260
     replace q260 := eq_true q260
     go_wp2
     go_ret
     exact ⟨re_, up_ HB.out⟩
    ·have c6b2 : ¬ ((rd_L1 l0 x9_1) = []) := fun h_ => c6 (by rw [h_]; rfl)
     have H' := Aside0.mk H
     clear H
     have p260 : 0 ≤ (x9_1 : Int) := od_
     have q260 : x9_1 < (l0.length : Int) := od_
     obtain ⟨ad260, A260_0, c260_0, e260, hx260_0, hl260_0, hi260_0⟩ := at_L1 HR0.out x9_1 p260 q260
     cases e260
     replace hx260_0 := bh_ HB hx260_0
     have HR260_0 := Aside0.mk hi260_0
     have HC260_0 := Aside0.mk hl260_0
     clear hi260_0 hl260_0
     replace p260 := eq_true p260
     replace q260 := eq_true q260
     go_wp2
     go_roundg k1
     case measure => have := HK1.out; omega
     case rel => exact ⟨(wrap64 (x9_1 + 1)), rs_, H', ⟨by have := HK1.out; omega⟩, ⟨up_ HB.out⟩⟩
   ·replace H := bnd_ H; obtain ⟨t261, A7, H⟩ := H
    replace H := bnd_ H; obtain ⟨t264, A8, H⟩ := H
    obtain rfl := Option.some.inj H
    go_wp2_with (first | ((refine gc_ 189 ?_); refine gl_ (some 18) Try.func189 (slices_Concat_int_int.calls k1 _ _ l0 t261 _ (Kd.C_below HR0.out (up_ HB.out)) HC0.out A7.out) ?_; rintro e w9 ⟨v262, rfl, ho0, hb⟩; refine ⟨_, rfl, ?_⟩; have HO263 := Aside0.mk (Kd.R_lower ho0 (below_size (up_ HB.out))); replace HB := bs_ HB hb; (try clear hb); (try clear hb2); (try clear hk); (try clear hi); (try clear ho0); obtain ⟨Ao10, co10, eo10⟩ := Kd.R_slice HO263.out; subst eo10) | ((refine gc_ 139 ?_); refine goesL_ (some 20) rfl rfl Try.func139 (by kernel_rfl) rfl #[.slice Ao10 t261.length co10, .int .i64 a1] rfl am_ ?_; (with_reducible refine (impl_IsRanking.calls k1 _ _ t261 a1 t264 _ ?side1 ?side2 A8.out).mono ?_); (case side1 => repeat (first | exact (Kd.R_reads' HO263.out).2.2 | (with_reducible refine Kd.C_alloc ?_ _) | (with_reducible refine Kd.C_drewN ?_ _) | (with_reducible refine Kd.C_drew ?_))); (case side2 => exact (Kd.R_reads' HO263.out).2.1); rintro e w11 ⟨rfl, hb⟩; refine ⟨_, rfl, ?_⟩; replace HO263 := Aside0.mk (Kd.R_below (up_ HO263.out) hb); replace HB := bs_ HB hb; (try clear hb); (try clear hb2); (try clear hk); (try clear hi)))
    go_ret
    exact ⟨re_, up_ HB.out⟩

/-! ### impl_IsLearner: function 82 -/
def impl_IsLearner.f (k : Nat) (a0_0 : Int) (l0_1 : List (List Int)) (a0_2 : Int) : Option (Bool) := (impl_AreStrata.f k l0_1 a0_0).bind fun t266 => (if t266 = true then ((impl_within.f a0_2 0 1000).bind fun t267 => (some t267)) else (some false))
set_option maxHeartbeats 8000000 in
set_option maxRecDepth 100000 in
theorem impl_IsLearner.calls (k : Nat) (a0_0 : Int) (A0_1 : Option Addr) (c0_1 : Nat) (l0_1 : List (List Int)) (a0_2 : Int) (r : Bool) (w : World) (hr0_1 : Kd.C (Kd.slice 3 (Kd.int .i64)) w A0_1 l0_1.length l0_1) (hc0_1 : l0_1.length ≤ c0_1) (h : impl_IsLearner.f k a0_0 l0_1 a0_2 = some r) :
  Calls Try.prog 82 #[.agg #[.int .i64 a0_0, .slice A0_1 l0_1.length c0_1, .int .i64 a0_2]] w fun e w' => e = .returned (.bool r) ∧ Below w.heap.size w w' := by
 have hu30 := Try.underlying30
 have HR0_1 := Aside0.mk hr0_1
 have HC0_1 := Aside0.mk hc0_1
 clear hr0_1 hc0_1
 have HB := Aside0.mk (Below.refl w.heap.size w)
 have H : ((impl_AreStrata.f k l0_1 a0_0).bind fun t266 => (if t266 = true then ((impl_within.f a0_2 0 1000).bind fun t267 => (some t267)) else (some false))) = some r := h
 clear h
 replace H := bnd_ H; obtain ⟨t266, A2, H⟩ := H
 replace H := itb_ H; rcases H with ⟨rfl, H⟩ | ⟨rfl, H⟩
 ·replace H := bnd_ H; obtain ⟨t267, A4, H⟩ := H
  obtain rfl := Option.some.inj H
  go_enter Try.func82, Try.ntmps82
  go_wp2_with (first | ((refine gd_ 1 ?_); refine bx_ 1 #[.int .i64 a0_0, .slice A0_1 l0_1.length c0_1, .int .i64 a0_2] 30 ?_; intro gb265 hg w5 hbox hb; have BK265 := Aside0.mk (hbox); have GW265 := gw_ HB hg; have GE265 := gw_ HB hg; replace HB := bs_ HB hb; clear hb hbox hg; obtain ⟨hcz6_0, hcz6_1, hcz6_2⟩ := c3_ BK265; have hfz6_0 := blk_frozen BK265.out 0; have hfz6_1 := blk_frozen BK265.out 1; have hfz6_2 := blk_frozen BK265.out 2) | ((refine gc_ 148 ?_); refine gl_ (some 7) Try.func148 (impl_AreStrata.calls k _ _ l0_1 a0_0 true _ (Kd.C_below HR0_1.out (up_ HB.out)) HC0_1.out A2.out) ?_; rintro e w7 ⟨rfl, hb⟩; refine ⟨_, rfl, ?_⟩; replace BK265 := bb_ BK265 hb; replace HB := bs_ HB hb; (try clear hb); (try clear hb2); (try clear hk); (try clear hi); obtain ⟨hcz8_0, hcz8_1, hcz8_2⟩ := c3_ BK265; have hfz8_0 := blk_frozen BK265.out 0; have hfz8_1 := blk_frozen BK265.out 1; have hfz8_2 := blk_frozen BK265.out 2) | (go_at_call 98; (with_reducible refine (impl_within.calls a0_2 0 1000 t267 _ A4.out).mono ?_); rintro e w' ⟨rfl, ⟨nd, rfl⟩⟩))
  go_ret
  exact ⟨re_, up_ HB.out⟩
 ·obtain rfl := Option.some.inj H
  go_enter Try.func82, Try.ntmps82
  go_wp2_with (first | ((refine gd_ 1 ?_); refine bx_ 1 #[.int .i64 a0_0, .slice A0_1 l0_1.length c0_1, .int .i64 a0_2] 30 ?_; intro gb265 hg w9 hbox hb; have BK265 := Aside0.mk (hbox); have GW265 := gw_ HB hg; have GE265 := gw_ HB hg; replace HB := bs_ HB hb; clear hb hbox hg; obtain ⟨hcz10_0, hcz10_1, hcz10_2⟩ := c3_ BK265; have hfz10_0 := blk_frozen BK265.out 0; have hfz10_1 := blk_frozen BK265.out 1; have hfz10_2 := blk_frozen BK265.out 2) | ((refine gc_ 148 ?_); refine gl_ (some 7) Try.func148 (impl_AreStrata.calls k _ _ l0_1 a0_0 false _ (Kd.C_below HR0_1.out (up_ HB.out)) HC0_1.out A2.out) ?_; rintro e w11 ⟨rfl, hb⟩; refine ⟨_, rfl, ?_⟩; replace BK265 := bb_ BK265 hb; replace HB := bs_ HB hb; (try clear hb); (try clear hb2); (try clear hk); (try clear hi)))
  go_ret
  exact ⟨re_, up_ HB.out⟩

/-! ### impl_IsRow: function 83 -/
def impl_IsRow.l0 : Nat → Int → List Int → Int → Int → List Int → Option (Bool)
 | 0, _, _, _, _, _ => none
 | k + 1, x1, x8, x9, x10, x269000 => if x10 < x9 then (if 0 ≤ x10 then (if x10 < (x8.length : Int) then ((impl_within.f (rd x8 x10) (-1) 1).bind fun t270 => (if t270 = true then (impl_IsRow.l0 k x1 x8 x9 (wrap64 (x10 + 1)) x269000) else (some false))) else (none)) else (none)) else ((impl_within.f x1 1 5).bind fun t271 => (if t271 = true then (some ((x269000.length : Int) == x1)) else (some false)))
def impl_IsRow.f (k : Nat) (l0_0 : List Int) (a1 : Int) : Option (Bool) := impl_IsRow.l0 k a1 l0_0 (l0_0.length : Int) 0 l0_0
set_option maxHeartbeats 8000000 in
set_option maxRecDepth 100000 in
theorem impl_IsRow.calls (k : Nat) (A0_0 : Option Addr) (c0_0 : Nat) (l0_0 : List Int) (a1 : Int) (r : Bool) (w : World) (hr0_0 : Kd.C (Kd.int .i64) w A0_0 l0_0.length l0_0) (hc0_0 : l0_0.length ≤ c0_0) (h : impl_IsRow.f k l0_0 a1 = some r) :
  Calls Try.prog 83 #[.agg #[.slice A0_0 l0_0.length c0_0], .int .i64 a1] w fun e w' => e = .returned (.bool r) ∧ Below w.heap.size w w' := by
 have hu34 := Try.underlying34
 have HR0_0 := Aside0.mk hr0_0
 have HC0_0 := Aside0.mk hc0_0
 clear hr0_0 hc0_0
 have HB := Aside0.mk (Below.refl w.heap.size w)
 have H : (impl_IsRow.l0 k a1 l0_0 (l0_0.length : Int) 0 l0_0) = some r := h
 clear h
 have H' := Aside0.mk H
 clear H
 go_enter Try.func83, Try.ntmps83
 go_wp2_with (first | ((refine gd_ 2 ?_); (try (refine gate_guard (by rfl) ?_; dsimp only)); refine bx_ 2 #[.slice A0_0 l0_0.length c0_0] 34 ?_; intro gb268 hg w3 hbox hb; have BK268 := Aside0.mk (hbox); have GW268 := gw_ HB hg; have GE268 := gw_ HB hg; replace HB := bs_ HB hb; clear hb hbox hg; have hcz4_0 := c1_ BK268; have hfz4_0 := blk_frozen BK268.out 0))
 go_loopg [10] k (fun kq v10 w' => ∃ (x10_1 : Int), v10 = .int .i64 x10_1 ∧ Aside0 (impl_IsRow.l0 kq a1 l0_0 (l0_0.length : Int) x10_1 l0_0 = some r) ∧ Aside0 (kq ≤ k) ∧ Aside0 (w'.heap[gb268]? = some (.cells #[(.slice A0_0 l0_0.length c0_0)] 34 (0, 0))) ∧ Aside0 (Below w.heap.size w w'))
 case atStart => exact ⟨(0), rs_, H', ⟨Nat.le_refl _⟩, ⟨up_ BK268.out⟩, ⟨up_ HB.out⟩⟩
 case round =>
  clear H'
  try clear p2
  try clear hcz4_0
  try clear hfz4_0
  obtain ⟨x10_1, rfl, HA, HK1, BK268, HB⟩ := hrel
  cases gk with
  | zero => exact absurd HA.out (by simp [impl_IsRow.l0])
  | succ k1 =>
   have H := HA.out
   clear HA
   simp only [impl_IsRow.l0] at H
   replace H := its_ H; rcases H with ⟨c5b0, H⟩ | ⟨c5b0, H⟩
   ·replace H := its_ H; rcases H with ⟨c6b0, H⟩ | ⟨_, ⟨⟩⟩
    replace H := its_ H; rcases H with ⟨c7b0, H⟩ | ⟨_, ⟨⟩⟩
    replace H := bnd_ H; obtain ⟨t270, A8, H⟩ := H
    replace H := itb_ H; rcases H with ⟨rfl, H⟩ | ⟨rfl, H⟩
    ·have H' := Aside0.mk H
     clear H
     have p269 : 0 ≤ (x10_1 : Int) := od_
     have q269 : x10_1 < (l0_0.length : Int) := od_
     obtain ⟨ad269, e269, hx269_0⟩ := Kd.at_int HR0_0.out x10_1 p269 q269
     cases e269
     replace hx269_0 := bh_ HB hx269_0
     replace p269 := eq_true p269
     replace q269 := eq_true q269
     go_wp2_with (first | ((refine gc_ 98 ?_); refine gq_ (some 15) Try.func98 (impl_within.calls (rd l0_0 x10_1) (-1) 1 true _ A8.out) (fun nd => ?_)))
     go_roundg k1
     case measure => have := HK1.out; omega
     case rel => exact ⟨(wrap64 (x10_1 + 1)), rs_, H', ⟨by have := HK1.out; omega⟩, ⟨up_ BK268.out⟩, ⟨up_ HB.out⟩⟩
    ·obtain rfl := Option.some.inj H
     have p269 : 0 ≤ (x10_1 : Int) := od_
     have q269 : x10_1 < (l0_0.length : Int) := od_
     obtain ⟨ad269, e269, hx269_0⟩ := Kd.at_int HR0_0.out x10_1 p269 q269
     cases e269
     replace hx269_0 := bh_ HB hx269_0
     replace p269 := eq_true p269
     replace q269 := eq_true q269
     go_wp2_with (first | ((refine gc_ 98 ?_); refine gq_ (some 15) Try.func98 (impl_within.calls (rd l0_0 x10_1) (-1) 1 false _ A8.out) (fun nd => ?_)))
     go_ret
     exact ⟨re_, up_ HB.out⟩
   ·replace H := bnd_ H; obtain ⟨t271, A10, H⟩ := H
    replace H := itb_ H; rcases H with ⟨rfl, H⟩ | ⟨rfl, H⟩
    ·obtain rfl := Option.some.inj H
     go_wp2_with (first | ((refine gc_ 98 ?_); refine gq_ (some 19) Try.func98 (impl_within.calls a1 1 5 true _ A10.out) (fun nd => ?_); have hcz12_0 := c1_ BK268; have hfz12_0 := blk_frozen BK268.out 0))
     go_ret
     exact ⟨re_, up_ HB.out⟩
    ·obtain rfl := Option.some.inj H
     go_wp2_with (first | ((refine gc_ 98 ?_); refine gq_ (some 19) Try.func98 (impl_within.calls a1 1 5 false _ A10.out) (fun nd => ?_)))
     go_ret
     exact ⟨re_, up_ HB.out⟩

/-! ### impl_isAnyRow: function 149 -/
def impl_isAnyRow.f (k : Nat) (l0_0 : List Int) : Option (Bool) := (impl_IsRow.f k l0_0 (l0_0.length : Int)).bind fun t273 => (some t273)
set_option maxHeartbeats 8000000 in
set_option maxRecDepth 100000 in
theorem impl_isAnyRow.calls (k : Nat) (A0_0 : Option Addr) (c0_0 : Nat) (l0_0 : List Int) (r : Bool) (w : World) (hr0_0 : Kd.C (Kd.int .i64) w A0_0 l0_0.length l0_0) (hc0_0 : l0_0.length ≤ c0_0) (h : impl_isAnyRow.f k l0_0 = some r) :
  Calls Try.prog 149 #[.agg #[.slice A0_0 l0_0.length c0_0]] w fun e w' => e = .returned (.bool r) ∧ Below w.heap.size w w' := by
 have hu34 := Try.underlying34
 have HR0_0 := Aside0.mk hr0_0
 have HC0_0 := Aside0.mk hc0_0
 clear hr0_0 hc0_0
 have HB := Aside0.mk (Below.refl w.heap.size w)
 have H : ((impl_IsRow.f k l0_0 (l0_0.length : Int)).bind fun t273 => (some t273)) = some r := h
 clear h
 replace H := bnd_ H; obtain ⟨t273, A2, H⟩ := H
 obtain rfl := Option.some.inj H
 go_enter Try.func149, Try.ntmps149
 go_wp2_with (first | ((refine gd_ 1 ?_); refine bx_ 1 #[.slice A0_0 l0_0.length c0_0] 34 ?_; intro gb272 hg w3 hbox hb; have BK272 := Aside0.mk (hbox); have GW272 := gw_ HB hg; have GE272 := gw_ HB hg; replace HB := bs_ HB hb; clear hb hbox hg; have hcz4_0 := c1_ BK272; have hfz4_0 := blk_frozen BK272.out 0) | ((refine gc_ 83 ?_); refine gl_ (some 7) Try.func83 (impl_IsRow.calls k _ _ l0_0 (l0_0.length : Int) t273 _ (Kd.C_below HR0_0.out (up_ HB.out)) HC0_0.out A2.out) ?_; rintro e w5 ⟨rfl, hb⟩; refine ⟨_, rfl, ?_⟩; replace BK272 := bb_ BK272 hb; replace HB := bs_ HB hb; (try clear hb); (try clear hb2); (try clear hk); (try clear hi)))
 go_ret
 exact ⟨re_, up_ HB.out⟩

/-! ### impl_StrataSatisfy: function 84 -/
mutual
def impl_StrataSatisfy.j0 : Nat → List (List Int) → Bool → List Int → Option (Bool)
 | 0, _, _, _ => none
 | k + 1, x0, x21, x275000 => if x21 = true then (some false) else (impl_StrataSatisfy.l0 k x0 (x0.length : Int) 0 x275000)
def impl_StrataSatisfy.l0 : Nat → List (List Int) → Int → Int → List Int → Option (Bool)
 | 0, _, _, _, _ => none
 | k + 1, x22, x23, x24, x275000 => if x24 < x23 then (if 0 ≤ x24 then (if x24 < (x22.length : Int) then (impl_StrataSatisfy.l1 k false false x22 x23 x24 (rd_L1 x22 x24) ((rd_L1 x22 x24).length : Int) 0 x275000) else (none)) else (none)) else (some true)
def impl_StrataSatisfy.l1 : Nat → Bool → Bool → List (List Int) → Int → Int → List Int → Int → Int → List Int → Option (Bool)
 | 0, _, _, _, _, _, _, _, _, _ => none
 | k + 1, x7, x8, x22, x23, x24, x28, x29, x30, x275000 => if x30 < x29 then (if 0 ≤ x30 then (if x30 < (x28.length : Int) then (if x7 = true then (if x8 = true then (impl_StrataSatisfy.l1 k true true x22 x23 x24 x28 x29 (wrap64 (x30 + 1)) x275000) else (if 0 ≤ (rd x28 x30) then (if (rd x28 x30) < (x275000.length : Int) then (impl_StrataSatisfy.l1 k true ((rd x275000 (rd x28 x30)) == (-1)) x22 x23 x24 x28 x29 (wrap64 (x30 + 1)) x275000) else (none)) else (none))) else (if 0 ≤ (rd x28 x30) then (if (rd x28 x30) < (x275000.length : Int) then (if x8 = true then (impl_StrataSatisfy.l1 k ((rd x275000 (rd x28 x30)) == 1) true x22 x23 x24 x28 x29 (wrap64 (x30 + 1)) x275000) else (impl_StrataSatisfy.l1 k ((rd x275000 (rd x28 x30)) == 1) ((rd x275000 (rd x28 x30)) == (-1)) x22 x23 x24 x28 x29 (wrap64 (x30 + 1)) x275000)) else (none)) else (none))) else (none)) else (none)) else (if x7 = true then (some (!x8)) else (if x8 = true then (some (!x8)) else (impl_StrataSatisfy.l0 k x22 x23 (wrap64 (x24 + 1)) x275000)))
end
def impl_StrataSatisfy.f (k : Nat) (l0 : List (List Int)) (l1_0 : List Int) : Option (Bool) := (impl_isAnyRow.f k l1_0).bind fun t275 => (if t275 = true then ((impl_AreStrata.f k l0 (l1_0.length : Int)).bind fun t276 => (impl_StrataSatisfy.j0 k l0 (!t276) l1_0)) else (impl_StrataSatisfy.j0 k l0 true l1_0))
set_option maxHeartbeats 8000000 in
set_option maxRecDepth 100000 in
theorem impl_StrataSatisfy.calls (k : Nat) (A0 : Option Addr) (c0 : Nat) (l0 : List (List Int)) (A1_0 : Option Addr) (c1_0 : Nat) (l1_0 : List Int) (r : Bool) (w : World) (hr0 : Kd.C (Kd.slice 3 (Kd.int .i64)) w A0 l0.length l0) (hc0 : l0.length ≤ c0) (hr1_0 : Kd.C (Kd.int .i64) w A1_0 l1_0.length l1_0) (hc1_0 : l1_0.length ≤ c1_0) (h : impl_StrataSatisfy.f k l0 l1_0 = some r) :
  Calls Try.prog 84 #[.slice A0 l0.length c0, .agg #[.slice A1_0 l1_0.length c1_0]] w fun e w' => e = .returned (.bool r) ∧ Below w.heap.size w w' := by
 have hu34 := Try.underlying34
 have HR0 := Aside0.mk hr0
 have HC0 := Aside0.mk hc0
 clear hr0 hc0
 have HR1_0 := Aside0.mk hr1_0
 have HC1_0 := Aside0.mk hc1_0
 clear hr1_0 hc1_0
 have HB := Aside0.mk (Below.refl w.heap.size w)
 have H : ((impl_isAnyRow.f k l1_0).bind fun t275 => (if t275 = true then ((impl_AreStrata.f k l0 (l1_0.length : Int)).bind fun t276 => (impl_StrataSatisfy.j0 k l0 (!t276) l1_0)) else (impl_StrataSatisfy.j0 k l0 true l1_0))) = some r := h
 clear h
 have HC3 := Aside0.mk H
 clear H
 go_enter Try.func84, Try.ntmps84
 go_upto_region 1 with (first | ((refine gd_ 3 ?_); (try (refine gate_guard (by rfl) ?_; dsimp only)); refine bx_ 3 #[.slice A1_0 l1_0.length c1_0] 34 ?_; intro gb274 hg w4 hbox hb; have BK274 := Aside0.mk (hbox); have GW274 := gw_ HB hg; have GE274 := gw_ HB hg; replace HB := bs_ HB hb; clear hb hbox hg))
 (try simp only [Act.put, List.setIfInBounds_toArray, List.set_cons_zero, List.set_cons_succ])
 go_cut [21] (fun v21 wc => ∃ (kq : Nat) (x21_2 : Bool), v21 = .bool x21_2 ∧ Aside0 (impl_StrataSatisfy.j0 kq l0 x21_2 l1_0 = some r) ∧ Aside0 (kq ≤ k) ∧ Aside0 (wc.heap[gb274]? = some (.cells #[(.slice A1_0 l1_0.length c1_0)] 34 (0, 0))) ∧ Aside0 (Below w.heap.size w wc))
 case first =>
  have H := HC3.out
  clear HC3
  replace H := bnd_ H; obtain ⟨t275, A5, H⟩ := H
  replace H := itb_ H; rcases H with ⟨rfl, H⟩ | ⟨rfl, H⟩
  ·replace H := bnd_ H; obtain ⟨t276, A7, H⟩ := H
   have H' := Aside0.mk H
   clear H
   have hcz8_0 := c1_ BK274
   have hfz8_0 := blk_frozen BK274.out 0
   go_wp2_with (first | ((refine gc_ 149 ?_); refine gl_ (some 12) Try.func149 (impl_isAnyRow.calls k _ _ l1_0 true _ (Kd.C_below HR1_0.out (up_ HB.out)) HC1_0.out A5.out) ?_; rintro e w9 ⟨rfl, hb⟩; refine ⟨_, rfl, ?_⟩; replace BK274 := bb_ BK274 hb; replace HB := bs_ HB hb; (try clear hb); (try clear hb2); (try clear hk); (try clear hi); have hcz10_0 := c1_ BK274; have hfz10_0 := blk_frozen BK274.out 0) | (go_at_call 148; (with_reducible refine (impl_AreStrata.calls k _ _ l0 (l1_0.length : Int) t276 _ (Kd.C_below HR0.out (up_ HB.out)) HC0.out A7.out).mono ?_); rintro e w11 ⟨rfl, hb⟩; replace BK274 := bb_ BK274 hb; replace HB := bs_ HB hb; (try clear hb); (try clear hb2); (try clear hk); (try clear hi)))
   go_meet
   case rel => exact ⟨_, (!t276), rs_, H', ⟨by first | omega | exact Nat.le_refl _⟩, ⟨up_ BK274.out⟩, ⟨up_ HB.out⟩⟩
  ·have H' := Aside0.mk H
   clear H
   have hcz12_0 := c1_ BK274
   have hfz12_0 := blk_frozen BK274.out 0
   go_wp2_with (first | ((refine gc_ 149 ?_); refine gl_ (some 12) Try.func149 (impl_isAnyRow.calls k _ _ l1_0 false _ (Kd.C_below HR1_0.out (up_ HB.out)) HC1_0.out A5.out) ?_; rintro e w13 ⟨rfl, hb⟩; refine ⟨_, rfl, ?_⟩; replace BK274 := bb_ BK274 hb; replace HB := bs_ HB hb; (try clear hb); (try clear hb2); (try clear hk); (try clear hi)))
   go_meet
   case rel => exact ⟨_, (true), rs_, H', ⟨by first | omega | exact Nat.le_refl _⟩, ⟨up_ BK274.out⟩, ⟨up_ HB.out⟩⟩
 case rest =>
  clear HC3
  try clear c1
  try clear p2
  try clear c6
  try clear c8
  try clear hcz10_0
  try clear hcz12_0
  try clear hcz8_0
  try clear hfz10_0
  try clear hfz12_0
  try clear hfz8_0
  obtain ⟨kq, x21_2, rfl, HA, HJ2, BK274, HB⟩ := hcut
  cases kq with
  | zero => exact absurd HA.out (by simp [impl_StrataSatisfy.j0])
  | succ kj2 =>
   have H := HA.out
   clear HA
   simp only [impl_StrataSatisfy.j0] at H
   replace H := itb_ H; rcases H with ⟨rfl, H⟩ | ⟨rfl, H⟩
   ·obtain rfl := Option.some.inj H
    go_wp2
    go_ret
    exact ⟨re_, up_ HB.out⟩
   ·have H' := Aside0.mk H
    clear H
    go_wp2
    go_loopg [24] kj2 (fun kq v24 w' => ∃ (x24_2 : Int), v24 = .int .i64 x24_2 ∧ Aside0 (impl_StrataSatisfy.l0 kq l0 (l0.length : Int) x24_2 l1_0 = some r) ∧ Aside0 (kq ≤ kj2) ∧ Aside0 (w'.heap[gb274]? = some (.cells #[(.slice A1_0 l1_0.length c1_0)] 34 (0, 0))) ∧ Aside0 (Below w.heap.size w w'))
    case atStart => exact ⟨(0), rs_, H', ⟨Nat.le_refl _⟩, ⟨up_ BK274.out⟩, ⟨up_ HB.out⟩⟩
    case round =>
     clear H'
     try clear c1
     try clear p2
     try clear c6
     try clear c8
     try clear c14
     try clear hcz10_0
     try clear hcz12_0
     try clear hcz8_0
     try clear hfz10_0
     try clear hfz12_0
     try clear hfz8_0
     try clear p2
     obtain ⟨x24_2, rfl, HA, HK2, BK274, HB⟩ := hrel
     cases gk with
     | zero => exact absurd HA.out (by simp [impl_StrataSatisfy.l0])
     | succ k2 =>
      have H := HA.out
      clear HA
      simp only [impl_StrataSatisfy.l0] at H
      replace H := its_ H; rcases H with ⟨c15b0, H⟩ | ⟨c15b0, H⟩
      ·replace H := its_ H; rcases H with ⟨c16b0, H⟩ | ⟨_, ⟨⟩⟩
       replace H := its_ H; rcases H with ⟨c17b0, H⟩ | ⟨_, ⟨⟩⟩
       have H' := Aside0.mk H
       clear H
       have p277 : 0 ≤ (x24_2 : Int) := od_
       have q277 : x24_2 < (l0.length : Int) := od_
       obtain ⟨ad277, A277_0, c277_0, e277, hx277_0, hl277_0, hi277_0⟩ := at_L1 HR0.out x24_2 p277 q277
       cases e277
       replace hx277_0 := bh_ HB hx277_0
       have HR277_0 := Aside0.mk hi277_0
       have HC277_0 := Aside0.mk hl277_0
       clear hi277_0 hl277_0
       replace p277 := eq_true p277
       replace q277 := eq_true q277
       go_wp2
       go_loopg [7, 8, 30] k2 (fun kq v7 v8 v30 w' => ∃ (x7_3 : Bool) (x8_3 : Bool) (x30_3 : Int), v7 = .bool x7_3 ∧ v8 = .bool x8_3 ∧ v30 = .int .i64 x30_3 ∧ Aside0 (impl_StrataSatisfy.l1 kq x7_3 x8_3 l0 (l0.length : Int) x24_2 (rd_L1 l0 x24_2) ((rd_L1 l0 x24_2).length : Int) x30_3 l1_0 = some r) ∧ Aside0 (kq ≤ k2) ∧ Aside0 (w'.heap[gb274]? = some (.cells #[(.slice A1_0 l1_0.length c1_0)] 34 (0, 0))) ∧ Aside0 (Below w.heap.size w w'))
       case atStart => exact ⟨(false), (false), (0), rs_, rs_, rs_, H', ⟨Nat.le_refl _⟩, ⟨up_ BK274.out⟩, ⟨up_ HB.out⟩⟩
       case round =>
        clear H'
        try clear c1
        try clear c2
        try clear p2
        try clear q2
        try clear hx2
        try clear c6
        try clear c8
        try clear c14
        try clear c15
        try clear c15b0
        try clear c16
        try clear c16b0
        try clear c17
        try clear c17b0
        try clear hcz10_0
        try clear hcz12_0
        try clear hcz8_0
        try clear hfz10_0
        try clear hfz12_0
        try clear hfz8_0
        try clear hx277_0
        try clear p2
        try clear p277
        try clear q277
        obtain ⟨x7_3, x8_3, x30_3, rfl, rfl, rfl, HA, HK3, BK274, HB⟩ := hrel
        cases gk with
        | zero => exact absurd HA.out (by simp [impl_StrataSatisfy.l1])
        | succ k3 =>
         have H := HA.out
         clear HA
         simp only [impl_StrataSatisfy.l1] at H
         replace H := its_ H; rcases H with ⟨c18b0, H⟩ | ⟨c18b0, H⟩
         ·replace H := its_ H; rcases H with ⟨c19b0, H⟩ | ⟨_, ⟨⟩⟩
          replace H := its_ H; rcases H with ⟨c20b0, H⟩ | ⟨_, ⟨⟩⟩
          replace H := itb_ H; rcases H with ⟨rfl, H⟩ | ⟨rfl, H⟩
          ·replace H := itb_ H; rcases H with ⟨rfl, H⟩ | ⟨rfl, H⟩
           ·have H' := Aside0.mk H
            clear H
            have p278 : 0 ≤ (x30_3 : Int) := od_
            have q278 : x30_3 < ((rd_L1 l0 x24_2).length : Int) := od_
            obtain ⟨ad278, e278, hx278_0⟩ := Kd.at_int HR277_0.out x30_3 p278 q278
            cases e278
            replace hx278_0 := bh_ HB hx278_0
            replace p278 := eq_true p278
            replace q278 := eq_true q278
            go_wp2
            go_roundg k3
            case measure => have := HJ2.out; have := HK2.out; have := HK3.out; omega
            case rel => exact ⟨(true), (true), (wrap64 (x30_3 + 1)), rs_, rs_, rs_, H', ⟨by have := HJ2.out; have := HK2.out; have := HK3.out; omega⟩, ⟨up_ BK274.out⟩, ⟨up_ HB.out⟩⟩
           ·replace H := its_ H; rcases H with ⟨c23b0, H⟩ | ⟨_, ⟨⟩⟩
            replace H := its_ H; rcases H with ⟨c24b0, H⟩ | ⟨_, ⟨⟩⟩
            have H' := Aside0.mk H
            clear H
            have p278 : 0 ≤ (x30_3 : Int) := od_
            have q278 : x30_3 < ((rd_L1 l0 x24_2).length : Int) := od_
            obtain ⟨ad278, e278, hx278_0⟩ := Kd.at_int HR277_0.out x30_3 p278 q278
            cases e278
            replace hx278_0 := bh_ HB hx278_0
            replace p278 := eq_true p278
            replace q278 := eq_true q278
            have hcz25_0 := c1_ BK274
            have hfz25_0 := blk_frozen BK274.out 0
            have p279 : 0 ≤ ((rd (rd_L1 l0 x24_2) x30_3) : Int) := od_
            have q279 : (rd (rd_L1 l0 x24_2) x30_3) < (l1_0.length : Int) := od_
            obtain ⟨ad279, e279, hx279_0⟩ := Kd.at_int HR1_0.out (rd (rd_L1 l0 x24_2) x30_3) p279 q279
            cases e279
            replace hx279_0 := bh_ HB hx279_0
            replace p279 := eq_true p279
            replace q279 := eq_true q279
            go_wp2
            go_roundg k3
            case measure => have := HJ2.out; have := HK2.out; have := HK3.out; omega
            case rel => exact ⟨(true), (((rd l1_0 (rd (rd_L1 l0 x24_2) x30_3)) == (-1))), (wrap64 (x30_3 + 1)), rs_, rs_, rs_, H', ⟨by have := HJ2.out; have := HK2.out; have := HK3.out; omega⟩, ⟨up_ BK274.out⟩, ⟨up_ HB.out⟩⟩
          ·replace H := its_ H; rcases H with ⟨c26b0, H⟩ | ⟨_, ⟨⟩⟩
           replace H := its_ H; rcases H with ⟨c27b0, H⟩ | ⟨_, ⟨⟩⟩
           replace H := itb_ H; rcases H with ⟨rfl, H⟩ | ⟨rfl, H⟩
           ·have H' := Aside0.mk H
            clear H
            have p278 : 0 ≤ (x30_3 : Int) := od_
            have q278 : x30_3 < ((rd_L1 l0 x24_2).length : Int) := od_
            obtain ⟨ad278, e278, hx278_0⟩ := Kd.at_int HR277_0.out x30_3 p278 q278
            cases e278
            replace hx278_0 := bh_ HB hx278_0
            replace p278 := eq_true p278
            replace q278 := eq_true q278
            have hcz29_0 := c1_ BK274
            have hfz29_0 := blk_frozen BK274.out 0
            have p280 : 0 ≤ ((rd (rd_L1 l0 x24_2) x30_3) : Int) := od_
            have q280 : (rd (rd_L1 l0 x24_2) x30_3) < (l1_0.length : Int) := od_
            obtain ⟨ad280, e280, hx280_0⟩ := Kd.at_int HR1_0.out (rd (rd_L1 l0 x24_2) x30_3) p280 q280
            cases e280
            replace hx280_0 := bh_ HB hx280_0
            replace p280 := eq_true p280
            replace q280 := eq_true q280
            go_wp2
            go_roundg k3
            case measure => have := HJ2.out; have := HK2.out; have := HK3.out; omega
            case rel => exact ⟨(((rd l1_0 (rd (rd_L1 l0 x24_2) x30_3)) == 1)), (true), (wrap64 (x30_3 + 1)), rs_, rs_, rs_, H', ⟨by have := HJ2.out; have := HK2.out; have := HK3.out; omega⟩, ⟨up_ BK274.out⟩, ⟨up_ HB.out⟩⟩
           ·have H' := Aside0.mk H
            clear H
            have p278 : 0 ≤ (x30_3 : Int) := od_
            have q278 : x30_3 < ((rd_L1 l0 x24_2).length : Int) := od_
            obtain ⟨ad278, e278, hx278_0⟩ := Kd.at_int HR277_0.out x30_3 p278 q278
            cases e278
            replace hx278_0 := bh_ HB hx278_0
            replace p278 := eq_true p278
            replace q278 := eq_true q278
            have hcz30_0 := c1_ BK274
            have hfz30_0 := blk_frozen BK274.out 0
            have p280 : 0 ≤ ((rd (rd_L1 l0 x24_2) x30_3) : Int) := od_
            have q280 : (rd (rd_L1 l0 x24_2) x30_3) < (l1_0.length : Int) := od_
            obtain ⟨ad280, e280, hx280_0⟩ := Kd.at_int HR1_0.out (rd (rd_L1 l0 x24_2) x30_3) p280 q280
            cases e280
            replace hx280_0 := bh_ HB hx280_0
            replace p280 := eq_true p280
            replace q280 := eq_true q280
            have p281 : 0 ≤ ((rd (rd_L1 l0 x24_2) x30_3) : Int) := od_
            have q281 : (rd (rd_L1 l0 x24_2) x30_3) < (l1_0.length : Int) := od_
            obtain ⟨ad281, e281, hx281_0⟩ := Kd.at_int HR1_0.out (rd (rd_L1 l0 x24_2) x30_3) p281 q281
            obtain rfl : ad280 = ad281 := (by injection e281)
            replace hx281_0 := bh_ HB hx281_0
            replace p281 := eq_true p281
            replace q281 := eq_true q281
            go_wp2
            go_roundg k3
            case measure => have := HJ2.out; have := HK2.out; have := HK3.out; omega
            case rel => exact ⟨(((rd l1_0 (rd (rd_L1 l0 x24_2) x30_3)) == 1)), (((rd l1_0 (rd (rd_L1 l0 x24_2) x30_3)) == (-1))), (wrap64 (x30_3 + 1)), rs_, rs_, rs_, H', ⟨by have := HJ2.out; have := HK2.out; have := HK3.out; omega⟩, ⟨up_ BK274.out⟩, ⟨up_ HB.out⟩⟩
         ·replace H := itb_ H; rcases H with ⟨rfl, H⟩ | ⟨rfl, H⟩
          ·obtain rfl := Option.some.inj H
           go_wp2
           go_ret
           exact ⟨re_, up_ HB.out⟩
          ·replace H := itb_ H; rcases H with ⟨rfl, H⟩ | ⟨rfl, H⟩
           ·obtain rfl := Option.some.inj H
            go_wp2
            go_ret
            exact ⟨re_, up_ HB.out⟩
           ·have H' := Aside0.mk H
            clear H
            go_wp2
            go_roundg k3
            case measure => have := HJ2.out; have := HK2.out; have := HK3.out; omega
            case rel => exact ⟨(wrap64 (x24_2 + 1)), rs_, H', ⟨by have := HJ2.out; have := HK2.out; have := HK3.out; omega⟩, ⟨up_ BK274.out⟩, ⟨up_ HB.out⟩⟩
      ·obtain rfl := Option.some.inj H
       go_wp2
       go_ret
       exact ⟨re_, up_ HB.out⟩

end Go.Proofs.Ytkddpilambnicaa.PFnExactHearRow
