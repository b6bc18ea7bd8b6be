/- Walks of Go functions that the law FnExactHearAll uses: written by this session's program out of the kit's printer; each shows that a call comes to the answers of the Lean function beside it. Conditions: each contract's own. -/
import Derived.Test.YtkddpilambnicaaPFnExactHearAllx0
import Derived.Test.YtkddpilambnicaaPFnExactHearAllx9
namespace Go.Proofs.Ytkddpilambnicaa.PFnExactHearAll
open Go.RowKit Go.Proofs.YtkddpilambnicaaW.PrintWords Go.Proofs.YtkddpilambnicaaW.PrintLast Go.Proofs.YtkddpilambnicaaW.PrintMore Go.Proofs.Ytkddpilambnicaa.Mac Go.Proofs.Ytkddpilambnicaa.Law
attribute [local go_sem] max2_int min2_int max_two min_two max_three min_three max_four min_four   -- for this text's walks alone
set_option linter.unusedVariables false
set_option linter.unusedSimpArgs false

/-! ### impl_IsRow: function 83 -/
def impl_IsRow.l0 : Nat → Int → List Int → Int → Int → List Int → Option (Bool)
 | 0, _, _, _, _, _ => none
 | k + 1, x1, x8, x9, x10, x313000 => if x10 < x9 then (if 0 ≤ x10 then (if x10 < (x8.length : Int) then ((impl_within.f (rd x8 x10) (-1) 1).bind fun t314 => (if t314 = true then (impl_IsRow.l0 k x1 x8 x9 (wrap64 (x10 + 1)) x313000) else (some false))) else (none)) else (none)) else ((impl_within.f x1 1 5).bind fun t315 => (if t315 = true then (some ((x313000.length : Int) == x1)) else (some false)))
def impl_IsRow.f (k : Nat) (l0_0 : List Int) (a1 : Int) : Option (Bool) := impl_IsRow.l0 k a1 l0_0 (l0_0.length : Int) 0 l0_0
set_option maxHeartbeats 8000000 in
set_option maxRecDepth 100000 in
theorem impl_IsRow.calls (k : Nat) (A0_0 : Option Addr) (c0_0 : Nat) (l0_0 : List Int) (a1 : Int) (r : Bool) (w : World) (hr0_0 : Kd.C (Kd.int .i64) w A0_0 l0_0.length l0_0) (hc0_0 : l0_0.length ≤ c0_0) (h : impl_IsRow.f k l0_0 a1 = some r) :
  Calls Try.prog 83 #[.agg #[.slice A0_0 l0_0.length c0_0], .int .i64 a1] w fun e w' => e = .returned (.bool r) ∧ Below w.heap.size w w' := by
 have hu34 := Try.underlying34
 have HR0_0 := Aside0.mk hr0_0
 have HC0_0 := Aside0.mk hc0_0
 clear hr0_0 hc0_0
 have HB := Aside0.mk (Below.refl w.heap.size w)
 have H : (impl_IsRow.l0 k a1 l0_0 (l0_0.length : Int) 0 l0_0) = some r := h
 clear h
 have H' := Aside0.mk H
 clear H
 go_enter Try.func83, Try.ntmps83
 go_wp2_with (first | ((refine gd_ 2 ?_); (try (refine gate_guard (by rfl) ?_; dsimp only)); refine bx_ 2 #[.slice A0_0 l0_0.length c0_0] 34 ?_; intro gb312 hg w3 hbox hb; have BK312 := Aside0.mk (hbox); have GW312 := gw_ HB hg; have GE312 := gw_ HB hg; replace HB := bs_ HB hb; clear hb hbox hg; have hcz4_0 := c1_ BK312; have hfz4_0 := blk_frozen BK312.out 0))
 go_loopg [10] k (fun kq v10 w' => ∃ (x10_1 : Int), v10 = .int .i64 x10_1 ∧ Aside0 (impl_IsRow.l0 kq a1 l0_0 (l0_0.length : Int) x10_1 l0_0 = some r) ∧ Aside0 (kq ≤ k) ∧ Aside0 (w'.heap[gb312]? = some (.cells #[(.slice A0_0 l0_0.length c0_0)] 34 (0, 0))) ∧ Aside0 (Below w.heap.size w w'))
 case atStart => exact ⟨(0), rs_, H', ⟨Nat.le_refl _⟩, ⟨up_ BK312.out⟩, ⟨up_ HB.out⟩⟩
 case round =>
  clear H'
  try clear p2
  try clear hcz4_0
  try clear hfz4_0
  obtain ⟨x10_1, rfl, HA, HK1, BK312, HB⟩ := hrel
  cases gk with
  | zero => exact absurd HA.out (by simp [impl_IsRow.l0])
  | succ k1 =>
   have H := HA.out
   clear HA
   simp only [impl_IsRow.l0] at H
   replace H := its_ H; rcases H with ⟨c5b0, H⟩ | ⟨c5b0, H⟩
   ·replace H := its_ H; rcases H with ⟨c6b0, H⟩ | ⟨_, ⟨⟩⟩
    replace H := its_ H; rcases H with ⟨c7b0, H⟩ | ⟨_, ⟨⟩⟩
    replace H := bnd_ H; obtain ⟨t314, A8, H⟩ := H
    replace H := itb_ H; rcases H with ⟨rfl, H⟩ | ⟨rfl, H⟩
    ·have H' := Aside0.mk H
     clear H
     have p313 : 0 ≤ (x10_1 : Int) := od_
     have q313 : x10_1 < (l0_0.length : Int) := od_
     obtain ⟨ad313, e313, hx313_0⟩ := Kd.at_int HR0_0.out x10_1 p313 q313
     cases e313
     replace hx313_0 := bh_ HB hx313_0
     replace p313 := eq_true p313
     replace q313 := eq_true q313
     go_wp2_with (first | ((refine gc_ 98 ?_); refine gq_ (some 15) Try.func98 (impl_within.calls (rd l0_0 x10_1) (-1) 1 true _ A8.out) (fun nd => ?_)))
     go_roundg k1
     case measure => have := HK1.out; omega
     case rel => exact ⟨(wrap64 (x10_1 + 1)), rs_, H', ⟨by have := HK1.out; omega⟩, ⟨up_ BK312.out⟩, ⟨up_ HB.out⟩⟩
    ·obtain rfl := Option.some.inj H
     have p313 : 0 ≤ (x10_1 : Int) := od_
     have q313 : x10_1 < (l0_0.length : Int) := od_
     obtain ⟨ad313, e313, hx313_0⟩ := Kd.at_int HR0_0.out x10_1 p313 q313
     cases e313
     replace hx313_0 := bh_ HB hx313_0
     replace p313 := eq_true p313
     replace q313 := eq_true q313
     go_wp2_with (first | ((refine gc_ 98 ?_); refine gq_ (some 15) Try.func98 (impl_within.calls (rd l0_0 x10_1) (-1) 1 false _ A8.out) (fun nd => ?_)))
     go_ret
     exact ⟨re_, up_ HB.out⟩
   ·replace H := bnd_ H; obtain ⟨t315, A10, H⟩ := H
    replace H := itb_ H; rcases H with ⟨rfl, H⟩ | ⟨rfl, H⟩
    ·obtain rfl := Option.some.inj H
     go_wp2_with (first | ((refine gc_ 98 ?_); refine gq_ (some 19) Try.func98 (impl_within.calls a1 1 5 true _ A10.out) (fun nd => ?_); have hcz12_0 := c1_ BK312; have hfz12_0 := blk_frozen BK312.out 0))
     go_ret
     exact ⟨re_, up_ HB.out⟩
    ·obtain rfl := Option.some.inj H
     go_wp2_with (first | ((refine gc_ 98 ?_); refine gq_ (some 19) Try.func98 (impl_within.calls a1 1 5 false _ A10.out) (fun nd => ?_)))
     go_ret
     exact ⟨re_, up_ HB.out⟩

/-! ### impl_isAnyRow: function 149 -/
def impl_isAnyRow.f (k : Nat) (l0_0 : List Int) : Option (Bool) := (impl_IsRow.f k l0_0 (l0_0.length : Int)).bind fun t317 => (some t317)
set_option maxHeartbeats 8000000 in
set_option maxRecDepth 100000 in
theorem impl_isAnyRow.calls (k : Nat) (A0_0 : Option Addr) (c0_0 : Nat) (l0_0 : List Int) (r : Bool) (w : World) (hr0_0 : Kd.C (Kd.int .i64) w A0_0 l0_0.length l0_0) (hc0_0 : l0_0.length ≤ c0_0) (h : impl_isAnyRow.f k l0_0 = some r) :
  Calls Try.prog 149 #[.agg #[.slice A0_0 l0_0.length c0_0]] w fun e w' => e = .returned (.bool r) ∧ Below w.heap.size w w' := by
 have hu34 := Try.underlying34
 have HR0_0 := Aside0.mk hr0_0
 have HC0_0 := Aside0.mk hc0_0
 clear hr0_0 hc0_0
 have HB := Aside0.mk (Below.refl w.heap.size w)
 have H : ((impl_IsRow.f k l0_0 (l0_0.length : Int)).bind fun t317 => (some t317)) = some r := h
 clear h
 replace H := bnd_ H; obtain ⟨t317, A2, H⟩ := H
 obtain rfl := Option.some.inj H
 go_enter Try.func149, Try.ntmps149
 go_wp2_with (first | ((refine gd_ 1 ?_); refine bx_ 1 #[.slice A0_0 l0_0.length c0_0] 34 ?_; intro gb316 hg w3 hbox hb; have BK316 := Aside0.mk (hbox); have GW316 := gw_ HB hg; have GE316 := gw_ HB hg; replace HB := bs_ HB hb; clear hb hbox hg; have hcz4_0 := c1_ BK316; have hfz4_0 := blk_frozen BK316.out 0) | ((refine gc_ 83 ?_); refine gl_ (some 7) Try.func83 (impl_IsRow.calls k _ _ l0_0 (l0_0.length : Int) t317 _ (Kd.C_below HR0_0.out (up_ HB.out)) HC0_0.out A2.out) ?_; rintro e w5 ⟨rfl, hb⟩; refine ⟨_, rfl, ?_⟩; replace BK316 := bb_ BK316 hb; replace HB := bs_ HB hb; (try clear hb); (try clear hb2); (try clear hk); (try clear hi)))
 go_ret
 exact ⟨re_, up_ HB.out⟩

/-! ### impl_StrataSatisfy: function 84 -/
mutual
def impl_StrataSatisfy.j0 : Nat → List (List Int) → Bool → List Int → Option (Bool)
 | 0, _, _, _ => none
 | k + 1, x0, x21, x319000 => if x21 = true then (some false) else (impl_StrataSatisfy.l0 k x0 (x0.length : Int) 0 x319000)
def impl_StrataSatisfy.l0 : Nat → List (List Int) → Int → Int → List Int → Option (Bool)
 | 0, _, _, _, _ => none
 | k + 1, x22, x23, x24, x319000 => if x24 < x23 then (if 0 ≤ x24 then (if x24 < (x22.length : Int) then (impl_StrataSatisfy.l1 k false false x22 x23 x24 (rd_L1 x22 x24) ((rd_L1 x22 x24).length : Int) 0 x319000) else (none)) else (none)) else (some true)
def impl_StrataSatisfy.l1 : Nat → Bool → Bool → List (List Int) → Int → Int → List Int → Int → Int → List Int → Option (Bool)
 | 0, _, _, _, _, _, _, _, _, _ => none
 | k + 1, x7, x8, x22, x23, x24, x28, x29, x30, x319000 => if x30 < x29 then (if 0 ≤ x30 then (if x30 < (x28.length : Int) then (if x7 = true then (if x8 = true then (impl_StrataSatisfy.l1 k true true x22 x23 x24 x28 x29 (wrap64 (x30 + 1)) x319000) else (if 0 ≤ (rd x28 x30) then (if (rd x28 x30) < (x319000.length : Int) then (impl_StrataSatisfy.l1 k true ((rd x319000 (rd x28 x30)) == (-1)) x22 x23 x24 x28 x29 (wrap64 (x30 + 1)) x319000) else (none)) else (none))) else (if 0 ≤ (rd x28 x30) then (if (rd x28 x30) < (x319000.length : Int) then (if x8 = true then (impl_StrataSatisfy.l1 k ((rd x319000 (rd x28 x30)) == 1) true x22 x23 x24 x28 x29 (wrap64 (x30 + 1)) x319000) else (impl_StrataSatisfy.l1 k ((rd x319000 (rd x28 x30)) == 1) ((rd x319000 (rd x28 x30)) == (-1)) x22 x23 x24 x28 x29 (wrap64 (x30 + 1)) x319000)) else (none)) else (none))) else (none)) else (none)) else (if x7 = true then (some (!x8)) else (if x8 = true then (some (!x8)) else (impl_StrataSatisfy.l0 k x22 x23 (wrap64 (x24 + 1)) x319000)))
end
def impl_StrataSatisfy.f (k : Nat) (l0 : List (List Int)) (l1_0 : List Int) : Option (Bool) := (impl_isAnyRow.f k l1_0).bind fun t319 => (if t319 = true then ((impl_AreStrata.f k l0 (l1_0.length : Int)).bind fun t320 => (impl_StrataSatisfy.j0 k l0 (!t320) l1_0)) else (impl_StrataSatisfy.j0 k l0 true l1_0))
set_option maxHeartbeats 8000000 in
set_option maxRecDepth 100000 in
theorem impl_StrataSatisfy.calls (k : Nat) (A0 : Option Addr) (c0 : Nat) (l0 : List (List Int)) (A1_0 : Option Addr) (c1_0 : Nat) (l1_0 : List Int) (r : Bool) (w : World) (hr0 : Kd.C (Kd.slice 3 (Kd.int .i64)) w A0 l0.length l0) (hc0 : l0.length ≤ c0) (hr1_0 : Kd.C (Kd.int .i64) w A1_0 l1_0.length l1_0) (hc1_0 : l1_0.length ≤ c1_0) (h : impl_StrataSatisfy.f k l0 l1_0 = some r) :
  Calls Try.prog 84 #[.slice A0 l0.length c0, .agg #[.slice A1_0 l1_0.length c1_0]] w fun e w' => e = .returned (.bool r) ∧ Below w.heap.size w w' := by
 have hu34 := Try.underlying34
 have HR0 := Aside0.mk hr0
 have HC0 := Aside0.mk hc0
 clear hr0 hc0
 have HR1_0 := Aside0.mk hr1_0
 have HC1_0 := Aside0.mk hc1_0
 clear hr1_0 hc1_0
 have HB := Aside0.mk (Below.refl w.heap.size w)
 have H : ((impl_isAnyRow.f k l1_0).bind fun t319 => (if t319 = true then ((impl_AreStrata.f k l0 (l1_0.length : Int)).bind fun t320 => (impl_StrataSatisfy.j0 k l0 (!t320) l1_0)) else (impl_StrataSatisfy.j0 k l0 true l1_0))) = some r := h
 clear h
 have HC3 := Aside0.mk H
 clear H
 go_enter Try.func84, Try.ntmps84
 go_upto_region 1 with (first | ((refine gd_ 3 ?_); (try (refine gate_guard (by rfl) ?_; dsimp only)); refine bx_ 3 #[.slice A1_0 l1_0.length c1_0] 34 ?_; intro gb318 hg w4 hbox hb; have BK318 := Aside0.mk (hbox); have GW318 := gw_ HB hg; have GE318 := gw_ HB hg; replace HB := bs_ HB hb; clear hb hbox hg))
 (try simp only [Act.put, List.setIfInBounds_toArray, List.set_cons_zero, List.set_cons_succ])
 go_cut [21] (fun v21 wc => ∃ (kq : Nat) (x21_2 : Bool), v21 = .bool x21_2 ∧ Aside0 (impl_StrataSatisfy.j0 kq l0 x21_2 l1_0 = some r) ∧ Aside0 (kq ≤ k) ∧ Aside0 (wc.heap[gb318]? = some (.cells #[(.slice A1_0 l1_0.length c1_0)] 34 (0, 0))) ∧ Aside0 (Below w.heap.size w wc))
 case first =>
  have H := HC3.out
  clear HC3
  replace H := bnd_ H; obtain ⟨t319, A5, H⟩ := H
  replace H := itb_ H; rcases H with ⟨rfl, H⟩ | ⟨rfl, H⟩
  ·replace H := bnd_ H; obtain ⟨t320, A7, H⟩ := H
   have H' := Aside0.mk H
   clear H
   have hcz8_0 := c1_ BK318
   have hfz8_0 := blk_frozen BK318.out 0
   go_wp2_with (first | ((refine gc_ 149 ?_); refine gl_ (some 12) Try.func149 (impl_isAnyRow.calls k _ _ l1_0 true _ (Kd.C_below HR1_0.out (up_ HB.out)) HC1_0.out A5.out) ?_; rintro e w9 ⟨rfl, hb⟩; refine ⟨_, rfl, ?_⟩; replace BK318 := bb_ BK318 hb; replace HB := bs_ HB hb; (try clear hb); (try clear hb2); (try clear hk); (try clear hi); have hcz10_0 := c1_ BK318; have hfz10_0 := blk_frozen BK318.out 0) | (go_at_call 148; (with_reducible refine (impl_AreStrata.calls k _ _ l0 (l1_0.length : Int) t320 _ (Kd.C_below HR0.out (up_ HB.out)) HC0.out A7.out).mono ?_); rintro e w11 ⟨rfl, hb⟩; replace BK318 := bb_ BK318 hb; replace HB := bs_ HB hb; (try clear hb); (try clear hb2); (try clear hk); (try clear hi)))
   go_meet
   case rel => exact ⟨_, (!t320), rs_, H', ⟨by first | omega | exact Nat.le_refl _⟩, ⟨up_ BK318.out⟩, ⟨up_ HB.out⟩⟩
  ·have H' := Aside0.mk H
   clear H
   have hcz12_0 := c1_ BK318
   have hfz12_0 := blk_frozen BK318.out 0
   go_wp2_with (first | ((refine gc_ 149 ?_); refine gl_ (some 12) Try.func149 (impl_isAnyRow.calls k _ _ l1_0 false _ (Kd.C_below HR1_0.out (up_ HB.out)) HC1_0.out A5.out) ?_; rintro e w13 ⟨rfl, hb⟩; refine ⟨_, rfl, ?_⟩; replace BK318 := bb_ BK318 hb; replace HB := bs_ HB hb; (try clear hb); (try clear hb2); (try clear hk); (try clear hi)))
   go_meet
   case rel => exact ⟨_, (true), rs_, H', ⟨by first | omega | exact Nat.le_refl _⟩, ⟨up_ BK318.out⟩, ⟨up_ HB.out⟩⟩
 case rest =>
  clear HC3
  try clear c1
  try clear p2
  try clear c6
  try clear c8
  try clear hcz10_0
  try clear hcz12_0
  try clear hcz8_0
  try clear hfz10_0
  try clear hfz12_0
  try clear hfz8_0
  obtain ⟨kq, x21_2, rfl, HA, HJ2, BK318, HB⟩ := hcut
  cases kq with
  | zero => exact absurd HA.out (by simp [impl_StrataSatisfy.j0])
  | succ kj2 =>
   have H := HA.out
   clear HA
   simp only [impl_StrataSatisfy.j0] at H
   replace H := itb_ H; rcases H with ⟨rfl, H⟩ | ⟨rfl, H⟩
   ·obtain rfl := Option.some.inj H
    go_wp2
    go_ret
    exact ⟨re_, up_ HB.out⟩
   ·have H' := Aside0.mk H
    clear H
    go_wp2
    go_loopg [24] kj2 (fun kq v24 w' => ∃ (x24_2 : Int), v24 = .int .i64 x24_2 ∧ Aside0 (impl_StrataSatisfy.l0 kq l0 (l0.length : Int) x24_2 l1_0 = some r) ∧ Aside0 (kq ≤ kj2) ∧ Aside0 (w'.heap[gb318]? = some (.cells #[(.slice A1_0 l1_0.length c1_0)] 34 (0, 0))) ∧ Aside0 (Below w.heap.size w w'))
    case atStart => exact ⟨(0), rs_, H', ⟨Nat.le_refl _⟩, ⟨up_ BK318.out⟩, ⟨up_ HB.out⟩⟩
    case round =>
     clear H'
     try clear c1
     try clear p2
     try clear c6
     try clear c8
     try clear c14
     try clear hcz10_0
     try clear hcz12_0
     try clear hcz8_0
     try clear hfz10_0
     try clear hfz12_0
     try clear hfz8_0
     try clear p2
     obtain ⟨x24_2, rfl, HA, HK2, BK318, HB⟩ := hrel
     cases gk with
     | zero => exact absurd HA.out (by simp [impl_StrataSatisfy.l0])
     | succ k2 =>
      have H := HA.out
      clear HA
      simp only [impl_StrataSatisfy.l0] at H
      replace H := its_ H; rcases H with ⟨c15b0, H⟩ | ⟨c15b0, H⟩
      ·replace H := its_ H; rcases H with ⟨c16b0, H⟩ | ⟨_, ⟨⟩⟩
       replace H := its_ H; rcases H with ⟨c17b0, H⟩ | ⟨_, ⟨⟩⟩
       have H' := Aside0.mk H
       clear H
       have p321 : 0 ≤ (x24_2 : Int) := od_
       have q321 : x24_2 < (l0.length : Int) := od_
       obtain ⟨ad321, A321_0, c321_0, e321, hx321_0, hl321_0, hi321_0⟩ := at_L1 HR0.out x24_2 p321 q321
       cases e321
       replace hx321_0 := bh_ HB hx321_0
       have HR321_0 := Aside0.mk hi321_0
       have HC321_0 := Aside0.mk hl321_0
       clear hi321_0 hl321_0
       replace p321 := eq_true p321
       replace q321 := eq_true q321
       go_wp2
       go_loopg [7, 8, 30] k2 (fun kq v7 v8 v30 w' => ∃ (x7_3 : Bool) (x8_3 : Bool) (x30_3 : Int), v7 = .bool x7_3 ∧ v8 = .bool x8_3 ∧ v30 = .int .i64 x30_3 ∧ Aside0 (impl_StrataSatisfy.l1 kq x7_3 x8_3 l0 (l0.length : Int) x24_2 (rd_L1 l0 x24_2) ((rd_L1 l0 x24_2).length : Int) x30_3 l1_0 = some r) ∧ Aside0 (kq ≤ k2) ∧ Aside0 (w'.heap[gb318]? = some (.cells #[(.slice A1_0 l1_0.length c1_0)] 34 (0, 0))) ∧ Aside0 (Below w.heap.size w w'))
       case atStart => exact ⟨(false), (false), (0), rs_, rs_, rs_, H', ⟨Nat.le_refl _⟩, ⟨up_ BK318.out⟩, ⟨up_ HB.out⟩⟩
       case round =>
        clear H'
        try clear c1
        try clear p2
        try clear c3
        try clear p3
        try clear q3
        try clear hx3
        try clear c6
        try clear c8
        try clear c14
        try clear c15
        try clear c15b0
        try clear c16
        try clear c16b0
        try clear c17
        try clear c17b0
        try clear hcz10_0
        try clear hcz12_0
        try clear hcz8_0
        try clear hfz10_0
        try clear hfz12_0
        try clear hfz8_0
        try clear hx321_0
        try clear p2
        try clear p321
        try clear q321
        obtain ⟨x7_3, x8_3, x30_3, rfl, rfl, rfl, HA, HK3, BK318, HB⟩ := hrel
        cases gk with
        | zero => exact absurd HA.out (by simp [impl_StrataSatisfy.l1])
        | succ k3 =>
         have H := HA.out
         clear HA
         simp only [impl_StrataSatisfy.l1] at H
         replace H := its_ H; rcases H with ⟨c18b0, H⟩ | ⟨c18b0, H⟩
         ·replace H := its_ H; rcases H with ⟨c19b0, H⟩ | ⟨_, ⟨⟩⟩
          replace H := its_ H; rcases H with ⟨c20b0, H⟩ | ⟨_, ⟨⟩⟩
          replace H := itb_ H; rcases H with ⟨rfl, H⟩ | ⟨rfl, H⟩
          ·replace H := itb_ H; rcases H with ⟨rfl, H⟩ | ⟨rfl, H⟩
           ·have H' := Aside0.mk H
            clear H
            have p322 : 0 ≤ (x30_3 : Int) := od_
            have q322 : x30_3 < ((rd_L1 l0 x24_2).length : Int) := od_
            obtain ⟨ad322, e322, hx322_0⟩ := Kd.at_int HR321_0.out x30_3 p322 q322
            cases e322
            replace hx322_0 := bh_ HB hx322_0
            replace p322 := eq_true p322
            replace q322 := eq_true q322
            go_wp2
            go_roundg k3
            case measure => have := HJ2.out; have := HK2.out; have := HK3.out; omega
            case rel => exact ⟨(true), (true), (wrap64 (x30_3 + 1)), rs_, rs_, rs_, H', ⟨by have := HJ2.out; have := HK2.out; have := HK3.out; omega⟩, ⟨up_ BK318.out⟩, ⟨up_ HB.out⟩⟩
           ·replace H := its_ H; rcases H with ⟨c23b0, H⟩ | ⟨_, ⟨⟩⟩
            replace H := its_ H; rcases H with ⟨c24b0, H⟩ | ⟨_, ⟨⟩⟩
            have H' := Aside0.mk H
            clear H
            have p322 : 0 ≤ (x30_3 : Int) := od_
            have q322 : x30_3 < ((rd_L1 l0 x24_2).length : Int) := od_
            obtain ⟨ad322, e322, hx322_0⟩ := Kd.at_int HR321_0.out x30_3 p322 q322
            cases e322
            replace hx322_0 := bh_ HB hx322_0
            replace p322 := eq_true p322
            replace q322 := eq_true q322
            have hcz25_0 := c1_ BK318
            have hfz25_0 := blk_frozen BK318.out 0
            have p323 : 0 ≤ ((rd (rd_L1 l0 x24_2) x30_3) : Int) := od_
            have q323 : (rd (rd_L1 l0 x24_2) x30_3) < (l1_0.length : Int) := od_
            obtain ⟨ad323, e323, hx323_0⟩ := Kd.at_int HR1_0.out (rd (rd_L1 l0 x24_2) x30_3) p323 q323
            cases e323
            replace hx323_0 := bh_ HB hx323_0
            replace p323 := eq_true p323
            replace q323 := eq_true q323
            go_wp2
            go_roundg k3
            case measure => have := HJ2.out; have := HK2.out; have := HK3.out; omega
            case rel => exact ⟨(true), (((rd l1_0 (rd (rd_L1 l0 x24_2) x30_3)) == (-1))), (wrap64 (x30_3 + 1)), rs_, rs_, rs_, H', ⟨by have := HJ2.out; have := HK2.out; have := HK3.out; omega⟩, ⟨up_ BK318.out⟩, ⟨up_ HB.out⟩⟩
          ·replace H := its_ H; rcases H with ⟨c26b0, H⟩ | ⟨_, ⟨⟩⟩
           replace H := its_ H; rcases H with ⟨c27b0, H⟩ | ⟨_, ⟨⟩⟩
           replace H := itb_ H; rcases H with ⟨rfl, H⟩ | ⟨rfl, H⟩
           ·have H' := Aside0.mk H
            clear H
            have p322 : 0 ≤ (x30_3 : Int) := od_
            have q322 : x30_3 < ((rd_L1 l0 x24_2).length : Int) := od_
            obtain ⟨ad322, e322, hx322_0⟩ := Kd.at_int HR321_0.out x30_3 p322 q322
            cases e322
            replace hx322_0 := bh_ HB hx322_0
            replace p322 := eq_true p322
            replace q322 := eq_true q322
            have hcz29_0 := c1_ BK318
            have hfz29_0 := blk_frozen BK318.out 0
            have p324 : 0 ≤ ((rd (rd_L1 l0 x24_2) x30_3) : Int) := od_
            have q324 : (rd (rd_L1 l0 x24_2) x30_3) < (l1_0.length : Int) := od_
            obtain ⟨ad324, e324, hx324_0⟩ := Kd.at_int HR1_0.out (rd (rd_L1 l0 x24_2) x30_3) p324 q324
            cases e324
            replace hx324_0 := bh_ HB hx324_0
            replace p324 := eq_true p324
            replace q324 := eq_true q324
            go_wp2
            go_roundg k3
            case measure => have := HJ2.out; have := HK2.out; have := HK3.out; omega
            case rel => exact ⟨(((rd l1_0 (rd (rd_L1 l0 x24_2) x30_3)) == 1)), (true), (wrap64 (x30_3 + 1)), rs_, rs_, rs_, H', ⟨by have := HJ2.out; have := HK2.out; have := HK3.out; omega⟩, ⟨up_ BK318.out⟩, ⟨up_ HB.out⟩⟩
           ·have H' := Aside0.mk H
            clear H
            have p322 : 0 ≤ (x30_3 : Int) := od_
            have q322 : x30_3 < ((rd_L1 l0 x24_2).length : Int) := od_
            obtain ⟨ad322, e322, hx322_0⟩ := Kd.at_int HR321_0.out x30_3 p322 q322
            cases e322
            replace hx322_0 := bh_ HB hx322_0
            replace p322 := eq_true p322
            replace q322 := eq_true q322
            have hcz30_0 := c1_ BK318
            have hfz30_0 := blk_frozen BK318.out 0
            have p324 : 0 ≤ ((rd (rd_L1 l0 x24_2) x30_3) : Int) := od_
            have q324 : (rd (rd_L1 l0 x24_2) x30_3) < (l1_0.length : Int) := od_
            obtain ⟨ad324, e324, hx324_0⟩ := Kd.at_int HR1_0.out (rd (rd_L1 l0 x24_2) x30_3) p324 q324
            cases e324
            replace hx324_0 := bh_ HB hx324_0
            replace p324 := eq_true p324
            replace q324 := eq_true q324
            have p325 : 0 ≤ ((rd (rd_L1 l0 x24_2) x30_3) : Int) := od_
            have q325 : (rd (rd_L1 l0 x24_2) x30_3) < (l1_0.length : Int) := od_
            obtain ⟨ad325, e325, hx325_0⟩ := Kd.at_int HR1_0.out (rd (rd_L1 l0 x24_2) x30_3) p325 q325
            obtain rfl : ad324 = ad325 := (by injection e325)
            replace hx325_0 := bh_ HB hx325_0
            replace p325 := eq_true p325
            replace q325 := eq_true q325
            go_wp2
            go_roundg k3
            case measure => have := HJ2.out; have := HK2.out; have := HK3.out; omega
            case rel => exact ⟨(((rd l1_0 (rd (rd_L1 l0 x24_2) x30_3)) == 1)), (((rd l1_0 (rd (rd_L1 l0 x24_2) x30_3)) == (-1))), (wrap64 (x30_3 + 1)), rs_, rs_, rs_, H', ⟨by have := HJ2.out; have := HK2.out; have := HK3.out; omega⟩, ⟨up_ BK318.out⟩, ⟨up_ HB.out⟩⟩
         ·replace H := itb_ H; rcases H with ⟨rfl, H⟩ | ⟨rfl, H⟩
          ·obtain rfl := Option.some.inj H
           go_wp2
           go_ret
           exact ⟨re_, up_ HB.out⟩
          ·replace H := itb_ H; rcases H with ⟨rfl, H⟩ | ⟨rfl, H⟩
           ·obtain rfl := Option.some.inj H
            go_wp2
            go_ret
            exact ⟨re_, up_ HB.out⟩
           ·have H' := Aside0.mk H
            clear H
            go_wp2
            go_roundg k3
            case measure => have := HJ2.out; have := HK2.out; have := HK3.out; omega
            case rel => exact ⟨(wrap64 (x24_2 + 1)), rs_, H', ⟨by have := HJ2.out; have := HK2.out; have := HK3.out; omega⟩, ⟨up_ BK318.out⟩, ⟨up_ HB.out⟩⟩
      ·obtain rfl := Option.some.inj H
       go_wp2
       go_ret
       exact ⟨re_, up_ HB.out⟩

/-! ### slices_Index_int_int: function 150 -/
def slices_Index_int_int.l0 : Nat → List Int → Int → Int → Int → Option (Int)
 | 0, _, _, _, _ => none
 | k + 1, x0, x1, x7, x8 => if x8 < x7 then (if 0 ≤ x8 then (if x8 < (x0.length : Int) then (if x1 = (rd x0 x8) then (some x8) else (slices_Index_int_int.l0 k x0 x1 x7 (wrap64 (x8 + 1)))) else (none)) else (none)) else (some (-1))
def slices_Index_int_int.f (k : Nat) (l0 : List Int) (a1 : Int) : Option (Int) := slices_Index_int_int.l0 k l0 a1 (l0.length : Int) 0
set_option maxHeartbeats 8000000 in
set_option maxRecDepth 100000 in
theorem slices_Index_int_int.calls (k : Nat) (A0 : Option Addr) (c0 : Nat) (l0 : List Int) (a1 : Int) (r : Int) (w : World) (hr0 : Kd.C (Kd.int .i64) w A0 l0.length l0) (hc0 : l0.length ≤ c0) (h : slices_Index_int_int.f k l0 a1 = some r) :
  Calls Try.prog 150 #[.slice A0 l0.length c0, .int .i64 a1] w fun e w' => e = .returned (.int .i64 r) ∧ Drawn0 w w' := by
 have HR0 := Aside0.mk hr0
 have HC0 := Aside0.mk hc0
 clear hr0 hc0
 have H : (slices_Index_int_int.l0 k l0 a1 (l0.length : Int) 0) = some r := h
 clear h
 have H' := Aside0.mk H
 clear H
 go_enter Try.func150, Try.ntmps150
 go_wp2
 go_loopg [8] k (fun kq v8 w' => ∃ (x8_1 : Int), v8 = .int .i64 x8_1 ∧ Aside0 (slices_Index_int_int.l0 kq l0 a1 (l0.length : Int) x8_1 = some r) ∧ Aside0 (kq ≤ k) ∧ Drawn0 w w')
 case atStart => exact ⟨(0), rs_, H', ⟨Nat.le_refl _⟩, dn_⟩
 case round =>
  clear H'
  try clear c1
  try clear p2
  obtain ⟨x8_1, rfl, HA, HK1, ⟨m1, rfl⟩⟩ := hrel
  cases gk with
  | zero => exact absurd HA.out (by simp [slices_Index_int_int.l0])
  | succ k1 =>
   have H := HA.out
   clear HA
   simp only [slices_Index_int_int.l0] at H
   replace H := its_ H; rcases H with ⟨c3b0, H⟩ | ⟨c3b0, H⟩
   ·replace H := its_ H; rcases H with ⟨c4b0, H⟩ | ⟨_, ⟨⟩⟩
    replace H := its_ H; rcases H with ⟨c5b0, H⟩ | ⟨_, ⟨⟩⟩
    replace H := ieq_ H; rcases H with ⟨-, c6b0, c6b1, H⟩ | ⟨c6, c6b0, c6b1, H⟩
    ·obtain rfl := Option.some.inj H
     have p326 : 0 ≤ (x8_1 : Int) := od_
     have q326 : x8_1 < (l0.length : Int) := od_
     obtain ⟨ad326, e326, hx326_0⟩ := Kd.at_int HR0.out x8_1 p326 q326
     cases e326
     replace p326 := eq_true p326
     replace q326 := eq_true q326
     go_wp2
     go_ret
     exact ⟨rs_, dn_⟩
    ·have H' := Aside0.mk H
     clear H
     have p326 : 0 ≤ (x8_1 : Int) := od_
     have q326 : x8_1 < (l0.length : Int) := od_
     obtain ⟨ad326, e326, hx326_0⟩ := Kd.at_int HR0.out x8_1 p326 q326
     cases e326
     replace p326 := eq_true p326
     replace q326 := eq_true q326
     go_wp2
     go_roundg k1
     case measure => have := HK1.out; omega
     case rel => exact ⟨(wrap64 (x8_1 + 1)), rs_, H', ⟨by have := HK1.out; omega⟩, dn_⟩
   ·obtain rfl := Option.some.inj H
    go_wp2
    go_ret
    exact ⟨rs_, dn_⟩

/-! ### slices_Contains_int_int: function 85 -/
def slices_Contains_int_int.f (k : Nat) (l0 : List Int) (a1 : Int) : Option (Bool) := (slices_Index_int_int.f k l0 a1).bind fun t327 => (some (decide (t327 ≥ 0)))
set_option maxHeartbeats 8000000 in
set_option maxRecDepth 100000 in
theorem slices_Contains_int_int.calls (k : Nat) (A0 : Option Addr) (c0 : Nat) (l0 : List Int) (a1 : Int) (r : Bool) (w : World) (hr0 : Kd.C (Kd.int .i64) w A0 l0.length l0) (hc0 : l0.length ≤ c0) (h : slices_Contains_int_int.f k l0 a1 = some r) :
  Calls Try.prog 85 #[.slice A0 l0.length c0, .int .i64 a1] w fun e w' => e = .returned (.bool r) ∧ Drawn0 w w' := by
 have HR0 := Aside0.mk hr0
 have HC0 := Aside0.mk hc0
 clear hr0 hc0
 have H : ((slices_Index_int_int.f k l0 a1).bind fun t327 => (some (decide (t327 ≥ 0)))) = some r := h
 clear h
 replace H := bnd_ H; obtain ⟨t327, A3, H⟩ := H
 obtain rfl := Option.some.inj H
 go_enter Try.func85, Try.ntmps85
 go_wp2_with (first | ((refine gc_ 150 ?_); refine goesL_ (some 7) rfl rfl Try.func150 (by kernel_rfl) rfl #[.slice A0 l0.length c0, .int .i64 a1] rfl am_ ?_; (with_reducible refine (slices_Index_int_int.calls k _ _ l0 a1 t327 _ ?side1 ?side2 A3.out).mono ?_); (case side1 => repeat (first | exact HR0.out | (with_reducible refine Kd.C_alloc ?_ _) | (with_reducible refine Kd.C_drewN ?_ _) | (with_reducible refine Kd.C_drew ?_))); (case side2 => exact HC0.out); rintro e w' ⟨rfl, ⟨nd, rfl⟩⟩; refine ⟨_, rfl, ?_⟩))
 go_ret
 exact ⟨rs_, dn_⟩

/-! ### slices_Clone_int_int: function 110 -/
def slices_Clone_int_int.f (l0 : List Int) : Option (List Int) := (some (([] : List Int) : List Int)).bind fun y328 => (if y328.length + l0.length < 17592186044416 then (some (y328 ++ l0)) else (none))
set_option maxHeartbeats 8000000 in
set_option maxRecDepth 100000 in
theorem slices_Clone_int_int.calls (A0 : Option Addr) (c0 : Nat) (l0 : List Int) (r : List Int) (w : World) (hr0 : Kd.C (Kd.int .i64) w A0 l0.length l0) (hc0 : l0.length ≤ c0) (h : slices_Clone_int_int.f l0 = some r) :
  Calls Try.prog 110 #[.slice A0 l0.length c0] w fun e w' => ∃ v0_ : Value, e = .returned (v0_) ∧ Kd.R (Kd.int .i64) 3 w' w.heap.size (fun _ => True) v0_ r ∧ Below w.heap.size w w' := by
 cases A0 with
 | none =>
  have hl0 : l0 = [] := by
   have hl1 : ¬ 0 < l0.length := fun hp => by obtain ⟨ad_, ha_, _⟩ := hr0.2.2 hp; cases ha_
   exact List.eq_nil_of_length_eq_zero (by omega)
  subst hl0
  have hr_ : r = [] := by
   unfold slices_Clone_int_int.f at h
   simp at h
   first | exact h | exact h.symm
  subst hr_
  have qN_ : ∀ (w : World) (a : Option Addr) (n c n' c' : Nat), (binOp .eql 25 (.slice a n c) (.slice none n' c')).run Try.prog w = .ok (.bool a.isNone) w := fun w a n c n' c' => Lib.run_eql_slice_nil w _ _ a n c n' c' Try.underlying25
  go_enter Try.func110, Try.ntmps110
  go_wp2
  go_ret
  exact ⟨_, rfl, Kd.R_nil _ _ _ _ _, Below.refl _ _⟩
 | some ad0_ =>
  have HR0 := Aside0.mk hr0
  have HC0 := Aside0.mk hc0
  clear hr0 hc0
  have HB := Aside0.mk (Below.refl w.heap.size w)
  have H : ((some (([] : List Int) : List Int)).bind fun y328 => (if y328.length + l0.length < 17592186044416 then (some (y328 ++ l0)) else (none))) = some r := h
  clear h
  obtain ⟨y328, hy328⟩ : ∃ y_ : List Int, y_ = (([] : List Int)) := ⟨_, rfl⟩
  replace H : (if y328.length + l0.length < 17592186044416 then (some (y328 ++ l0)) else (none)) = some r := rh_ hy328 H
  have Ny328 := Aside0.mk hy328
  clear hy328
  by_cases c2 : y328.length + l0.length < 17592186044416
  ·rw [if_pos c2] at H
   have LMc2 := Aside0.mk c2
   clear c2
   obtain ⟨y331, hy331⟩ : ∃ y_ : List Int, y_ = (y328 ++ l0) := ⟨_, rfl⟩
   replace H : (some y331) = some r := rh_ hy331 H
   have Ny331 := Aside0.mk hy331
   clear hy331
   obtain rfl := Option.some.inj H
   have qN_ : ∀ (w : World) (a : Option Addr) (n c n' c' : Nat), (binOp .eql 25 (.slice a n c) (.slice none n' c')).run Try.prog w = .ok (.bool a.isNone) w := fun w a n c n' c' => Lib.run_eql_slice_nil w _ _ a n c n' c' Try.underlying25
   go_enter Try.func110, Try.ntmps110
   go_wp2_with (first | ((refine gd_ 5 ?_); refine Kd.R_lit (Kd.int .i64) _ 3 ?hg (N := 5) ?hd (xs := ([] : List Int)) (inner := []) (ok := fun _ => True) (okp := fun _ => True) ?hr ?hp (fun _ hk => hk) trivial (Below.refl _ _) (Nat.le_refl _) (by simp) ?_; (case hd => rfl); (case hg => rfl); (case hr => first | (go_simp; done) | (go_simp; rfl)); (case hp => exact (Reps.none _ _)); intro v329 w3 ho4 hb hg_ hnew_; clear hg_ hnew_; (first | rw [← Ny328.out] at ho4 | (simp only [Int.reduceToNat] at ho4; rw [← Ny328.out] at ho4)); have HO330 := Aside0.mk (Kd.R_lower ho4 (below_size (up_ HB.out))); replace HB := bs_ HB hb; clear hb ho4) | ((with_reducible refine gate_builtin (b := .append) (xs := #[.tmp 5, .tmp 6]) rfl ?_); at_builtin; refine Kd.R_append_rows (Kd.int .i64) (w0 := w) w.heap.size rfl (.tmp 5) (.tmp 6) 25 3 (.int .i64 0) 8 rfl Try.underlying25 info3 rfl (by decide) (by omega) v329 y328 l0 _ _ _ (fun _ => True) (fun _ => False) rfl rfl ?aO ?aR (fun _ _ h => h) (fun _ h => h.elim) ?aF ?aB ?aS ?aL ?_; (case aR => exact Kd.C_below HR0.out (up_ HB.out)); (case aB => exact (up_ HB.out)); (case aF => exact (fun _ _ => trivial)); (case aO => exact (up_ HO330.out)); (case aS => exact (below_size (up_ HB.out))); (case aL => have := LMc2.out; omega); intro v332 w5 ho hb hg hat; rw [← Ny331.out] at ho; have n0_ := Aside0.mk (hb); have n1_ := Aside0.mk (ho); clear HB; clear HO330; have HB := n0_; have HO333 := n1_; clear n0_ n1_; clear ho hb hg hat))
   go_ret
   exact ⟨_, re_, by (with_reducible repeat (first | apply Kd.R_alloc | apply Kd.R_drewN | apply Kd.R_drew)); exact HO333.out, up_ HB.out⟩
  ·rw [if_neg c2] at H
   exact absurd H (by simp)

 end Go.Proofs.Ytkddpilambnicaa.PFnExactHearAll

