/- Walks of Go functions that the law FnExactDifferencesFor uses: written by this session's program out of the kit's printer; each shows that a call comes to the answers of the Lean function beside it. Conditions: each contract's own. -/
import Derived.Test.YtkddpilambnicaaGreatPFnExactDifferencesForx0
import Derived.Test.YtkddpilambnicaaGreatPFnExactDifferencesForx4
namespace Go.Proofs.YtkddpilambnicaaGreat.PFnExactDifferencesFor
open Go.RowKit Go.Proofs.YtkddpilambnicaaGreatW.PrintWords Go.Proofs.YtkddpilambnicaaGreatW.PrintLast Go.Proofs.YtkddpilambnicaaGreatW.PrintMore Go.Proofs.YtkddpilambnicaaGreat.Mac Go.Proofs.YtkddpilambnicaaGreat.Law
attribute [local go_sem] max2_int min2_int max_two min_two max_three min_three max_four min_four   -- for this text's walks alone
set_option linter.unusedVariables false
set_option linter.unusedSimpArgs false

/-! ### spec_CountVoiceChanged: function 106 -/
mutual
def spec_CountVoiceChanged.l0 : Nat → Int → Int → List (S70) → Option (Int)
 | 0, _, _, _ => none
 | k + 1, x3, x4, x187000 => if x4 < (x187000.length : Int) then ((spec_IsCandidate.f k x187000).bind fun t187 => (spec_CountVoiceChanged.j1 k x3 x4 t187 x187000)) else (spec_CountVoiceChanged.j1 k x3 x4 false x187000)
def spec_CountVoiceChanged.j1 : Nat → Int → Int → Bool → List (S70) → Option (Int)
 | 0, _, _, _, _ => none
 | k + 1, x3, x4, x14, x187000 => if x14 = true then (if 0 ≤ x4 then (if x4 < (x187000.length : Int) then (if ((rd_T70 x187000 x4).f0) = 0 then (spec_CountVoiceChanged.l0 k x3 (wrap64 (x4 + 1)) x187000) else (if ((rd_T70 x187000 x4).f1) = 0 then (spec_CountVoiceChanged.l0 k x3 (wrap64 (x4 + 1)) x187000) else (if ((rd_T70 x187000 x4).f0) = ((rd_T70 x187000 x4).f1) then (spec_CountVoiceChanged.l0 k x3 (wrap64 (x4 + 1)) x187000) else (spec_CountVoiceChanged.l0 k (wrap64 (x3 + 1)) (wrap64 (x4 + 1)) x187000)))) else (none)) else (none)) else (some x3)
end
def spec_CountVoiceChanged.f (k : Nat) (l0_0 : List (S70)) : Option (Int) := spec_CountVoiceChanged.l0 k 0 0 l0_0
set_option maxHeartbeats 8000000 in
set_option maxRecDepth 100000 in
theorem spec_CountVoiceChanged.calls (k : Nat) (A0_0 : Option Addr) (c0_0 : Nat) (l0_0 : List (S70)) (r : Int) (w : World) (hr0_0 : Kd.C k70 w A0_0 l0_0.length l0_0) (hc0_0 : l0_0.length ≤ c0_0) (h : spec_CountVoiceChanged.f k l0_0 = some r) :
  Calls Tryz.prog 106 #[.agg #[.slice A0_0 l0_0.length c0_0]] w fun e w' => e = .returned (.int .i64 r) ∧ Below w.heap.size w w' := by
 have hu50 := Tryz.underlying50
 have hu70 := Tryz.underlying70
 have HR0_0 := Aside0.mk hr0_0
 have HC0_0 := Aside0.mk hc0_0
 clear hr0_0 hc0_0
 have HB := Aside0.mk (Below.refl w.heap.size w)
 have H : (spec_CountVoiceChanged.l0 k 0 0 l0_0) = some r := h
 clear h
 have H' := Aside0.mk H
 clear H
 go_enter Tryz.func106, Tryz.ntmps106
 go_wp2_with (first | ((refine gd_ 1 ?_); refine bx_ 1 #[.slice A0_0 l0_0.length c0_0] 50 ?_; intro gb186 hg w2 hbox hb; have BK186 := Aside0.mk (hbox); have GW186 := gw_ HB hg; have GE186 := gw_ HB hg; replace HB := bs_ HB hb; clear hb hbox hg))
 go_loopg [3, 4] k (fun kq v3 v4 w' => ∃ (x3_1 : Int) (x4_1 : Int), v3 = .int .i64 x3_1 ∧ v4 = .int .i64 x4_1 ∧ Aside0 (spec_CountVoiceChanged.l0 kq x3_1 x4_1 l0_0 = some r) ∧ Aside0 (kq ≤ k) ∧ Aside0 (w'.heap[gb186]? = some (.cells #[(.slice A0_0 l0_0.length c0_0)] 50 (0, 0))) ∧ Aside0 (Below w.heap.size w w'))
 case atStart => exact ⟨(0), (0), rs_, rs_, H', ⟨Nat.le_refl _⟩, ⟨up_ BK186.out⟩, ⟨up_ HB.out⟩⟩
 case round =>
  clear H'
  try clear c1
  try clear p2
  obtain ⟨x3_1, x4_1, rfl, rfl, HA, HK1, BK186, HB⟩ := hrel
  cases gk with
  | zero => exact absurd HA.out (by simp [spec_CountVoiceChanged.l0])
  | succ k1 =>
   have H := HA.out
   clear HA
   simp only [spec_CountVoiceChanged.l0] at H
   have HC3 := Aside0.mk H
   clear H
   go_upto_region 3 with (fail)
   go_cut [14] (fun v14 wc => ∃ (kq : Nat) (x14_2 : Bool), v14 = .bool x14_2 ∧ Aside0 (spec_CountVoiceChanged.j1 kq x3_1 x4_1 x14_2 l0_0 = some r) ∧ Aside0 (kq ≤ k1) ∧ Aside0 (wc.heap[gb186]? = some (.cells #[(.slice A0_0 l0_0.length c0_0)] 50 (0, 0))) ∧ Aside0 (Below w.heap.size w wc))
   case first =>
    have H := HC3.out
    clear HC3
    replace H := its_ H; rcases H with ⟨c4b0, H⟩ | ⟨c4b0, H⟩
    ·(first | rw [c4b0] | (simp only [i64_w, i32_w]; rw [c4b0]) | skip)
     replace H := bnd_ H; obtain ⟨t187, A5, H⟩ := H
     have H' := Aside0.mk H
     clear H
     have hcz6_0 := c1_ BK186
     have hfz6_0 := blk_frozen BK186.out 0
     go_wp2_with (first | (go_at_call 60; (with_reducible refine (spec_IsCandidate.calls k1 _ _ l0_0 t187 _ (Kd.C_below HR0_0.out (up_ HB.out)) HC0_0.out A5.out).mono ?_); rintro e w7 ⟨rfl, hb⟩; replace BK186 := bb_ BK186 hb; replace HB := bs_ HB hb; (try clear hb); (try clear hb2); (try clear hk); (try clear hi)))
     go_meet
     case rel => exact ⟨_, (t187), rs_, H', ⟨by have := HK1.out; first | omega | exact Nat.le_refl _⟩, ⟨up_ BK186.out⟩, ⟨up_ HB.out⟩⟩
    ·(first | rw [c4b0] | (simp only [i64_w, i32_w]; rw [c4b0]) | skip)
     have H' := Aside0.mk H
     clear H
     have hcz8_0 := c1_ BK186
     have hfz8_0 := blk_frozen BK186.out 0
     go_wp2
     go_meet
     case rel => exact ⟨_, (false), rs_, H', ⟨by have := HK1.out; first | omega | exact Nat.le_refl _⟩, ⟨up_ BK186.out⟩, ⟨up_ HB.out⟩⟩
   case rest =>
    clear HC3
    try clear c1
    try clear p2
    try clear c4
    try clear c4b0
    try clear hcz6_0
    try clear hcz8_0
    try clear hfz6_0
    try clear hfz8_0
    try clear p2
    obtain ⟨kq, x14_2, rfl, HA, HJ2, BK186, HB⟩ := hcut
    cases kq with
    | zero => exact absurd HA.out (by simp [spec_CountVoiceChanged.j1])
    | succ kj2 =>
     have H := HA.out
     clear HA
     simp only [spec_CountVoiceChanged.j1] at H
     replace H := itb_ H; rcases H with ⟨rfl, H⟩ | ⟨rfl, H⟩
     ·replace H := its_ H; rcases H with ⟨c10b0, H⟩ | ⟨_, ⟨⟩⟩
      replace H := its_ H; rcases H with ⟨c11b0, H⟩ | ⟨_, ⟨⟩⟩
      replace H := ieq_ H; rcases H with ⟨-, c12b0, c12b1, H⟩ | ⟨c12, c12b0, c12b1, H⟩
      ·have H' := Aside0.mk H
       clear H
       have hcz13_0 := c1_ BK186
       have hfz13_0 := blk_frozen BK186.out 0
       have p188 : 0 ≤ (x4_1 : Int) := od_
       have q188 : x4_1 < (l0_0.length : Int) := od_
       obtain ⟨ad188, e188, hx188_0, hx188_1⟩ := at_T70 HR0_0.out x4_1 p188 q188
       cases e188
       replace hx188_0 := bh_ HB hx188_0
       replace hx188_1 := bh_ HB hx188_1
       replace p188 := eq_true p188
       replace q188 := eq_true q188
       go_wp2_with (first | ((refine gd_ 5 ?_); refine bx_ 5 #[.int .u8 0, .int .u8 0] 70 ?_; intro gb189 hg w14 hbox hb; have BK189 := Aside0.mk (hbox); have GW189 := gw_ HB hg; have GE189 := gw_ HB hg; replace HB := bs_ HB hb; have NB186_189 := Aside0.mk ((by rw [hg]; exact Nat.ne_of_lt (blk_lt (g := gb186) (o := .cells #[.slice (some ad188) l0_0.length c0_0] 50 (0, 0)) (up_ BK186.out)) : gb186 ≠ gb189)); have NB189_186 := Aside0.mk ((by rw [hg]; exact Nat.ne_of_gt (blk_lt (g := gb186) (o := .cells #[.slice (some ad188) l0_0.length c0_0] 50 (0, 0)) (up_ BK186.out)) : gb189 ≠ gb186)); replace BK186 := bb_ BK186 hb; clear hb hbox hg; have hnb15 := NB189_186.out; have hnc15 := NB186_189.out; obtain ⟨hcz16_0, hcz16_1⟩ := c2_ BK189; have hfz16_0 := blk_frozen BK189.out 0; have hfz16_1 := blk_frozen BK189.out 1))
       go_roundg kj2
       case measure => have := HK1.out; have := HJ2.out; omega
       case rel => exact ⟨(x3_1), (wrap64 (x4_1 + 1)), rs_, rs_, H', ⟨by have := HK1.out; have := HJ2.out; omega⟩, ⟨by (with_reducible repeat (first | refine blk_drewN ?_ _ | refine blk_drew ?_ | refine blk_alloc ?_ _)); refine blk_far ?_ NB186_189.out _; (with_reducible repeat (first | refine blk_drewN ?_ _ | refine blk_drew ?_ | refine blk_alloc ?_ _)); refine blk_far ?_ NB186_189.out _; (with_reducible repeat (first | refine blk_drewN ?_ _ | refine blk_drew ?_ | refine blk_alloc ?_ _)); exact BK186.out⟩, ⟨up_ HB.out⟩⟩
      ·replace H := ieq_ H; rcases H with ⟨-, c17b0, c17b1, H⟩ | ⟨c17, c17b0, c17b1, H⟩
       ·have H' := Aside0.mk H
        clear H
        have hcz18_0 := c1_ BK186
        have hfz18_0 := blk_frozen BK186.out 0
        have p188 : 0 ≤ (x4_1 : Int) := od_
        have q188 : x4_1 < (l0_0.length : Int) := od_
        obtain ⟨ad188, e188, hx188_0, hx188_1⟩ := at_T70 HR0_0.out x4_1 p188 q188
        cases e188
        replace hx188_0 := bh_ HB hx188_0
        replace hx188_1 := bh_ HB hx188_1
        replace p188 := eq_true p188
        replace q188 := eq_true q188
        go_wp2_with (first | ((refine gd_ 5 ?_); refine bx_ 5 #[.int .u8 0, .int .u8 0] 70 ?_; intro gb189 hg w19 hbox hb; have BK189 := Aside0.mk (hbox); have GW189 := gw_ HB hg; have GE189 := gw_ HB hg; replace HB := bs_ HB hb; have NB186_189 := Aside0.mk ((by rw [hg]; exact Nat.ne_of_lt (blk_lt (g := gb186) (o := .cells #[.slice (some ad188) l0_0.length c0_0] 50 (0, 0)) (up_ BK186.out)) : gb186 ≠ gb189)); have NB189_186 := Aside0.mk ((by rw [hg]; exact Nat.ne_of_gt (blk_lt (g := gb186) (o := .cells #[.slice (some ad188) l0_0.length c0_0] 50 (0, 0)) (up_ BK186.out)) : gb189 ≠ gb186)); replace BK186 := bb_ BK186 hb; clear hb hbox hg; have hnb20 := NB189_186.out; have hnc20 := NB186_189.out; obtain ⟨hcz21_0, hcz21_1⟩ := c2_ BK189; have hfz21_0 := blk_frozen BK189.out 0; have hfz21_1 := blk_frozen BK189.out 1))
        go_roundg kj2
        case measure => have := HK1.out; have := HJ2.out; omega
        case rel => exact ⟨(x3_1), (wrap64 (x4_1 + 1)), rs_, rs_, H', ⟨by have := HK1.out; have := HJ2.out; omega⟩, ⟨by (with_reducible repeat (first | refine blk_drewN ?_ _ | refine blk_drew ?_ | refine blk_alloc ?_ _)); refine blk_far ?_ NB186_189.out _; (with_reducible repeat (first | refine blk_drewN ?_ _ | refine blk_drew ?_ | refine blk_alloc ?_ _)); refine blk_far ?_ NB186_189.out _; (with_reducible repeat (first | refine blk_drewN ?_ _ | refine blk_drew ?_ | refine blk_alloc ?_ _)); exact BK186.out⟩, ⟨up_ HB.out⟩⟩
       ·replace H := ieq_ H; rcases H with ⟨-, c22b0, c22b1, H⟩ | ⟨c22, c22b0, c22b1, H⟩
        ·have H' := Aside0.mk H
         clear H
         have hcz23_0 := c1_ BK186
         have hfz23_0 := blk_frozen BK186.out 0
         have p188 : 0 ≤ (x4_1 : Int) := od_
         have q188 : x4_1 < (l0_0.length : Int) := od_
         obtain ⟨ad188, e188, hx188_0, hx188_1⟩ := at_T70 HR0_0.out x4_1 p188 q188
         cases e188
         replace hx188_0 := bh_ HB hx188_0
         replace hx188_1 := bh_ HB hx188_1
         replace p188 := eq_true p188
         replace q188 := eq_true q188
         go_wp2_with (first | ((refine gd_ 5 ?_); refine bx_ 5 #[.int .u8 0, .int .u8 0] 70 ?_; intro gb189 hg w24 hbox hb; have BK189 := Aside0.mk (hbox); have GW189 := gw_ HB hg; have GE189 := gw_ HB hg; replace HB := bs_ HB hb; have NB186_189 := Aside0.mk ((by rw [hg]; exact Nat.ne_of_lt (blk_lt (g := gb186) (o := .cells #[.slice (some ad188) l0_0.length c0_0] 50 (0, 0)) (up_ BK186.out)) : gb186 ≠ gb189)); have NB189_186 := Aside0.mk ((by rw [hg]; exact Nat.ne_of_gt (blk_lt (g := gb186) (o := .cells #[.slice (some ad188) l0_0.length c0_0] 50 (0, 0)) (up_ BK186.out)) : gb189 ≠ gb186)); replace BK186 := bb_ BK186 hb; clear hb hbox hg; have hnb25 := NB189_186.out; have hnc25 := NB186_189.out; obtain ⟨hcz26_0, hcz26_1⟩ := c2_ BK189; have hfz26_0 := blk_frozen BK189.out 0; have hfz26_1 := blk_frozen BK189.out 1))
         go_roundg kj2
         case measure => have := HK1.out; have := HJ2.out; omega
         case rel => exact ⟨(x3_1), (wrap64 (x4_1 + 1)), rs_, rs_, H', ⟨by have := HK1.out; have := HJ2.out; omega⟩, ⟨by (with_reducible repeat (first | refine blk_drewN ?_ _ | refine blk_drew ?_ | refine blk_alloc ?_ _)); refine blk_far ?_ NB186_189.out _; (with_reducible repeat (first | refine blk_drewN ?_ _ | refine blk_drew ?_ | refine blk_alloc ?_ _)); refine blk_far ?_ NB186_189.out _; (with_reducible repeat (first | refine blk_drewN ?_ _ | refine blk_drew ?_ | refine blk_alloc ?_ _)); exact BK186.out⟩, ⟨up_ HB.out⟩⟩
        ·have H' := Aside0.mk H
         clear H
         have hcz27_0 := c1_ BK186
         have hfz27_0 := blk_frozen BK186.out 0
         have p188 : 0 ≤ (x4_1 : Int) := od_
         have q188 : x4_1 < (l0_0.length : Int) := od_
         obtain ⟨ad188, e188, hx188_0, hx188_1⟩ := at_T70 HR0_0.out x4_1 p188 q188
         cases e188
         replace hx188_0 := bh_ HB hx188_0
         replace hx188_1 := bh_ HB hx188_1
         replace p188 := eq_true p188
         replace q188 := eq_true q188
         go_wp2_with (first | ((refine gd_ 5 ?_); refine bx_ 5 #[.int .u8 0, .int .u8 0] 70 ?_; intro gb189 hg w28 hbox hb; have BK189 := Aside0.mk (hbox); have GW189 := gw_ HB hg; have GE189 := gw_ HB hg; replace HB := bs_ HB hb; have NB186_189 := Aside0.mk ((by rw [hg]; exact Nat.ne_of_lt (blk_lt (g := gb186) (o := .cells #[.slice (some ad188) l0_0.length c0_0] 50 (0, 0)) (up_ BK186.out)) : gb186 ≠ gb189)); have NB189_186 := Aside0.mk ((by rw [hg]; exact Nat.ne_of_gt (blk_lt (g := gb186) (o := .cells #[.slice (some ad188) l0_0.length c0_0] 50 (0, 0)) (up_ BK186.out)) : gb189 ≠ gb186)); replace BK186 := bb_ BK186 hb; clear hb hbox hg; have hnb29 := NB189_186.out; have hnc29 := NB186_189.out; obtain ⟨hcz30_0, hcz30_1⟩ := c2_ BK189; have hfz30_0 := blk_frozen BK189.out 0; have hfz30_1 := blk_frozen BK189.out 1))
         go_roundg kj2
         case measure => have := HK1.out; have := HJ2.out; omega
         case rel => exact ⟨(wrap64 (x3_1 + 1)), (wrap64 (x4_1 + 1)), rs_, rs_, H', ⟨by have := HK1.out; have := HJ2.out; omega⟩, ⟨by (with_reducible repeat (first | refine blk_drewN ?_ _ | refine blk_drew ?_ | refine blk_alloc ?_ _)); refine blk_far ?_ NB186_189.out _; (with_reducible repeat (first | refine blk_drewN ?_ _ | refine blk_drew ?_ | refine blk_alloc ?_ _)); refine blk_far ?_ NB186_189.out _; (with_reducible repeat (first | refine blk_drewN ?_ _ | refine blk_drew ?_ | refine blk_alloc ?_ _)); exact BK186.out⟩, ⟨up_ HB.out⟩⟩
     ·obtain rfl := Option.some.inj H
      go_wp2
      go_ret
      exact ⟨re_, up_ HB.out⟩

/-! ### spec_l9Kept: function 132 -/
def spec_l9Kept.f (a0_0 : Int) (a0_1 : Int) : Option (Bool) := if a0_0 = 0 then (some false) else (some (a0_1 != 0))
set_option maxHeartbeats 8000000 in
set_option maxRecDepth 100000 in
theorem spec_l9Kept.calls (a0_0 : Int) (a0_1 : Int) (r : Bool) (w : World) (h : spec_l9Kept.f a0_0 a0_1 = some r) :
  Calls Tryz.prog 132 #[.agg #[.int .u8 a0_0, .int .u8 a0_1]] w fun e w' => e = .returned (.bool r) ∧ Below w.heap.size w w' := by
 have hu70 := Tryz.underlying70
 have HB := Aside0.mk (Below.refl w.heap.size w)
 have H : (if a0_0 = 0 then (some false) else (some (a0_1 != 0))) = some r := h
 clear h
 replace H := ieq_ H; rcases H with ⟨-, c2b0, c2b1, H⟩ | ⟨c2, c2b0, c2b1, H⟩
 ·obtain rfl := Option.some.inj H
  go_enter Tryz.func132, Tryz.ntmps132
  go_wp2_with (first | ((refine gd_ 1 ?_); refine bx_ 1 #[.int .u8 a0_0, .int .u8 a0_1] 70 ?_; intro gb190 hg w3 hbox hb; have BK190 := Aside0.mk (hbox); have GW190 := gw_ HB hg; have GE190 := gw_ HB hg; replace HB := bs_ HB hb; clear hb hbox hg; obtain ⟨hcz4_0, hcz4_1⟩ := c2_ BK190; have hfz4_0 := blk_frozen BK190.out 0; have hfz4_1 := blk_frozen BK190.out 1))
  go_ret
  exact ⟨re_, up_ HB.out⟩
 ·obtain rfl := Option.some.inj H
  go_enter Tryz.func132, Tryz.ntmps132
  go_wp2_with (first | ((refine gd_ 1 ?_); refine bx_ 1 #[.int .u8 a0_0, .int .u8 a0_1] 70 ?_; intro gb190 hg w5 hbox hb; have BK190 := Aside0.mk (hbox); have GW190 := gw_ HB hg; have GE190 := gw_ HB hg; replace HB := bs_ HB hb; clear hb hbox hg; obtain ⟨hcz6_0, hcz6_1⟩ := c2_ BK190; have hfz6_0 := blk_frozen BK190.out 0; have hfz6_1 := blk_frozen BK190.out 1))
  go_ret
  exact ⟨re_, up_ HB.out⟩

/-! ### spec_CountBreaks: function 107 -/
mutual
def spec_CountBreaks.l0 : Nat → Int → Int → Int → List (S70) → Option (Int)
 | 0, _, _, _, _ => none
 | k + 1, x3, x4, x5, x192000 => if x5 < (x192000.length : Int) then ((spec_IsCandidate.f k x192000).bind fun t192 => (spec_CountBreaks.j1 k x3 x4 x5 t192 x192000)) else (spec_CountBreaks.j1 k x3 x4 x5 false x192000)
def spec_CountBreaks.j1 : Nat → Int → Int → Int → Bool → List (S70) → Option (Int)
 | 0, _, _, _, _, _ => none
 | k + 1, x3, x4, x5, x16, x192000 => if x16 = true then (if 0 ≤ x5 then (if x5 < (x192000.length : Int) then ((spec_l9Kept.f ((rd_T70 x192000 x5).f0) ((rd_T70 x192000 x5).f1)).bind fun t194 => (if t194 = true then (if x3 < 0 then (spec_CountBreaks.l0 k x5 x5 (wrap64 (x5 + 1)) x192000) else (spec_CountBreaks.l0 k x3 x5 (wrap64 (x5 + 1)) x192000)) else (spec_CountBreaks.l0 k x3 x4 (wrap64 (x5 + 1)) x192000))) else (none)) else (none)) else (spec_CountBreaks.l1 k x4 0 (mx 0 x3) x192000)
def spec_CountBreaks.l1 : Nat → Int → Int → Int → List (S70) → Option (Int)
 | 0, _, _, _, _ => none
 | k + 1, x4, x6, x7, x192000 => if x7 < x4 then (if 0 ≤ x7 then (if x7 < (x192000.length : Int) then ((spec_l9Kept.f ((rd_T70 x192000 x7).f0) ((rd_T70 x192000 x7).f1)).bind fun t196 => (if t196 = true then (spec_CountBreaks.l1 k x4 x6 (wrap64 (x7 + 1)) x192000) else (spec_CountBreaks.l1 k x4 (wrap64 (x6 + 1)) (wrap64 (x7 + 1)) x192000))) else (none)) else (none)) else (some x6)
end
def spec_CountBreaks.f (k : Nat) (l0_0 : List (S70)) : Option (Int) := spec_CountBreaks.l0 k (-1) (-1) 0 l0_0
set_option maxHeartbeats 8000000 in
set_option maxRecDepth 100000 in
theorem spec_CountBreaks.calls (k : Nat) (A0_0 : Option Addr) (c0_0 : Nat) (l0_0 : List (S70)) (r : Int) (w : World) (hr0_0 : Kd.C k70 w A0_0 l0_0.length l0_0) (hc0_0 : l0_0.length ≤ c0_0) (h : spec_CountBreaks.f k l0_0 = some r) :
  Calls Tryz.prog 107 #[.agg #[.slice A0_0 l0_0.length c0_0]] w fun e w' => e = .returned (.int .i64 r) ∧ Below w.heap.size w w' := by
 have hu50 := Tryz.underlying50
 have hu70 := Tryz.underlying70
 have HR0_0 := Aside0.mk hr0_0
 have HC0_0 := Aside0.mk hc0_0
 clear hr0_0 hc0_0
 have HB := Aside0.mk (Below.refl w.heap.size w)
 have H : (spec_CountBreaks.l0 k (-1) (-1) 0 l0_0) = some r := h
 clear h
 have H' := Aside0.mk H
 clear H
 go_enter Tryz.func107, Tryz.ntmps107
 go_wp2_with (first | ((refine gd_ 1 ?_); refine bx_ 1 #[.slice A0_0 l0_0.length c0_0] 50 ?_; intro gb191 hg w2 hbox hb; have BK191 := Aside0.mk (hbox); have GW191 := gw_ HB hg; have GE191 := gw_ HB hg; replace HB := bs_ HB hb; clear hb hbox hg))
 go_loopg [3, 4, 5] k (fun kq v3 v4 v5 w' => ∃ (x3_1 : Int) (x4_1 : Int) (x5_1 : Int), v3 = .int .i64 x3_1 ∧ v4 = .int .i64 x4_1 ∧ v5 = .int .i64 x5_1 ∧ Aside0 (spec_CountBreaks.l0 kq x3_1 x4_1 x5_1 l0_0 = some r) ∧ Aside0 (kq ≤ k) ∧ Aside0 (w'.heap[gb191]? = some (.cells #[(.slice A0_0 l0_0.length c0_0)] 50 (0, 0))) ∧ Aside0 (Below w.heap.size w w'))
 case atStart => exact ⟨((-1)), ((-1)), (0), rs_, rs_, rs_, H', ⟨Nat.le_refl _⟩, ⟨up_ BK191.out⟩, ⟨up_ HB.out⟩⟩
 case round =>
  clear H'
  try clear c1
  try clear p2
  obtain ⟨x3_1, x4_1, x5_1, rfl, rfl, rfl, HA, HK1, BK191, HB⟩ := hrel
  cases gk with
  | zero => exact absurd HA.out (by simp [spec_CountBreaks.l0])
  | succ k1 =>
   have H := HA.out
   clear HA
   simp only [spec_CountBreaks.l0] at H
   have HC3 := Aside0.mk H
   clear H
   go_upto_region 4 with (fail)
   go_cut [16] (fun v16 wc => ∃ (kq : Nat) (x16_2 : Bool), v16 = .bool x16_2 ∧ Aside0 (spec_CountBreaks.j1 kq x3_1 x4_1 x5_1 x16_2 l0_0 = some r) ∧ Aside0 (kq ≤ k1) ∧ Aside0 (wc.heap[gb191]? = some (.cells #[(.slice A0_0 l0_0.length c0_0)] 50 (0, 0))) ∧ Aside0 (Below w.heap.size w wc))
   case first =>
    have H := HC3.out
    clear HC3
    replace H := its_ H; rcases H with ⟨c4b0, H⟩ | ⟨c4b0, H⟩
    ·(first | rw [c4b0] | (simp only [i64_w, i32_w]; rw [c4b0]) | skip)
     replace H := bnd_ H; obtain ⟨t192, A5, H⟩ := H
     have H' := Aside0.mk H
     clear H
     have hcz6_0 := c1_ BK191
     have hfz6_0 := blk_frozen BK191.out 0
     go_wp2_with (first | (go_at_call 60; (with_reducible refine (spec_IsCandidate.calls k1 _ _ l0_0 t192 _ (Kd.C_below HR0_0.out (up_ HB.out)) HC0_0.out A5.out).mono ?_); rintro e w7 ⟨rfl, hb⟩; replace BK191 := bb_ BK191 hb; replace HB := bs_ HB hb; (try clear hb); (try clear hb2); (try clear hk); (try clear hi)))
     go_meet
     case rel => exact ⟨_, (t192), rs_, H', ⟨by have := HK1.out; first | omega | exact Nat.le_refl _⟩, ⟨up_ BK191.out⟩, ⟨up_ HB.out⟩⟩
    ·(first | rw [c4b0] | (simp only [i64_w, i32_w]; rw [c4b0]) | skip)
     have H' := Aside0.mk H
     clear H
     have hcz8_0 := c1_ BK191
     have hfz8_0 := blk_frozen BK191.out 0
     go_wp2
     go_meet
     case rel => exact ⟨_, (false), rs_, H', ⟨by have := HK1.out; first | omega | exact Nat.le_refl _⟩, ⟨up_ BK191.out⟩, ⟨up_ HB.out⟩⟩
   case rest =>
    clear HC3
    try clear c1
    try clear p2
    try clear c4
    try clear c4b0
    try clear hcz6_0
    try clear hcz8_0
    try clear hfz6_0
    try clear hfz8_0
    try clear p2
    obtain ⟨kq, x16_2, rfl, HA, HJ2, BK191, HB⟩ := hcut
    cases kq with
    | zero => exact absurd HA.out (by simp [spec_CountBreaks.j1])
    | succ kj2 =>
     have H := HA.out
     clear HA
     simp only [spec_CountBreaks.j1] at H
     replace H := itb_ H; rcases H with ⟨rfl, H⟩ | ⟨rfl, H⟩
     ·replace H := its_ H; rcases H with ⟨c10b0, H⟩ | ⟨_, ⟨⟩⟩
      replace H := its_ H; rcases H with ⟨c11b0, H⟩ | ⟨_, ⟨⟩⟩
      replace H := bnd_ H; obtain ⟨t194, A12, H⟩ := H
      replace H := itb_ H; rcases H with ⟨rfl, H⟩ | ⟨rfl, H⟩
      ·replace H := its_ H; rcases H with ⟨c14b0, H⟩ | ⟨c14b0, H⟩
       ·have H' := Aside0.mk H
        clear H
        have hcz15_0 := c1_ BK191
        have hfz15_0 := blk_frozen BK191.out 0
        have p193 : 0 ≤ (x5_1 : Int) := od_
        have q193 : x5_1 < (l0_0.length : Int) := od_
        obtain ⟨ad193, e193, hx193_0, hx193_1⟩ := at_T70 HR0_0.out x5_1 p193 q193
        cases e193
        replace hx193_0 := bh_ HB hx193_0
        replace hx193_1 := bh_ HB hx193_1
        replace p193 := eq_true p193
        replace q193 := eq_true q193
        go_wp2_with (first | ((refine gc_ 132 ?_); refine gl_ (some 24) Tryz.func132 (spec_l9Kept.calls ((rd_T70 l0_0 x5_1).f0) ((rd_T70 l0_0 x5_1).f1) true _ A12.out) ?_; rintro e w16 ⟨rfl, hb⟩; refine ⟨_, rfl, ?_⟩; replace BK191 := bb_ BK191 hb; replace HB := bs_ HB hb; (try clear hb); (try clear hb2); (try clear hk); (try clear hi)))
        go_roundg kj2
        case measure => have := HK1.out; have := HJ2.out; omega
        case rel => exact ⟨(x5_1), (x5_1), (wrap64 (x5_1 + 1)), rs_, rs_, rs_, H', ⟨by have := HK1.out; have := HJ2.out; omega⟩, ⟨up_ BK191.out⟩, ⟨up_ HB.out⟩⟩
       ·have H' := Aside0.mk H
        clear H
        have hcz17_0 := c1_ BK191
        have hfz17_0 := blk_frozen BK191.out 0
        have p193 : 0 ≤ (x5_1 : Int) := od_
        have q193 : x5_1 < (l0_0.length : Int) := od_
        obtain ⟨ad193, e193, hx193_0, hx193_1⟩ := at_T70 HR0_0.out x5_1 p193 q193
        cases e193
        replace hx193_0 := bh_ HB hx193_0
        replace hx193_1 := bh_ HB hx193_1
        replace p193 := eq_true p193
        replace q193 := eq_true q193
        go_wp2_with (first | ((refine gc_ 132 ?_); refine gl_ (some 24) Tryz.func132 (spec_l9Kept.calls ((rd_T70 l0_0 x5_1).f0) ((rd_T70 l0_0 x5_1).f1) true _ A12.out) ?_; rintro e w18 ⟨rfl, hb⟩; refine ⟨_, rfl, ?_⟩; replace BK191 := bb_ BK191 hb; replace HB := bs_ HB hb; (try clear hb); (try clear hb2); (try clear hk); (try clear hi)))
        go_roundg kj2
        case measure => have := HK1.out; have := HJ2.out; omega
        case rel => exact ⟨(x3_1), (x5_1), (wrap64 (x5_1 + 1)), rs_, rs_, rs_, H', ⟨by have := HK1.out; have := HJ2.out; omega⟩, ⟨up_ BK191.out⟩, ⟨up_ HB.out⟩⟩
      ·have H' := Aside0.mk H
       clear H
       have hcz19_0 := c1_ BK191
       have hfz19_0 := blk_frozen BK191.out 0
       have p193 : 0 ≤ (x5_1 : Int) := od_
       have q193 : x5_1 < (l0_0.length : Int) := od_
       obtain ⟨ad193, e193, hx193_0, hx193_1⟩ := at_T70 HR0_0.out x5_1 p193 q193
       cases e193
       replace hx193_0 := bh_ HB hx193_0
       replace hx193_1 := bh_ HB hx193_1
       replace p193 := eq_true p193
       replace q193 := eq_true q193
       go_wp2_with (first | ((refine gc_ 132 ?_); refine gl_ (some 24) Tryz.func132 (spec_l9Kept.calls ((rd_T70 l0_0 x5_1).f0) ((rd_T70 l0_0 x5_1).f1) false _ A12.out) ?_; rintro e w20 ⟨rfl, hb⟩; refine ⟨_, rfl, ?_⟩; replace BK191 := bb_ BK191 hb; replace HB := bs_ HB hb; (try clear hb); (try clear hb2); (try clear hk); (try clear hi)))
       go_roundg kj2
       case measure => have := HK1.out; have := HJ2.out; omega
       case rel => exact ⟨(x3_1), (x4_1), (wrap64 (x5_1 + 1)), rs_, rs_, rs_, H', ⟨by have := HK1.out; have := HJ2.out; omega⟩, ⟨up_ BK191.out⟩, ⟨up_ HB.out⟩⟩
     ·obtain ⟨ji21, hji21⟩ : ∃ j_ : Int, (mx 0 x3_1) = j_ := ⟨_, rfl⟩
      replace H : (spec_CountBreaks.l1 kj2 x4_1 0 ji21 l0_0) = some r := by first | (rw [hji21] at H; exact H) | (simp only [hji21] at H ⊢; exact H)
      have hji21_ : (if 0 < x3_1 then x3_1 else 0) = ji21 := hji21
      have H' := Aside0.mk H
      clear H
      go_wp2
      go_loopg [6, 7] kj2 (fun kq v6 v7 w' => ∃ (x6_3 : Int) (x7_3 : Int), v6 = .int .i64 x6_3 ∧ v7 = .int .i64 x7_3 ∧ Aside0 (spec_CountBreaks.l1 kq x4_1 x6_3 x7_3 l0_0 = some r) ∧ Aside0 (kq ≤ kj2) ∧ Aside0 (w'.heap[gb191]? = some (.cells #[(.slice A0_0 l0_0.length c0_0)] 50 (0, 0))) ∧ Aside0 (Below w.heap.size w w'))
      case atStart => exact ⟨(0), (ji21), rs_, (by first | rfl | (simp; done) | (simp only [← hji21] <;> (first | rfl | simp)) | (simp [*]; done)), H', ⟨Nat.le_refl _⟩, ⟨up_ BK191.out⟩, ⟨up_ HB.out⟩⟩
      case round =>
       clear H'
       try clear c1
       try clear p1
       try clear q1
       try clear hx1
       try clear p2
       try clear c4
       try clear c4b0
       try clear p6
       try clear c9
       try clear c10
       try clear c10b0
       try clear c11
       try clear c11b0
       try clear c13
       try clear c14
       try clear c14b0
       try clear p19
       try clear q19
       try clear hx19
       try clear hcz15_0
       try clear hcz17_0
       try clear hcz19_0
       try clear hcz6_0
       try clear hcz8_0
       try clear hfz15_0
       try clear hfz17_0
       try clear hfz19_0
       try clear hfz6_0
       try clear hfz8_0
       try clear hx193_0
       try clear hx193_1
       try clear p193
       try clear p2
       try clear q193
       obtain ⟨x6_3, x7_3, rfl, rfl, HA, HK3, BK191, HB⟩ := hrel
       cases gk with
       | zero => exact absurd HA.out (by simp [spec_CountBreaks.l1])
       | succ k3 =>
        have H := HA.out
        clear HA
        simp only [spec_CountBreaks.l1] at H
        replace H := its_ H; rcases H with ⟨c22b0, H⟩ | ⟨c22b0, H⟩
        ·replace H := its_ H; rcases H with ⟨c23b0, H⟩ | ⟨_, ⟨⟩⟩
         replace H := its_ H; rcases H with ⟨c24b0, H⟩ | ⟨_, ⟨⟩⟩
         replace H := bnd_ H; obtain ⟨t196, A25, H⟩ := H
         replace H := itb_ H; rcases H with ⟨rfl, H⟩ | ⟨rfl, H⟩
         ·have H' := Aside0.mk H
          clear H
          have hcz27_0 := c1_ BK191
          have hfz27_0 := blk_frozen BK191.out 0
          have p195 : 0 ≤ (x7_3 : Int) := od_
          have q195 : x7_3 < (l0_0.length : Int) := od_
          obtain ⟨ad195, e195, hx195_0, hx195_1⟩ := at_T70 HR0_0.out x7_3 p195 q195
          cases e195
          replace hx195_0 := bh_ HB hx195_0
          replace hx195_1 := bh_ HB hx195_1
          replace p195 := eq_true p195
          replace q195 := eq_true q195
          go_wp2_with (first | ((refine gc_ 132 ?_); refine gl_ (some 41) Tryz.func132 (spec_l9Kept.calls ((rd_T70 l0_0 x7_3).f0) ((rd_T70 l0_0 x7_3).f1) true _ A25.out) ?_; rintro e w28 ⟨rfl, hb⟩; refine ⟨_, rfl, ?_⟩; replace BK191 := bb_ BK191 hb; replace HB := bs_ HB hb; (try clear hb); (try clear hb2); (try clear hk); (try clear hi)))
          go_roundg k3
          case measure => have := HK1.out; have := HJ2.out; have := HK3.out; omega
          case rel => exact ⟨(x6_3), (wrap64 (x7_3 + 1)), rs_, rs_, H', ⟨by have := HK1.out; have := HJ2.out; have := HK3.out; omega⟩, ⟨up_ BK191.out⟩, ⟨up_ HB.out⟩⟩
         ·have H' := Aside0.mk H
          clear H
          have hcz29_0 := c1_ BK191
          have hfz29_0 := blk_frozen BK191.out 0
          have p195 : 0 ≤ (x7_3 : Int) := od_
          have q195 : x7_3 < (l0_0.length : Int) := od_
          obtain ⟨ad195, e195, hx195_0, hx195_1⟩ := at_T70 HR0_0.out x7_3 p195 q195
          cases e195
          replace hx195_0 := bh_ HB hx195_0
          replace hx195_1 := bh_ HB hx195_1
          replace p195 := eq_true p195
          replace q195 := eq_true q195
          go_wp2_with (first | ((refine gc_ 132 ?_); refine gl_ (some 41) Tryz.func132 (spec_l9Kept.calls ((rd_T70 l0_0 x7_3).f0) ((rd_T70 l0_0 x7_3).f1) false _ A25.out) ?_; rintro e w30 ⟨rfl, hb⟩; refine ⟨_, rfl, ?_⟩; replace BK191 := bb_ BK191 hb; replace HB := bs_ HB hb; (try clear hb); (try clear hb2); (try clear hk); (try clear hi)))
          go_roundg k3
          case measure => have := HK1.out; have := HJ2.out; have := HK3.out; omega
          case rel => exact ⟨(wrap64 (x6_3 + 1)), (wrap64 (x7_3 + 1)), rs_, rs_, H', ⟨by have := HK1.out; have := HJ2.out; have := HK3.out; omega⟩, ⟨up_ BK191.out⟩, ⟨up_ HB.out⟩⟩
        ·obtain rfl := Option.some.inj H
         go_wp2
         go_ret
         exact ⟨by first | rfl | (simp [errW_none, errW_some] <;> rfl) | (simp only [← hji21]; first | rfl | (simp [errW_none, errW_some] <;> rfl)) | (simp [*, errW_none, errW_some] <;> rfl), up_ HB.out⟩

end Go.Proofs.YtkddpilambnicaaGreat.PFnExactDifferencesFor
