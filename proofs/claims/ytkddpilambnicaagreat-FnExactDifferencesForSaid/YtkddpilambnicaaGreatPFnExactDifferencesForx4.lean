/- Walks of Go functions that the law FnExactDifferencesFor uses: written by this session's program out of the kit's printer; each shows that a call comes to the answers of the Lean function beside it. Conditions: each contract's own. -/
import Derived.Test.YtkddpilambnicaaGreatPFnExactDifferencesForx0
import Derived.Test.YtkddpilambnicaaGreatPFnExactDifferencesForx2
import Derived.Test.YtkddpilambnicaaGreatPFnExactDifferencesForx3
namespace Go.Proofs.YtkddpilambnicaaGreat.PFnExactDifferencesFor
open Go.RowKit Go.Proofs.YtkddpilambnicaaGreatW.PrintWords Go.Proofs.YtkddpilambnicaaGreatW.PrintLast Go.Proofs.YtkddpilambnicaaGreatW.PrintMore Go.Proofs.YtkddpilambnicaaGreat.Mac Go.Proofs.YtkddpilambnicaaGreat.Law
attribute [local go_sem] max2_int min2_int max_two min_two max_three min_three max_four min_four   -- for this text's walks alone
set_option linter.unusedVariables false
set_option linter.unusedSimpArgs false

/-! ### spec_IsCandidate: function 60 -/
mutual
def spec_IsCandidate.l0 : Nat → Int → List (S70) → Option (Bool)
 | 0, _, _ => none
 | k + 1, x3, x146000 => if x3 < (x146000.length : Int) then (if 0 ≤ x3 then ((spec_SwapVoice.f ((rd_T70 x146000 x3).f0)).bind fun bt148 => (if ((rd_T70 x146000 x3).f0) = 0 then (if ((rd_T70 x146000 x3).f1) = 0 then (spec_IsCandidate.j1 k x3 bt148.1 bt148.2 (((rd_T70 x146000 x3).f1) == 0) x146000 ((rd_T70 x146000 x3).f0) ((rd_T70 x146000 x3).f1)) else ((spec_IsSound.f k ((rd_T70 x146000 x3).f1)).bind fun t150 => (if t150 = true then (spec_IsCandidate.j1 k x3 bt148.1 bt148.2 (((rd_T70 x146000 x3).f1) == 0) x146000 ((rd_T70 x146000 x3).f0) ((rd_T70 x146000 x3).f1)) else (spec_IsCandidate.j1 k x3 bt148.1 bt148.2 true x146000 ((rd_T70 x146000 x3).f0) ((rd_T70 x146000 x3).f1))))) else ((spec_IsSound.f k ((rd_T70 x146000 x3).f0)).bind fun t151 => (if t151 = true then (if ((rd_T70 x146000 x3).f1) = 0 then (spec_IsCandidate.j1 k x3 bt148.1 bt148.2 false x146000 ((rd_T70 x146000 x3).f0) ((rd_T70 x146000 x3).f1)) else ((spec_IsSound.f k ((rd_T70 x146000 x3).f1)).bind fun t152 => (if t152 = true then (spec_IsCandidate.j1 k x3 bt148.1 bt148.2 false x146000 ((rd_T70 x146000 x3).f0) ((rd_T70 x146000 x3).f1)) else (spec_IsCandidate.j1 k x3 bt148.1 bt148.2 true x146000 ((rd_T70 x146000 x3).f0) ((rd_T70 x146000 x3).f1))))) else (spec_IsCandidate.j1 k x3 bt148.1 bt148.2 true x146000 ((rd_T70 x146000 x3).f0) ((rd_T70 x146000 x3).f1)))))) else (none)) else (if (x146000.length : Int) ≤ 16 then ((spec_l6In.f k x146000).bind fun t153 => ((spec_IsForm.f k t153).bind fun t154 => (if t154 = true then ((spec_l6Out.f k x146000).bind fun t155 => ((spec_IsForm.f k t155).bind fun t156 => (some t156))) else (some false)))) else (some false))
def spec_IsCandidate.j1 : Nat → Int → Int → Bool → Bool → List (S70) → Int → Int → Option (Bool)
 | 0, _, _, _, _, _, _, _ => none
 | k + 1, x3, x5, x6, x54, x146000, x148000, x148001 => if x54 = true then (some false) else (if x148000 = 0 then (spec_IsCandidate.l0 k (wrap64 (x3 + 1)) x146000) else (if x148001 = 0 then (spec_IsCandidate.l0 k (wrap64 (x3 + 1)) x146000) else (if x148000 = x148001 then (spec_IsCandidate.l0 k (wrap64 (x3 + 1)) x146000) else (if x6 = true then (if x5 = x148001 then (spec_IsCandidate.l0 k (wrap64 (x3 + 1)) x146000) else (some false)) else (some false)))))
end
def spec_IsCandidate.f (k : Nat) (l0_0 : List (S70)) : Option (Bool) := spec_IsCandidate.l0 k 0 l0_0
set_option maxHeartbeats 8000000 in
set_option maxRecDepth 100000 in
theorem spec_IsCandidate.calls (k : Nat) (A0_0 : Option Addr) (c0_0 : Nat) (l0_0 : List (S70)) (r : Bool) (w : World) (hr0_0 : Kd.C k70 w A0_0 l0_0.length l0_0) (hc0_0 : l0_0.length ≤ c0_0) (h : spec_IsCandidate.f k l0_0 = some r) :
  Calls Tryz.prog 60 #[.agg #[.slice A0_0 l0_0.length c0_0]] w fun e w' => e = .returned (.bool r) ∧ Below w.heap.size w w' := by
 have hu50 := Tryz.underlying50
 have hu70 := Tryz.underlying70
 have HR0_0 := Aside0.mk hr0_0
 have HC0_0 := Aside0.mk hc0_0
 clear hr0_0 hc0_0
 have HB := Aside0.mk (Below.refl w.heap.size w)
 have H : (spec_IsCandidate.l0 k 0 l0_0) = some r := h
 clear h
 have H' := Aside0.mk H
 clear H
 go_enter Tryz.func60, Tryz.ntmps60
 go_wp2_with (first | ((refine gd_ 1 ?_); refine bx_ 1 #[.slice A0_0 l0_0.length c0_0] 50 ?_; intro gb145 hg w2 hbox hb; have BK145 := Aside0.mk (hbox); have GW145 := gw_ HB hg; have GE145 := gw_ HB hg; replace HB := bs_ HB hb; clear hb hbox hg))
 go_loopg [3] k (fun kq v3 w' => ∃ (x3_1 : Int), v3 = .int .i64 x3_1 ∧ Aside0 (spec_IsCandidate.l0 kq x3_1 l0_0 = some r) ∧ Aside0 (kq ≤ k) ∧ Aside0 (w'.heap[gb145]? = some (.cells #[(.slice A0_0 l0_0.length c0_0)] 50 (0, 0))) ∧ Aside0 (Below w.heap.size w w'))
 case atStart => exact ⟨(0), rs_, H', ⟨Nat.le_refl _⟩, ⟨up_ BK145.out⟩, ⟨up_ HB.out⟩⟩
 case round =>
  clear H'
  try clear p2
  obtain ⟨x3_1, rfl, HA, HK1, BK145, HB⟩ := hrel
  cases gk with
  | zero => exact absurd HA.out (by simp [spec_IsCandidate.l0])
  | succ k1 =>
   have H := HA.out
   clear HA
   simp only [spec_IsCandidate.l0] at H
   replace H := its_ H; rcases H with ⟨c3b0, H⟩ | ⟨c3b0, H⟩
   ·replace H := its_ H; rcases H with ⟨c4b0, H⟩ | ⟨_, ⟨⟩⟩
    replace H := Option.bind_eq_some_iff.mp H
    obtain ⟨⟨t148, t149⟩, A50, H⟩ := H
    replace H : (if ((rd_T70 l0_0 x3_1).f0) = 0 then (if ((rd_T70 l0_0 x3_1).f1) = 0 then (spec_IsCandidate.j1 k1 x3_1 t148 t149 (((rd_T70 l0_0 x3_1).f1) == 0) l0_0 ((rd_T70 l0_0 x3_1).f0) ((rd_T70 l0_0 x3_1).f1)) else ((spec_IsSound.f k1 ((rd_T70 l0_0 x3_1).f1)).bind fun t150 => (if t150 = true then (spec_IsCandidate.j1 k1 x3_1 t148 t149 (((rd_T70 l0_0 x3_1).f1) == 0) l0_0 ((rd_T70 l0_0 x3_1).f0) ((rd_T70 l0_0 x3_1).f1)) else (spec_IsCandidate.j1 k1 x3_1 t148 t149 true l0_0 ((rd_T70 l0_0 x3_1).f0) ((rd_T70 l0_0 x3_1).f1))))) else ((spec_IsSound.f k1 ((rd_T70 l0_0 x3_1).f0)).bind fun t151 => (if t151 = true then (if ((rd_T70 l0_0 x3_1).f1) = 0 then (spec_IsCandidate.j1 k1 x3_1 t148 t149 false l0_0 ((rd_T70 l0_0 x3_1).f0) ((rd_T70 l0_0 x3_1).f1)) else ((spec_IsSound.f k1 ((rd_T70 l0_0 x3_1).f1)).bind fun t152 => (if t152 = true then (spec_IsCandidate.j1 k1 x3_1 t148 t149 false l0_0 ((rd_T70 l0_0 x3_1).f0) ((rd_T70 l0_0 x3_1).f1)) else (spec_IsCandidate.j1 k1 x3_1 t148 t149 true l0_0 ((rd_T70 l0_0 x3_1).f0) ((rd_T70 l0_0 x3_1).f1))))) else (spec_IsCandidate.j1 k1 x3_1 t148 t149 true l0_0 ((rd_T70 l0_0 x3_1).f0) ((rd_T70 l0_0 x3_1).f1))))) = some r := H
    have A5 := Aside0.mk A50
    clear A50
    have HC6 := Aside0.mk H
    clear H
    have hcz7_0 := c1_ BK145
    have hfz7_0 := blk_frozen BK145.out 0
    have p146 : 0 ≤ (x3_1 : Int) := od_
    have q146 : x3_1 < (l0_0.length : Int) := od_
    obtain ⟨ad146, e146, hx146_0, hx146_1⟩ := at_T70 HR0_0.out x3_1 p146 q146
    cases e146
    replace hx146_0 := bh_ HB hx146_0
    replace hx146_1 := bh_ HB hx146_1
    replace p146 := eq_true p146
    replace q146 := eq_true q146
    go_upto_region 6 with (first | ((refine gd_ 4 ?_); refine bx_ 4 #[.int .u8 0, .int .u8 0] 70 ?_; intro gb147 hg w8 hbox hb; have BK147 := Aside0.mk (hbox); have GW147 := gw_ HB hg; have GE147 := gw_ HB hg; replace HB := bs_ HB hb; have NB145_147 := Aside0.mk ((by rw [hg]; exact Nat.ne_of_lt (blk_lt (g := gb145) (o := .cells #[.slice (some ad146) l0_0.length c0_0] 50 (0, 0)) (up_ BK145.out)) : gb145 ≠ gb147)); have NB147_145 := Aside0.mk ((by rw [hg]; exact Nat.ne_of_gt (blk_lt (g := gb145) (o := .cells #[.slice (some ad146) l0_0.length c0_0] 50 (0, 0)) (up_ BK145.out)) : gb147 ≠ gb145)); replace BK145 := bb_ BK145 hb; clear hb hbox hg; have hnb9 := NB147_145.out; have hnc9 := NB145_147.out; obtain ⟨hcz10_0, hcz10_1⟩ := c2_ BK147; have hfz10_0 := blk_frozen BK147.out 0; have hfz10_1 := blk_frozen BK147.out 1) | ((refine gc_ 85 ?_); refine gq_ (some 22) Tryz.func85 (spec_SwapVoice.calls ((rd_T70 l0_0 x3_1).f0) t148 t149 _ A5.out) (fun nd => ?_)))
    (try simp only [Act.put, List.setIfInBounds_toArray, List.set_cons_zero, List.set_cons_succ])
    go_cut [54] (fun v54 wc => ∃ (kq : Nat) (x54_5 : Bool), v54 = .bool x54_5 ∧ Aside0 (spec_IsCandidate.j1 kq x3_1 t148 t149 x54_5 l0_0 ((rd_T70 l0_0 x3_1).f0) ((rd_T70 l0_0 x3_1).f1) = some r) ∧ Aside0 (kq ≤ k1) ∧ Aside0 (wc.heap[gb145]? = some (.cells #[(.slice (some ad146) l0_0.length c0_0)] 50 (0, 0))) ∧ Aside0 (wc.heap[gb147]? = some (.cells #[.int .u8 ((rd_T70 l0_0 x3_1).f0), .int .u8 ((rd_T70 l0_0 x3_1).f1)] 70 (0, 0))) ∧ Aside0 (Below w.heap.size w wc))
    case first =>
     have H := HC6.out
     clear HC6
     replace H := ieq_ H; rcases H with ⟨-, c11b0, c11b1, H⟩ | ⟨c11, c11b0, c11b1, H⟩
     ·(first | rw [c11b0] | (simp only [i64_w, i32_w]; rw [c11b0]) | skip)
      replace H := ieq_ H; rcases H with ⟨-, c12b0, c12b1, H⟩ | ⟨c12, c12b0, c12b1, H⟩
      ·have H' := Aside0.mk H
       clear H
       have hnb13 := NB147_145.out
       have hnc13 := NB145_147.out
       obtain ⟨hcz14_0, hcz14_1⟩ := c2_ BK147
       have hfz14_0 := blk_frozen BK147.out 0
       have hfz14_1 := blk_frozen BK147.out 1
       go_wp2
       go_meet
       case rel => exact ⟨_, ((((rd_T70 l0_0 x3_1).f1) == 0)), rs_, H', ⟨by have := HK1.out; first | omega | exact Nat.le_refl _⟩, ⟨by (with_reducible repeat (first | refine blk_drewN ?_ _ | refine blk_drew ?_ | refine blk_alloc ?_ _)); refine blk_far ?_ NB145_147.out _; (with_reducible repeat (first | refine blk_drewN ?_ _ | refine blk_drew ?_ | refine blk_alloc ?_ _)); refine blk_far ?_ NB145_147.out _; (with_reducible repeat (first | refine blk_drewN ?_ _ | refine blk_drew ?_ | refine blk_alloc ?_ _)); exact BK145.out⟩, ⟨by (with_reducible repeat (first | refine blk_drewN ?_ _ | refine blk_drew ?_ | refine blk_alloc ?_ _)); refine blk_put (cs := #[.int .u8 ((rd_T70 l0_0 x3_1).f0), .int .u8 0]) ?_ 1 _ rfl; (with_reducible repeat (first | refine blk_drewN ?_ _ | refine blk_drew ?_ | refine blk_alloc ?_ _)); refine blk_put (cs := #[.int .u8 0, .int .u8 0]) ?_ 0 _ rfl; (with_reducible repeat (first | refine blk_drewN ?_ _ | refine blk_drew ?_ | refine blk_alloc ?_ _)); exact BK147.out⟩, ⟨up_ HB.out⟩⟩
      ·replace H := bnd_ H; obtain ⟨t150, A15, H⟩ := H
       replace H := itb_ H; rcases H with ⟨rfl, H⟩ | ⟨rfl, H⟩
       ·have H' := Aside0.mk H
        clear H
        have hnb17 := NB147_145.out
        have hnc17 := NB145_147.out
        obtain ⟨hcz18_0, hcz18_1⟩ := c2_ BK147
        have hfz18_0 := blk_frozen BK147.out 0
        have hfz18_1 := blk_frozen BK147.out 1
        go_wp2_with (first | (go_at_call 86; (with_reducible refine (spec_IsSound.calls k1 ((rd_T70 l0_0 x3_1).f1) true _ A15.out).mono ?_); rintro e w' ⟨rfl, ⟨nd, rfl⟩⟩))
        go_meet
        case rel => exact ⟨_, ((((rd_T70 l0_0 x3_1).f1) == 0)), rs_, H', ⟨by have := HK1.out; first | omega | exact Nat.le_refl _⟩, ⟨by (with_reducible repeat (first | refine blk_drewN ?_ _ | refine blk_drew ?_ | refine blk_alloc ?_ _)); refine blk_far ?_ NB145_147.out _; (with_reducible repeat (first | refine blk_drewN ?_ _ | refine blk_drew ?_ | refine blk_alloc ?_ _)); refine blk_far ?_ NB145_147.out _; (with_reducible repeat (first | refine blk_drewN ?_ _ | refine blk_drew ?_ | refine blk_alloc ?_ _)); exact BK145.out⟩, ⟨by (with_reducible repeat (first | refine blk_drewN ?_ _ | refine blk_drew ?_ | refine blk_alloc ?_ _)); refine blk_put (cs := #[.int .u8 ((rd_T70 l0_0 x3_1).f0), .int .u8 0]) ?_ 1 _ rfl; (with_reducible repeat (first | refine blk_drewN ?_ _ | refine blk_drew ?_ | refine blk_alloc ?_ _)); refine blk_put (cs := #[.int .u8 0, .int .u8 0]) ?_ 0 _ rfl; (with_reducible repeat (first | refine blk_drewN ?_ _ | refine blk_drew ?_ | refine blk_alloc ?_ _)); exact BK147.out⟩, ⟨up_ HB.out⟩⟩
       ·have H' := Aside0.mk H
        clear H
        have hnb19 := NB147_145.out
        have hnc19 := NB145_147.out
        obtain ⟨hcz20_0, hcz20_1⟩ := c2_ BK147
        have hfz20_0 := blk_frozen BK147.out 0
        have hfz20_1 := blk_frozen BK147.out 1
        go_wp2_with (first | (go_at_call 86; (with_reducible refine (spec_IsSound.calls k1 ((rd_T70 l0_0 x3_1).f1) false _ A15.out).mono ?_); rintro e w' ⟨rfl, ⟨nd, rfl⟩⟩))
        go_meet
        case rel => exact ⟨_, (true), rs_, H', ⟨by have := HK1.out; first | omega | exact Nat.le_refl _⟩, ⟨by (with_reducible repeat (first | refine blk_drewN ?_ _ | refine blk_drew ?_ | refine blk_alloc ?_ _)); refine blk_far ?_ NB145_147.out _; (with_reducible repeat (first | refine blk_drewN ?_ _ | refine blk_drew ?_ | refine blk_alloc ?_ _)); refine blk_far ?_ NB145_147.out _; (with_reducible repeat (first | refine blk_drewN ?_ _ | refine blk_drew ?_ | refine blk_alloc ?_ _)); exact BK145.out⟩, ⟨by (with_reducible repeat (first | refine blk_drewN ?_ _ | refine blk_drew ?_ | refine blk_alloc ?_ _)); refine blk_put (cs := #[.int .u8 ((rd_T70 l0_0 x3_1).f0), .int .u8 0]) ?_ 1 _ rfl; (with_reducible repeat (first | refine blk_drewN ?_ _ | refine blk_drew ?_ | refine blk_alloc ?_ _)); refine blk_put (cs := #[.int .u8 0, .int .u8 0]) ?_ 0 _ rfl; (with_reducible repeat (first | refine blk_drewN ?_ _ | refine blk_drew ?_ | refine blk_alloc ?_ _)); exact BK147.out⟩, ⟨up_ HB.out⟩⟩
     ·(first | rw [c11b0] | (simp only [i64_w, i32_w]; rw [c11b0]) | skip)
      replace H := bnd_ H; obtain ⟨t151, A21, H⟩ := H
      replace H := itb_ H; rcases H with ⟨rfl, H⟩ | ⟨rfl, H⟩
      ·replace H := ieq_ H; rcases H with ⟨-, c23b0, c23b1, H⟩ | ⟨c23, c23b0, c23b1, H⟩
       ·have H' := Aside0.mk H
        clear H
        have hnb24 := NB147_145.out
        have hnc24 := NB145_147.out
        obtain ⟨hcz25_0, hcz25_1⟩ := c2_ BK147
        have hfz25_0 := blk_frozen BK147.out 0
        have hfz25_1 := blk_frozen BK147.out 1
        go_wp2_with (first | (go_at_call 86; (with_reducible refine (spec_IsSound.calls k1 ((rd_T70 l0_0 x3_1).f0) true _ A21.out).mono ?_); rintro e w' ⟨rfl, ⟨nd, rfl⟩⟩))
        go_meet
        case rel => exact ⟨_, (false), rs_, H', ⟨by have := HK1.out; first | omega | exact Nat.le_refl _⟩, ⟨by (with_reducible repeat (first | refine blk_drewN ?_ _ | refine blk_drew ?_ | refine blk_alloc ?_ _)); refine blk_far ?_ NB145_147.out _; (with_reducible repeat (first | refine blk_drewN ?_ _ | refine blk_drew ?_ | refine blk_alloc ?_ _)); refine blk_far ?_ NB145_147.out _; (with_reducible repeat (first | refine blk_drewN ?_ _ | refine blk_drew ?_ | refine blk_alloc ?_ _)); exact BK145.out⟩, ⟨by (with_reducible repeat (first | refine blk_drewN ?_ _ | refine blk_drew ?_ | refine blk_alloc ?_ _)); refine blk_put (cs := #[.int .u8 ((rd_T70 l0_0 x3_1).f0), .int .u8 0]) ?_ 1 _ rfl; (with_reducible repeat (first | refine blk_drewN ?_ _ | refine blk_drew ?_ | refine blk_alloc ?_ _)); refine blk_put (cs := #[.int .u8 0, .int .u8 0]) ?_ 0 _ rfl; (with_reducible repeat (first | refine blk_drewN ?_ _ | refine blk_drew ?_ | refine blk_alloc ?_ _)); exact BK147.out⟩, ⟨up_ HB.out⟩⟩
       ·replace H := bnd_ H; obtain ⟨t152, A26, H⟩ := H
        replace H := itb_ H; rcases H with ⟨rfl, H⟩ | ⟨rfl, H⟩
        ·have H' := Aside0.mk H
         clear H
         have hnb28 := NB147_145.out
         have hnc28 := NB145_147.out
         obtain ⟨hcz29_0, hcz29_1⟩ := c2_ BK147
         have hfz29_0 := blk_frozen BK147.out 0
         have hfz29_1 := blk_frozen BK147.out 1
         go_wp2_with (first | (go_at_call 86; (with_reducible refine (spec_IsSound.calls k1 ((rd_T70 l0_0 x3_1).f0) true _ A21.out).mono ?_); rintro e w' ⟨rfl, ⟨nd, rfl⟩⟩) | (go_at_call 86; (with_reducible refine (spec_IsSound.calls k1 ((rd_T70 l0_0 x3_1).f1) true _ A26.out).mono ?_); rintro e w' ⟨rfl, ⟨nd, rfl⟩⟩))
         go_meet
         case rel => exact ⟨_, (false), rs_, H', ⟨by have := HK1.out; first | omega | exact Nat.le_refl _⟩, ⟨by (with_reducible repeat (first | refine blk_drewN ?_ _ | refine blk_drew ?_ | refine blk_alloc ?_ _)); refine blk_far ?_ NB145_147.out _; (with_reducible repeat (first | refine blk_drewN ?_ _ | refine blk_drew ?_ | refine blk_alloc ?_ _)); refine blk_far ?_ NB145_147.out _; (with_reducible repeat (first | refine blk_drewN ?_ _ | refine blk_drew ?_ | refine blk_alloc ?_ _)); exact BK145.out⟩, ⟨by (with_reducible repeat (first | refine blk_drewN ?_ _ | refine blk_drew ?_ | refine blk_alloc ?_ _)); refine blk_put (cs := #[.int .u8 ((rd_T70 l0_0 x3_1).f0), .int .u8 0]) ?_ 1 _ rfl; (with_reducible repeat (first | refine blk_drewN ?_ _ | refine blk_drew ?_ | refine blk_alloc ?_ _)); refine blk_put (cs := #[.int .u8 0, .int .u8 0]) ?_ 0 _ rfl; (with_reducible repeat (first | refine blk_drewN ?_ _ | refine blk_drew ?_ | refine blk_alloc ?_ _)); exact BK147.out⟩, ⟨up_ HB.out⟩⟩
        ·have H' := Aside0.mk H
         clear H
         have hnb30 := NB147_145.out
         have hnc30 := NB145_147.out
         obtain ⟨hcz31_0, hcz31_1⟩ := c2_ BK147
         have hfz31_0 := blk_frozen BK147.out 0
         have hfz31_1 := blk_frozen BK147.out 1
         go_wp2_with (first | (go_at_call 86; (with_reducible refine (spec_IsSound.calls k1 ((rd_T70 l0_0 x3_1).f0) true _ A21.out).mono ?_); rintro e w' ⟨rfl, ⟨nd, rfl⟩⟩) | (go_at_call 86; (with_reducible refine (spec_IsSound.calls k1 ((rd_T70 l0_0 x3_1).f1) false _ A26.out).mono ?_); rintro e w' ⟨rfl, ⟨nd, rfl⟩⟩))
         go_meet
         case rel => exact ⟨_, (true), rs_, H', ⟨by have := HK1.out; first | omega | exact Nat.le_refl _⟩, ⟨by (with_reducible repeat (first | refine blk_drewN ?_ _ | refine blk_drew ?_ | refine blk_alloc ?_ _)); refine blk_far ?_ NB145_147.out _; (with_reducible repeat (first | refine blk_drewN ?_ _ | refine blk_drew ?_ | refine blk_alloc ?_ _)); refine blk_far ?_ NB145_147.out _; (with_reducible repeat (first | refine blk_drewN ?_ _ | refine blk_drew ?_ | refine blk_alloc ?_ _)); exact BK145.out⟩, ⟨by (with_reducible repeat (first | refine blk_drewN ?_ _ | refine blk_drew ?_ | refine blk_alloc ?_ _)); refine blk_put (cs := #[.int .u8 ((rd_T70 l0_0 x3_1).f0), .int .u8 0]) ?_ 1 _ rfl; (with_reducible repeat (first | refine blk_drewN ?_ _ | refine blk_drew ?_ | refine blk_alloc ?_ _)); refine blk_put (cs := #[.int .u8 0, .int .u8 0]) ?_ 0 _ rfl; (with_reducible repeat (first | refine blk_drewN ?_ _ | refine blk_drew ?_ | refine blk_alloc ?_ _)); exact BK147.out⟩, ⟨up_ HB.out⟩⟩
      ·have H' := Aside0.mk H
       clear H
       have hnb32 := NB147_145.out
       have hnc32 := NB145_147.out
       obtain ⟨hcz33_0, hcz33_1⟩ := c2_ BK147
       have hfz33_0 := blk_frozen BK147.out 0
       have hfz33_1 := blk_frozen BK147.out 1
       go_wp2_with (first | (go_at_call 86; (with_reducible refine (spec_IsSound.calls k1 ((rd_T70 l0_0 x3_1).f0) false _ A21.out).mono ?_); rintro e w' ⟨rfl, ⟨nd, rfl⟩⟩))
       go_meet
       case rel => exact ⟨_, (true), rs_, H', ⟨by have := HK1.out; first | omega | exact Nat.le_refl _⟩, ⟨by (with_reducible repeat (first | refine blk_drewN ?_ _ | refine blk_drew ?_ | refine blk_alloc ?_ _)); refine blk_far ?_ NB145_147.out _; (with_reducible repeat (first | refine blk_drewN ?_ _ | refine blk_drew ?_ | refine blk_alloc ?_ _)); refine blk_far ?_ NB145_147.out _; (with_reducible repeat (first | refine blk_drewN ?_ _ | refine blk_drew ?_ | refine blk_alloc ?_ _)); exact BK145.out⟩, ⟨by (with_reducible repeat (first | refine blk_drewN ?_ _ | refine blk_drew ?_ | refine blk_alloc ?_ _)); refine blk_put (cs := #[.int .u8 ((rd_T70 l0_0 x3_1).f0), .int .u8 0]) ?_ 1 _ rfl; (with_reducible repeat (first | refine blk_drewN ?_ _ | refine blk_drew ?_ | refine blk_alloc ?_ _)); refine blk_put (cs := #[.int .u8 0, .int .u8 0]) ?_ 0 _ rfl; (with_reducible repeat (first | refine blk_drewN ?_ _ | refine blk_drew ?_ | refine blk_alloc ?_ _)); exact BK147.out⟩, ⟨up_ HB.out⟩⟩
    case rest =>
     clear HC6
     try clear c1
     try clear p1
     try clear q1
     try clear hx1
     try clear c2
     try clear p2
     try clear c3
     try clear c3b0
     try clear c4
     try clear c4b0
     try clear c6
     try clear c8
     try clear c9
     try clear c11
     try clear c11b0
     try clear c11b1
     try clear c12
     try clear c12b0
     try clear c12b1
     try clear c13
     try clear p14
     try clear q14
     try clear hx14
     try clear c16
     try clear c17
     try clear c19
     try clear c22
     try clear c23
     try clear c23b0
     try clear c23b1
     try clear c24
     try clear c27
     try clear c28
     try clear c30
     try clear c32
     try clear hcz10_0
     try clear hcz10_1
     try clear hcz14_0
     try clear hcz14_1
     try clear hcz18_0
     try clear hcz18_1
     try clear hcz20_0
     try clear hcz20_1
     try clear hcz25_0
     try clear hcz25_1
     try clear hcz29_0
     try clear hcz29_1
     try clear hcz31_0
     try clear hcz31_1
     try clear hcz33_0
     try clear hcz33_1
     try clear hcz7_0
     try clear hfz10_0
     try clear hfz10_1
     try clear hfz14_0
     try clear hfz14_1
     try clear hfz18_0
     try clear hfz18_1
     try clear hfz20_0
     try clear hfz20_1
     try clear hfz25_0
     try clear hfz25_1
     try clear hfz29_0
     try clear hfz29_1
     try clear hfz31_0
     try clear hfz31_1
     try clear hfz33_0
     try clear hfz33_1
     try clear hfz7_0
     try clear hx146_0
     try clear hx146_1
     try clear p146
     try clear p2
     try clear q146
     obtain ⟨kq, x54_5, rfl, HA, HJ5, BK145, BK147, HB⟩ := hcut
     cases kq with
     | zero => exact absurd HA.out (by simp [spec_IsCandidate.j1])
     | succ kj5 =>
      have H := HA.out
      clear HA
      simp only [spec_IsCandidate.j1] at H
      replace H := itb_ H; rcases H with ⟨rfl, H⟩ | ⟨rfl, H⟩
      ·obtain rfl := Option.some.inj H
       go_wp2
       go_ret
       exact ⟨re_, up_ HB.out⟩
      ·replace H := ieq_ H; rcases H with ⟨-, c35b0, c35b1, H⟩ | ⟨c35, c35b0, c35b1, H⟩
       ·have H' := Aside0.mk H
        clear H
        have hnb36 := NB147_145.out
        have hnc36 := NB145_147.out
        obtain ⟨hcz37_0, hcz37_1⟩ := c2_ BK147
        have hfz37_0 := blk_frozen BK147.out 0
        have hfz37_1 := blk_frozen BK147.out 1
        go_wp2
        go_roundg kj5
        case measure => have := HK1.out; have := HJ5.out; omega
        case rel => exact ⟨(wrap64 (x3_1 + 1)), rs_, H', ⟨by have := HK1.out; have := HJ5.out; omega⟩, ⟨up_ BK145.out⟩, ⟨up_ HB.out⟩⟩
       ·replace H := ieq_ H; rcases H with ⟨-, c38b0, c38b1, H⟩ | ⟨c38, c38b0, c38b1, H⟩
        ·have H' := Aside0.mk H
         clear H
         have hnb39 := NB147_145.out
         have hnc39 := NB145_147.out
         obtain ⟨hcz40_0, hcz40_1⟩ := c2_ BK147
         have hfz40_0 := blk_frozen BK147.out 0
         have hfz40_1 := blk_frozen BK147.out 1
         go_wp2
         go_roundg kj5
         case measure => have := HK1.out; have := HJ5.out; omega
         case rel => exact ⟨(wrap64 (x3_1 + 1)), rs_, H', ⟨by have := HK1.out; have := HJ5.out; omega⟩, ⟨up_ BK145.out⟩, ⟨up_ HB.out⟩⟩
        ·replace H := ieq_ H; rcases H with ⟨-, c41b0, c41b1, H⟩ | ⟨c41, c41b0, c41b1, H⟩
         ·have H' := Aside0.mk H
          clear H
          have hnb42 := NB147_145.out
          have hnc42 := NB145_147.out
          obtain ⟨hcz43_0, hcz43_1⟩ := c2_ BK147
          have hfz43_0 := blk_frozen BK147.out 0
          have hfz43_1 := blk_frozen BK147.out 1
          go_wp2
          go_roundg kj5
          case measure => have := HK1.out; have := HJ5.out; omega
          case rel => exact ⟨(wrap64 (x3_1 + 1)), rs_, H', ⟨by have := HK1.out; have := HJ5.out; omega⟩, ⟨up_ BK145.out⟩, ⟨up_ HB.out⟩⟩
         ·replace H := itb_ H; rcases H with ⟨rfl, H⟩ | ⟨rfl, H⟩
          ·replace H := ieq_ H; rcases H with ⟨-, c45b0, c45b1, H⟩ | ⟨c45, c45b0, c45b1, H⟩
           ·have H' := Aside0.mk H
            clear H
            have hnb46 := NB147_145.out
            have hnc46 := NB145_147.out
            obtain ⟨hcz47_0, hcz47_1⟩ := c2_ BK147
            have hfz47_0 := blk_frozen BK147.out 0
            have hfz47_1 := blk_frozen BK147.out 1
            go_wp2
            go_roundg kj5
            case measure => have := HK1.out; have := HJ5.out; omega
            case rel => exact ⟨(wrap64 (x3_1 + 1)), rs_, H', ⟨by have := HK1.out; have := HJ5.out; omega⟩, ⟨up_ BK145.out⟩, ⟨up_ HB.out⟩⟩
           ·obtain rfl := Option.some.inj H
            have hnb48 := NB147_145.out
            have hnc48 := NB145_147.out
            obtain ⟨hcz49_0, hcz49_1⟩ := c2_ BK147
            have hfz49_0 := blk_frozen BK147.out 0
            have hfz49_1 := blk_frozen BK147.out 1
            go_wp2
            go_ret
            exact ⟨re_, up_ HB.out⟩
          ·obtain rfl := Option.some.inj H
           have hnb50 := NB147_145.out
           have hnc50 := NB145_147.out
           obtain ⟨hcz51_0, hcz51_1⟩ := c2_ BK147
           have hfz51_0 := blk_frozen BK147.out 0
           have hfz51_1 := blk_frozen BK147.out 1
           go_wp2
           go_ret
           exact ⟨re_, up_ HB.out⟩
   ·by_cases c52 : (l0_0.length : Int) ≤ 16
    ·rw [if_pos c52] at H
     have c52b0 : decide ((l0_0.length : Int) ≤ 16) = true := decide_eq_true c52
     have c52b1 : decide (l0_0.length ≤ 16) = true := decide_eq_true (by omega)
     clear c52
     replace H := bnd_ H; obtain ⟨t153, A53, H⟩ := H
     replace H := bnd_ H; obtain ⟨t154, A54, H⟩ := H
     replace H := itb_ H; rcases H with ⟨rfl, H⟩ | ⟨rfl, H⟩
     ·replace H := bnd_ H; obtain ⟨t155, A56, H⟩ := H
      replace H := bnd_ H; obtain ⟨t156, A57, H⟩ := H
      obtain rfl := Option.some.inj H
      have hcz58_0 := c1_ BK145
      have hfz58_0 := blk_frozen BK145.out 0
      go_wp2_with (first | (go_at_call 84; (with_reducible refine (spec_l6In.calls k1 _ _ l0_0 t153 _ (Kd.C_below HR0_0.out (up_ HB.out)) HC0_0.out A53.out).mono ?_); rintro e w59 ⟨rfl, hb⟩; replace BK145 := bb_ BK145 hb; replace HB := bs_ HB hb; (try clear hb); (try clear hb2); (try clear hk); (try clear hi)) | (go_at_call 57; (with_reducible refine (spec_IsForm.calls k1 t153 true _ A54.out).mono ?_); rintro e w' ⟨rfl, ⟨nd, rfl⟩⟩; have hcz60_0 := c1_ BK145; have hfz60_0 := blk_frozen BK145.out 0) | (go_at_call 87; (with_reducible refine (spec_l6Out.calls k1 _ _ l0_0 t155 _ (Kd.C_below HR0_0.out (up_ HB.out)) HC0_0.out A56.out).mono ?_); rintro e w61 ⟨rfl, hb⟩; replace BK145 := bb_ BK145 hb; replace HB := bs_ HB hb; (try clear hb); (try clear hb2); (try clear hk); (try clear hi)) | (go_at_call 57; (with_reducible refine (spec_IsForm.calls k1 t155 t156 _ A57.out).mono ?_); rintro e w' ⟨rfl, ⟨nd, rfl⟩⟩))
      go_ret
      exact ⟨re_, up_ HB.out⟩
     ·obtain rfl := Option.some.inj H
      have hcz62_0 := c1_ BK145
      have hfz62_0 := blk_frozen BK145.out 0
      go_wp2_with (first | (go_at_call 84; (with_reducible refine (spec_l6In.calls k1 _ _ l0_0 t153 _ (Kd.C_below HR0_0.out (up_ HB.out)) HC0_0.out A53.out).mono ?_); rintro e w63 ⟨rfl, hb⟩; replace BK145 := bb_ BK145 hb; replace HB := bs_ HB hb; (try clear hb); (try clear hb2); (try clear hk); (try clear hi)) | (go_at_call 57; (with_reducible refine (spec_IsForm.calls k1 t153 false _ A54.out).mono ?_); rintro e w' ⟨rfl, ⟨nd, rfl⟩⟩))
      go_ret
      exact ⟨re_, up_ HB.out⟩
    ·rw [if_neg c52] at H
     have c52b0 : decide ((l0_0.length : Int) ≤ 16) = false := decide_eq_false c52
     have c52b1 : decide (l0_0.length ≤ 16) = false := decide_eq_false (by omega)
     clear c52
     obtain rfl := Option.some.inj H
     have hcz64_0 := c1_ BK145
     have hfz64_0 := blk_frozen BK145.out 0
     go_wp2
     go_ret
     exact ⟨re_, up_ HB.out⟩

/-! ### spec_OutputOf: function 97 -/
def spec_OutputOf.f (k : Nat) (l0_0 : List (S70)) : Option (ByteArray) := (spec_IsCandidate.f k l0_0).bind fun t158 => (if t158 = true then ((spec_l6Out.f k l0_0).bind fun t159 => (some t159)) else (some (⟨#[]⟩ : ByteArray)))
set_option maxHeartbeats 8000000 in
set_option maxRecDepth 100000 in
theorem spec_OutputOf.calls (k : Nat) (A0_0 : Option Addr) (c0_0 : Nat) (l0_0 : List (S70)) (r : ByteArray) (w : World) (hr0_0 : Kd.C k70 w A0_0 l0_0.length l0_0) (hc0_0 : l0_0.length ≤ c0_0) (h : spec_OutputOf.f k l0_0 = some r) :
  Calls Tryz.prog 97 #[.agg #[.slice A0_0 l0_0.length c0_0]] w fun e w' => e = .returned (.string r) ∧ Below w.heap.size w w' := by
 have hu50 := Tryz.underlying50
 have HR0_0 := Aside0.mk hr0_0
 have HC0_0 := Aside0.mk hc0_0
 clear hr0_0 hc0_0
 have HB := Aside0.mk (Below.refl w.heap.size w)
 have H : ((spec_IsCandidate.f k l0_0).bind fun t158 => (if t158 = true then ((spec_l6Out.f k l0_0).bind fun t159 => (some t159)) else (some (⟨#[]⟩ : ByteArray)))) = some r := h
 clear h
 replace H := bnd_ H; obtain ⟨t158, A2, H⟩ := H
 replace H := itb_ H; rcases H with ⟨rfl, H⟩ | ⟨rfl, H⟩
 ·replace H := bnd_ H; obtain ⟨t159, A4, H⟩ := H
  obtain rfl := Option.some.inj H
  go_enter Tryz.func97, Tryz.ntmps97
  go_wp2_with (first | ((refine gd_ 1 ?_); refine bx_ 1 #[.slice A0_0 l0_0.length c0_0] 50 ?_; intro gb157 hg w5 hbox hb; have BK157 := Aside0.mk (hbox); have GW157 := gw_ HB hg; have GE157 := gw_ HB hg; replace HB := bs_ HB hb; clear hb hbox hg; have hcz6_0 := c1_ BK157; have hfz6_0 := blk_frozen BK157.out 0) | ((refine gc_ 60 ?_); refine gl_ (some 4) Tryz.func60 (spec_IsCandidate.calls k _ _ l0_0 true _ (Kd.C_below HR0_0.out (up_ HB.out)) HC0_0.out A2.out) ?_; rintro e w7 ⟨rfl, hb⟩; refine ⟨_, rfl, ?_⟩; replace BK157 := bb_ BK157 hb; replace HB := bs_ HB hb; (try clear hb); (try clear hb2); (try clear hk); (try clear hi); have hcz8_0 := c1_ BK157; have hfz8_0 := blk_frozen BK157.out 0) | ((refine gc_ 87 ?_); refine gl_ (some 7) Tryz.func87 (spec_l6Out.calls k _ _ l0_0 t159 _ (Kd.C_below HR0_0.out (up_ HB.out)) HC0_0.out A4.out) ?_; rintro e w9 ⟨rfl, hb⟩; refine ⟨_, rfl, ?_⟩; replace BK157 := bb_ BK157 hb; replace HB := bs_ HB hb; (try clear hb); (try clear hb2); (try clear hk); (try clear hi)))
  go_ret
  exact ⟨re_, up_ HB.out⟩
 ·obtain rfl := Option.some.inj H
  go_enter Tryz.func97, Tryz.ntmps97
  go_wp2_with (first | ((refine gd_ 1 ?_); refine bx_ 1 #[.slice A0_0 l0_0.length c0_0] 50 ?_; intro gb157 hg w10 hbox hb; have BK157 := Aside0.mk (hbox); have GW157 := gw_ HB hg; have GE157 := gw_ HB hg; replace HB := bs_ HB hb; clear hb hbox hg; have hcz11_0 := c1_ BK157; have hfz11_0 := blk_frozen BK157.out 0) | ((refine gc_ 60 ?_); refine gl_ (some 4) Tryz.func60 (spec_IsCandidate.calls k _ _ l0_0 false _ (Kd.C_below HR0_0.out (up_ HB.out)) HC0_0.out A2.out) ?_; rintro e w12 ⟨rfl, hb⟩; refine ⟨_, rfl, ?_⟩; replace BK157 := bb_ BK157 hb; replace HB := bs_ HB hb; (try clear hb); (try clear hb2); (try clear hk); (try clear hi)))
  go_ret
  exact ⟨re_, up_ HB.out⟩

/-! ### spec_HasFeature: function 130 -/
def spec_HasFeature.f (a0 : Int) (a1 : Int) : Option (Bool) := if a1 = 0 then (if a0 = 97 then (some true) else (some (a0 == 105))) else (if a1 = 1 then (if a0 = 98 then (some true) else (if a0 = 100 then (some true) else (if a0 = 110 then (some true) else (if a0 = 97 then (some true) else (some (a0 == 105)))))) else (if a1 = 2 then (some (a0 == 110)) else (if a1 = 3 then (if a0 = 112 then (some true) else (some (a0 == 98))) else (if a1 = 4 then (some (a0 == 105)) else (some false)))))
set_option maxHeartbeats 8000000 in
set_option maxRecDepth 100000 in
theorem spec_HasFeature.calls (a0 : Int) (a1 : Int) (r : Bool) (w : World) (h : spec_HasFeature.f a0 a1 = some r) :
  Calls Tryz.prog 130 #[.int .u8 a0, .int .i64 a1] w fun e w' => e = .returned (.bool r) ∧ Drawn0 w w' := by
 have H : (if a1 = 0 then (if a0 = 97 then (some true) else (some (a0 == 105))) else (if a1 = 1 then (if a0 = 98 then (some true) else (if a0 = 100 then (some true) else (if a0 = 110 then (some true) else (if a0 = 97 then (some true) else (some (a0 == 105)))))) else (if a1 = 2 then (some (a0 == 110)) else (if a1 = 3 then (if a0 = 112 then (some true) else (some (a0 == 98))) else (if a1 = 4 then (some (a0 == 105)) else (some false)))))) = some r := h
 clear h
 replace H := ieq_ H; rcases H with ⟨-, c3b0, c3b1, H⟩ | ⟨c3, c3b0, c3b1, H⟩
 ·replace H := ieq_ H; rcases H with ⟨-, c4b0, c4b1, H⟩ | ⟨c4, c4b0, c4b1, H⟩
  ·obtain rfl := Option.some.inj H
   go_enter Tryz.func130, Tryz.ntmps130
   go_wp2
   go_ret
   exact ⟨rs_, dn_⟩
  ·obtain rfl := Option.some.inj H
   go_enter Tryz.func130, Tryz.ntmps130
   go_wp2
   go_ret
   exact ⟨rs_, dn_⟩
 ·replace H := ieq_ H; rcases H with ⟨-, c5b0, c5b1, H⟩ | ⟨c5, c5b0, c5b1, H⟩
  ·replace H := ieq_ H; rcases H with ⟨-, c6b0, c6b1, H⟩ | ⟨c6, c6b0, c6b1, H⟩
   ·obtain rfl := Option.some.inj H
    go_enter Tryz.func130, Tryz.ntmps130
    go_wp2
    go_ret
    exact ⟨rs_, dn_⟩
   ·replace H := ieq_ H; rcases H with ⟨-, c7b0, c7b1, H⟩ | ⟨c7, c7b0, c7b1, H⟩
    ·obtain rfl := Option.some.inj H
     go_enter Tryz.func130, Tryz.ntmps130
     go_wp2
     go_ret
     exact ⟨rs_, dn_⟩
    ·replace H := ieq_ H; rcases H with ⟨-, c8b0, c8b1, H⟩ | ⟨c8, c8b0, c8b1, H⟩
     ·obtain rfl := Option.some.inj H
      go_enter Tryz.func130, Tryz.ntmps130
      go_wp2
      go_ret
      exact ⟨rs_, dn_⟩
     ·replace H := ieq_ H; rcases H with ⟨-, c9b0, c9b1, H⟩ | ⟨c9, c9b0, c9b1, H⟩
      ·obtain rfl := Option.some.inj H
       go_enter Tryz.func130, Tryz.ntmps130
       go_wp2
       go_ret
       exact ⟨rs_, dn_⟩
      ·obtain rfl := Option.some.inj H
       go_enter Tryz.func130, Tryz.ntmps130
       go_wp2
       go_ret
       exact ⟨rs_, dn_⟩
  ·replace H := ieq_ H; rcases H with ⟨-, c10b0, c10b1, H⟩ | ⟨c10, c10b0, c10b1, H⟩
   ·obtain rfl := Option.some.inj H
    go_enter Tryz.func130, Tryz.ntmps130
    go_wp2
    go_ret
    exact ⟨rs_, dn_⟩
   ·replace H := ieq_ H; rcases H with ⟨-, c11b0, c11b1, H⟩ | ⟨c11, c11b0, c11b1, H⟩
    ·replace H := ieq_ H; rcases H with ⟨-, c12b0, c12b1, H⟩ | ⟨c12, c12b0, c12b1, H⟩
     ·obtain rfl := Option.some.inj H
      go_enter Tryz.func130, Tryz.ntmps130
      go_wp2
      go_ret
      exact ⟨rs_, dn_⟩
     ·obtain rfl := Option.some.inj H
      go_enter Tryz.func130, Tryz.ntmps130
      go_wp2
      go_ret
      exact ⟨rs_, dn_⟩
    ·replace H := ieq_ H; rcases H with ⟨-, c13b0, c13b1, H⟩ | ⟨c13, c13b0, c13b1, H⟩
     ·obtain rfl := Option.some.inj H
      go_enter Tryz.func130, Tryz.ntmps130
      go_wp2
      go_ret
      exact ⟨rs_, dn_⟩
     ·obtain rfl := Option.some.inj H
      go_enter Tryz.func130, Tryz.ntmps130
      go_wp2
      go_ret
      exact ⟨rs_, dn_⟩

/-! ### spec_IsVowelAt: function 128 -/
def spec_IsVowelAt.f (a0 : ByteArray) (a1 : Int) : Option (Bool) := if a1 ≥ 0 then (if a1 < (a0.size : Int) then (if 0 ≤ a1 then ((spec_HasFeature.f (bt a0 a1) 0).bind fun t160 => (some t160)) else (none)) else (some false)) else (some false)
set_option maxHeartbeats 8000000 in
set_option maxRecDepth 100000 in
theorem spec_IsVowelAt.calls (a0 : ByteArray) (a1 : Int) (r : Bool) (w : World) (h : spec_IsVowelAt.f a0 a1 = some r) :
  Calls Tryz.prog 128 #[.string a0, .int .i64 a1] w fun e w' => e = .returned (.bool r) ∧ Drawn0 w w' := by
 have H : (if a1 ≥ 0 then (if a1 < (a0.size : Int) then (if 0 ≤ a1 then ((spec_HasFeature.f (bt a0 a1) 0).bind fun t160 => (some t160)) else (none)) else (some false)) else (some false)) = some r := h
 clear h
 by_cases c3 : a1 ≥ 0
 ·rw [if_pos c3] at H
  have c3b0 : decide (0 ≤ a1) = true := decide_eq_true c3
  clear c3
  replace H := its_ H; rcases H with ⟨c4b0, H⟩ | ⟨c4b0, H⟩
  ·replace H := its_ H; rcases H with ⟨c5b0, H⟩ | ⟨_, ⟨⟩⟩
   replace H := bnd_ H; obtain ⟨t160, A7, H⟩ := H
   obtain rfl := Option.some.inj H
   have p6 : 0 ≤ (a1 : Int) := od_
   have q6 : a1 < (a0.size : Int) := od_
   have hx6 := bt_at a0 a1
   replace p6 := eq_true p6
   replace q6 := eq_true q6
   go_enter Tryz.func128, Tryz.ntmps128
   go_wp2_with (first | (go_at_call 130; (with_reducible refine (spec_HasFeature.calls (bt a0 a1) 0 t160 _ A7.out).mono ?_); rintro e w' ⟨rfl, ⟨nd, rfl⟩⟩))
   go_ret
   exact ⟨rs_, dn_⟩
  ·obtain rfl := Option.some.inj H
   go_enter Tryz.func128, Tryz.ntmps128
   go_wp2
   go_ret
   exact ⟨rs_, dn_⟩
 ·rw [if_neg c3] at H
  have c3b0 : decide (0 ≤ a1) = false := decide_eq_false c3
  clear c3
  obtain rfl := Option.some.inj H
  go_enter Tryz.func128, Tryz.ntmps128
  go_wp2
  go_ret
  exact ⟨rs_, dn_⟩

end Go.Proofs.YtkddpilambnicaaGreat.PFnExactDifferencesFor
