/- Walks of Go functions that the law FnExactFootRows uses: written by this session's program out of the kit's printer; each shows that a call comes to the answers of the Lean function beside it. Conditions: each contract's own. -/
import Derived.Test.YtkddpilambnicaaPFnExactFootRowsx0
import Derived.Test.YtkddpilambnicaaPFnExactFootRowsx2
namespace Go.Proofs.Ytkddpilambnicaa.PFnExactFootRows
open Go.RowKit Go.Proofs.YtkddpilambnicaaW.PrintWords Go.Proofs.YtkddpilambnicaaW.PrintLast Go.Proofs.YtkddpilambnicaaW.PrintMore Go.Proofs.Ytkddpilambnicaa.Mac Go.Proofs.Ytkddpilambnicaa.Law
attribute [local go_sem] max2_int min2_int max_two min_two max_three min_three max_four min_four   -- for this text's walks alone
set_option linter.unusedVariables false
set_option linter.unusedSimpArgs false

/-! ### spec_RowOf: function 123 -/
mutual
def spec_RowOf.j0 : Nat → List Int → List Int → Bool → Option (List Int × Bool)
 | 0, _, _, _ => none
 | k + 1, x0, x1, x19 => if x19 = true then (some (([] : List Int), false)) else (spec_RowOf.l0 k x0 x1 0 ([] : List Int))
def spec_RowOf.l0 : Nat → List Int → List Int → Int → List Int → Option (List Int × Bool)
 | 0, _, _, _, _ => none
 | k + 1, x0, x1, x7, x186000 => if x7 < (x0.length : Int) then (if 0 ≤ x7 then (if x7 < (x1.length : Int) then (if (rd x0 x7) < (rd x1 x7) then (if x186000.length < 17592186044416 then (spec_RowOf.l0 k x0 x1 (wrap64 (x7 + 1)) (x186000 ++ [1])) else (none)) else (if (rd x0 x7) > (rd x1 x7) then (if x186000.length < 17592186044416 then (spec_RowOf.l0 k x0 x1 (wrap64 (x7 + 1)) (x186000 ++ [(-1)])) else (none)) else (if x186000.length < 17592186044416 then (spec_RowOf.l0 k x0 x1 (wrap64 (x7 + 1)) (x186000 ++ [0])) else (none)))) else (none)) else (none)) else (some (x186000, true))
end
def spec_RowOf.f (k : Nat) (l0 : List Int) (l1 : List Int) : Option (List Int × Bool) := if (l0.length : Int) = (l1.length : Int) then ((spec_l1In.f (l0.length : Int) 1 5).bind fun t186 => (spec_RowOf.j0 k l0 l1 (!t186))) else (spec_RowOf.j0 k l0 l1 true)
set_option maxHeartbeats 8000000 in
set_option maxRecDepth 100000 in
theorem spec_RowOf.calls (k : Nat) (A0 : Option Addr) (c0 : Nat) (l0 : List Int) (A1 : Option Addr) (c1 : Nat) (l1 : List Int) (r1 : List Int) (r2 : Bool) (w : World) (hr0 : Kd.C (Kd.int .i64) w A0 l0.length l0) (hc0 : l0.length ≤ c0) (hr1 : Kd.C (Kd.int .i64) w A1 l1.length l1) (hc1 : l1.length ≤ c1) (h : spec_RowOf.f k l0 l1 = some (r1, r2)) :
  Calls Try.prog 123 #[.slice A0 l0.length c0, .slice A1 l1.length c1] w fun e w' => ∃ v0_ : Value, e = .returned (.tuple #[.agg #[v0_], .bool r2]) ∧ Kd.R (Kd.int .i64) 3 w' w.heap.size (fun _ => True) v0_ r1 ∧ Below w.heap.size w w' := by
 have hu34 := Try.underlying34
 have HR0 := Aside0.mk hr0
 have HC0 := Aside0.mk hc0
 clear hr0 hc0
 have HR1 := Aside0.mk hr1
 have HC1 := Aside0.mk hc1
 clear hr1 hc1
 have HB := Aside0.mk (Below.refl w.heap.size w)
 have H : (if (l0.length : Int) = (l1.length : Int) then ((spec_l1In.f (l0.length : Int) 1 5).bind fun t186 => (spec_RowOf.j0 k l0 l1 (!t186))) else (spec_RowOf.j0 k l0 l1 true)) = some (r1, r2) := h
 clear h
 have HC3 := Aside0.mk H
 clear H
 go_enter Try.func123, Try.ntmps123
 go_upto_region 2 with (first | ((with_reducible refine gd_ 4 ?_); (try (refine gate_guard (by rfl) ?_; dsimp only)); refine bx_ 4 #[.slice none 0 0] 34 ?_; intro gb184 hg w4 hbox hb; have BK184 := Aside0.mk (hbox); have GW184 := gw_ HB hg; have GE184 := gw_ HB hg; replace HB := bs_ HB hb; clear hb hbox hg) | ((with_reducible refine gd_ 6 ?_); (try (refine gate_guard (by rfl) ?_; dsimp only)); refine bx_ 6 #[.slice none 0 0] 34 ?_; intro gb185 hg w5 hbox hb; have BK185 := Aside0.mk (hbox); have GW185 := gw_ HB hg; have GE185 := gw_ HB hg; replace HB := bs_ HB hb; have NB184_185 := Aside0.mk ((by rw [hg]; exact Nat.ne_of_lt (blk_lt (g := gb184) (o := .cells #[.slice none 0 0] 34 (0, 0)) (up_ BK184.out)) : gb184 ≠ gb185)); have NB185_184 := Aside0.mk ((by rw [hg]; exact Nat.ne_of_gt (blk_lt (g := gb184) (o := .cells #[.slice none 0 0] 34 (0, 0)) (up_ BK184.out)) : gb185 ≠ gb184)); replace BK184 := bb_ BK184 hb; clear hb hbox hg; have hnb6 := NB185_184.out; have hnc6 := NB184_185.out; have hcz7_0 := c1_ BK185; have hfz7_0 := blk_frozen BK185.out 0))
 repeat (go_quiet (first | ((with_reducible refine gd_ 4 ?_); (try (refine gate_guard (by rfl) ?_; dsimp only)); refine bx_ 4 #[.slice none 0 0] 34 ?_; intro gb184 hg w4 hbox hb; have BK184 := Aside0.mk (hbox); have GW184 := gw_ HB hg; have GE184 := gw_ HB hg; replace HB := bs_ HB hb; clear hb hbox hg) | ((with_reducible refine gd_ 6 ?_); (try (refine gate_guard (by rfl) ?_; dsimp only)); refine bx_ 6 #[.slice none 0 0] 34 ?_; intro gb185 hg w5 hbox hb; have BK185 := Aside0.mk (hbox); have GW185 := gw_ HB hg; have GE185 := gw_ HB hg; replace HB := bs_ HB hb; have NB184_185 := Aside0.mk ((by rw [hg]; exact Nat.ne_of_lt (blk_lt (g := gb184) (o := .cells #[.slice none 0 0] 34 (0, 0)) (up_ BK184.out)) : gb184 ≠ gb185)); have NB185_184 := Aside0.mk ((by rw [hg]; exact Nat.ne_of_gt (blk_lt (g := gb184) (o := .cells #[.slice none 0 0] 34 (0, 0)) (up_ BK184.out)) : gb185 ≠ gb184)); replace BK184 := bb_ BK184 hb; clear hb hbox hg; have hnb6 := NB185_184.out; have hnc6 := NB184_185.out; have hcz7_0 := c1_ BK185; have hfz7_0 := blk_frozen BK185.out 0)); go_upto_region 2 with (first | ((with_reducible refine gd_ 4 ?_); (try (refine gate_guard (by rfl) ?_; dsimp only)); refine bx_ 4 #[.slice none 0 0] 34 ?_; intro gb184 hg w4 hbox hb; have BK184 := Aside0.mk (hbox); have GW184 := gw_ HB hg; have GE184 := gw_ HB hg; replace HB := bs_ HB hb; clear hb hbox hg) | ((with_reducible refine gd_ 6 ?_); (try (refine gate_guard (by rfl) ?_; dsimp only)); refine bx_ 6 #[.slice none 0 0] 34 ?_; intro gb185 hg w5 hbox hb; have BK185 := Aside0.mk (hbox); have GW185 := gw_ HB hg; have GE185 := gw_ HB hg; replace HB := bs_ HB hb; have NB184_185 := Aside0.mk ((by rw [hg]; exact Nat.ne_of_lt (blk_lt (g := gb184) (o := .cells #[.slice none 0 0] 34 (0, 0)) (up_ BK184.out)) : gb184 ≠ gb185)); have NB185_184 := Aside0.mk ((by rw [hg]; exact Nat.ne_of_gt (blk_lt (g := gb184) (o := .cells #[.slice none 0 0] 34 (0, 0)) (up_ BK184.out)) : gb185 ≠ gb184)); replace BK184 := bb_ BK184 hb; clear hb hbox hg; have hnb6 := NB185_184.out; have hnc6 := NB184_185.out; have hcz7_0 := c1_ BK185; have hfz7_0 := blk_frozen BK185.out 0)))
 (try simp only [Act.put, List.setIfInBounds_toArray, List.set_cons_zero, List.set_cons_succ])
 go_cut [19] (fun v19 wc => ∃ (kq : Nat) (x19_2 : Bool), v19 = .bool x19_2 ∧ Aside0 (spec_RowOf.j0 kq l0 l1 x19_2 = some (r1, r2)) ∧ Aside0 (kq ≤ k) ∧ Aside0 (wc.heap[gb184]? = some (.cells #[(.slice none 0 0)] 34 (0, 0))) ∧ Aside0 (wc.heap[gb185]? = some (.cells #[(.slice none 0 0)] 34 (0, 0))) ∧ Aside0 (Below w.heap.size w wc))
 case first =>
  have H := HC3.out
  clear HC3
  replace H := ieq_ H; rcases H with ⟨c8, c8b0, c8b1, H⟩ | ⟨c8, c8b0, c8b1, H⟩
  ·have c8b2 : (l0.length == l1.length) = true := by first | simpa using c8 | (simp at c8 ⊢; omega)
   clear c8
   (first | rw [c8b0] | (simp only [i64_w, i32_w]; rw [c8b0]) | skip)
   replace H := Option.bind_eq_some_iff.mp H
   obtain ⟨t186, A90, H⟩ := H
   replace H : (spec_RowOf.j0 k l0 l1 (!t186)) = some (r1, r2) := H
   have A9 := Aside0.mk A90
   clear A90
   have H' := Aside0.mk H
   clear H
   go_wp2_with (first | (go_at_call 95; (with_reducible refine (spec_l1In.calls (l0.length : Int) 1 5 t186 _ A9.out).mono ?_); rintro e w' ⟨rfl, ⟨nd, rfl⟩⟩; (try first | exact ⟨rfl, _, World.drewN_drewN _ _ _⟩ | exact ⟨rfl, _, Eq.trans (World.drewN_drewN _ _ _) (congrArg (World.drewN _) (Nat.add_assoc _ _ _))⟩)))
   repeat (go_quiet (first | (go_at_call 95; (with_reducible refine (spec_l1In.calls (l0.length : Int) 1 5 t186 _ A9.out).mono ?_); rintro e w' ⟨rfl, ⟨nd, rfl⟩⟩; (try first | exact ⟨rfl, _, World.drewN_drewN _ _ _⟩ | exact ⟨rfl, _, Eq.trans (World.drewN_drewN _ _ _) (congrArg (World.drewN _) (Nat.add_assoc _ _ _))⟩))); try go_wp2_with (first | (go_at_call 95; (with_reducible refine (spec_l1In.calls (l0.length : Int) 1 5 t186 _ A9.out).mono ?_); rintro e w' ⟨rfl, ⟨nd, rfl⟩⟩; (try first | exact ⟨rfl, _, World.drewN_drewN _ _ _⟩ | exact ⟨rfl, _, Eq.trans (World.drewN_drewN _ _ _) (congrArg (World.drewN _) (Nat.add_assoc _ _ _))⟩))))
   go_meet
   case rel => exact ⟨_, (!t186), rs_, H', ⟨by first | omega | exact Nat.le_refl _⟩, ⟨by (with_reducible repeat (first | refine blk_drewN ?_ _ | refine blk_drew ?_ | refine blk_alloc ?_ _)); refine blk_far ?_ NB184_185.out _; (with_reducible repeat (first | refine blk_drewN ?_ _ | refine blk_drew ?_ | refine blk_alloc ?_ _)); exact BK184.out⟩, ⟨by (with_reducible repeat (first | refine blk_drewN ?_ _ | refine blk_drew ?_ | refine blk_alloc ?_ _)); refine blk_put (cs := #[.slice none 0 0]) ?_ 0 _ rfl; (with_reducible repeat (first | refine blk_drewN ?_ _ | refine blk_drew ?_ | refine blk_alloc ?_ _)); exact BK185.out⟩, ⟨up_ HB.out⟩⟩
  ·have c8b2 : (l0.length == l1.length) = false := by first | simpa using c8 | (simp at c8 ⊢; omega)
   (first | rw [c8b0] | (simp only [i64_w, i32_w]; rw [c8b0]) | skip)
   have H' := Aside0.mk H
   clear H
   go_wp2
   repeat (go_quiet (fail); try go_wp2)
   go_meet
   case rel => exact ⟨_, (true), rs_, H', ⟨by first | omega | exact Nat.le_refl _⟩, ⟨by (with_reducible repeat (first | refine blk_drewN ?_ _ | refine blk_drew ?_ | refine blk_alloc ?_ _)); refine blk_far ?_ NB184_185.out _; (with_reducible repeat (first | refine blk_drewN ?_ _ | refine blk_drew ?_ | refine blk_alloc ?_ _)); exact BK184.out⟩, ⟨by (with_reducible repeat (first | refine blk_drewN ?_ _ | refine blk_drew ?_ | refine blk_alloc ?_ _)); refine blk_put (cs := #[.slice none 0 0]) ?_ 0 _ rfl; (with_reducible repeat (first | refine blk_drewN ?_ _ | refine blk_drew ?_ | refine blk_alloc ?_ _)); exact BK185.out⟩, ⟨up_ HB.out⟩⟩
 case rest =>
  clear HC3
  try clear c1
  try clear p2
  try clear c6
  try clear c8
  try clear c8b0
  try clear c8b1
  try clear c8b2
  try clear hcz7_0
  try clear hfz7_0
  obtain ⟨kq, x19_2, rfl, HA, HJ2, BK184, BK185, HB⟩ := hcut
  cases kq with
  | zero => exact absurd HA.out (by simp [spec_RowOf.j0])
  | succ kj2 =>
   have H := HA.out
   clear HA
   simp only [spec_RowOf.j0] at H
   replace H := itb_ H; rcases H with ⟨rfl, H⟩ | ⟨rfl, H⟩
   ·simp only [Option.some.injEq, Prod.mk.injEq] at H
    obtain ⟨rfl, rfl⟩ := H
    have hnb11 := NB185_184.out
    have hnc11 := NB184_185.out
    have hcz12_0 := c1_ BK185
    have hfz12_0 := blk_frozen BK185.out 0
    have hcz13_0 := c1_ BK184
    have hfz13_0 := blk_frozen BK184.out 0
    go_wp2
    repeat (go_quiet (fail); try go_wp2)
    refine bodyPost_ret (results_ct rfl _ _ gb184 34 #[.slice none 0 0] (0, 0) _ rfl (by (with_reducible repeat (first | refine blk_drewN ?_ _ | refine blk_drew ?_ | refine blk_alloc ?_ _)); refine blk_put (cs := #[.slice none 0 0]) ?_ 0 _ rfl; (with_reducible repeat (first | refine blk_drewN ?_ _ | refine blk_drew ?_ | refine blk_alloc ?_ _)); exact BK184.out) Try.underlying34 rfl (by kernel_rfl)) rfl ?_
    exact ⟨_, re_, by first | exact Kd.R_nil _ _ _ _ _ | exact Kd.N_nil _ _ _ _ _ | exact Kd.V_nil _ _ _ _ _ | exact Kd.Q_nil _ _ _ _ _ | exact Kd.S_nil _ _ _ _ _, up_ HB.out⟩
   ·have H' := Aside0.mk H
    clear H
    go_wp2
    repeat (go_quiet (fail); try go_wp2)
    go_loopg [7] kj2 (fun kq v7 w' => ∃ (x7_2 : Int) (x186000_2 : List Int) (u186000 : Value), v7 = .int .i64 x7_2 ∧ Aside0 (spec_RowOf.l0 kq l0 l1 x7_2 x186000_2 = some (r1, r2)) ∧ Aside0 (kq ≤ kj2) ∧ Aside0 (Kd.R (Kd.int .i64) 3 w' w.heap.size (fun _ => True) u186000 x186000_2) ∧ Aside0 (w'.heap[gb184]? = some (.cells #[(.slice none 0 0)] 34 (0, 0))) ∧ Aside0 (w'.heap[gb185]? = some (.cells #[u186000] 34 (0, 0))) ∧ Aside0 (Below w.heap.size w w'))
    case atStart => exact ⟨(0), (([] : List Int)), (.slice none 0 0), rs_, H', ⟨Nat.le_refl _⟩, ⟨by first | exact Kd.R_nil _ _ _ _ _ | exact Kd.N_nil _ _ _ _ _ | exact Kd.V_nil _ _ _ _ _ | exact Kd.Q_nil _ _ _ _ _ | exact Kd.S_nil _ _ _ _ _⟩, ⟨up_ BK184.out⟩, ⟨up_ BK185.out⟩, ⟨up_ HB.out⟩⟩
    case round =>
     clear H'
     try clear c1
     try clear p2
     try clear c6
     try clear c8
     try clear c8b0
     try clear c8b1
     try clear c8b2
     try clear c10
     try clear c11
     try clear c12
     try clear hcz12_0
     try clear hcz13_0
     try clear hcz7_0
     try clear hfz12_0
     try clear hfz13_0
     try clear hfz7_0
     try clear p2
     obtain ⟨x7_2, x186000_2, u186000, rfl, HA, HK2, HO_186000, BK184, BK185, HB⟩ := hrel
     cases gk with
     | zero => exact absurd HA.out (by simp [spec_RowOf.l0])
     | succ k2 =>
      have H := HA.out
      clear HA
      simp only [spec_RowOf.l0] at H
      replace H := its_ H; rcases H with ⟨c14b0, H⟩ | ⟨c14b0, H⟩
      ·replace H := its_ H; rcases H with ⟨c15b0, H⟩ | ⟨_, ⟨⟩⟩
       replace H := its_ H; rcases H with ⟨c16b0, H⟩ | ⟨_, ⟨⟩⟩
       replace H := its_ H; rcases H with ⟨c17b0, H⟩ | ⟨c17b0, H⟩
       ·by_cases c18 : x186000_2.length < 17592186044416
        ·rw [if_pos c18] at H
         have LMc18 := Aside0.mk c18
         clear c18
         obtain ⟨y189, hy189⟩ : ∃ y_ : List Int, y_ = (x186000_2 ++ [1]) := ⟨_, rfl⟩
         replace H : (spec_RowOf.l0 k2 l0 l1 (wrap64 (x7_2 + 1)) y189) = some (r1, r2) := rh_ hy189 H
         have Ny189 := Aside0.mk hy189
         clear hy189
         have H' := Aside0.mk H
         clear H
         have p187 : 0 ≤ (x7_2 : Int) := od_
         have q187 : x7_2 < (l0.length : Int) := od_
         obtain ⟨ad187, e187, hx187_0⟩ := Kd.at_int HR0.out x7_2 p187 q187
         cases e187
         replace hx187_0 := bh_ HB hx187_0
         replace p187 := eq_true p187
         replace q187 := eq_true q187
         have p188 : 0 ≤ (x7_2 : Int) := od_
         have q188 : x7_2 < (l1.length : Int) := od_
         obtain ⟨ad188, e188, hx188_0⟩ := Kd.at_int HR1.out x7_2 p188 q188
         cases e188
         replace hx188_0 := bh_ HB hx188_0
         replace p188 := eq_true p188
         replace q188 := eq_true q188
         have hnb19 := NB185_184.out
         have hnc19 := NB184_185.out
         have hcz20_0 := c1_ BK185
         have hfz20_0 := blk_frozen BK185.out 0
         go_wp2_with (first | ((with_reducible refine gate_builtin (b := .append) (xs := #[.tmp 43, .tmp 44]) rfl ?_); (try (refine gate_guard (by rfl) ?_; dsimp only)); at_builtin; refine Kd.R_append (Kd.int .i64) (w0 := w) w.heap.size rfl (.tmp 43) (.tmp 44) 25 3 (.int .i64 0) 8 rfl Try.underlying25 info3 rfl (by decide) (by omega) u186000 x186000_2 1 [.int .i64 1] (fun _ => True) (fun _ => False) rfl rfl ?aP (fun _ hk => hk.elim) ?aF ?aO ?aB ?aS ?aL ?_; (case aP => exact rfl); (case aB => exact (up_ HB.out)); (case aF => exact (fun _ _ => trivial)); (case aO => exact (up_ HO_186000.out)); (case aS => exact (below_size (up_ HB.out))); (case aL => have := LMc18.out; omega); intro v190 w21 ho hb hg hat; rw [← Ny189.out] at ho; have n0_ := Aside0.mk (blk_grown (g := gb184) (o := .cells #[.slice none 0 0] 34 (0, 0)) (up_ BK184.out) hg (Kd.R_ne HO_186000.out BK184.out (by decide))); have n1_ := Aside0.mk (blk_grown (g := gb185) (o := .cells #[u186000] 34 (0, 0)) (up_ BK185.out) hg (Kd.R_ne HO_186000.out BK185.out (by decide))); have n2_ := Aside0.mk (hb); have n3_ := Aside0.mk (ho); clear BK184; clear BK185; clear HB; clear HO_186000; have BK184 := n0_; have BK185 := n1_; have HB := n2_; have HO191 := n3_; clear n0_ n1_ n2_ n3_; clear ho hb hg hat; obtain ⟨Ao22, co22, eo22⟩ := Kd.R_slice HO191.out; subst eo22; have hcz23_0 := c1_ BK185; have hfz23_0 := blk_frozen BK185.out 0))
         repeat (go_quiet (first | ((with_reducible refine gate_builtin (b := .append) (xs := #[.tmp 43, .tmp 44]) rfl ?_); (try (refine gate_guard (by rfl) ?_; dsimp only)); at_builtin; refine Kd.R_append (Kd.int .i64) (w0 := w) w.heap.size rfl (.tmp 43) (.tmp 44) 25 3 (.int .i64 0) 8 rfl Try.underlying25 info3 rfl (by decide) (by omega) u186000 x186000_2 1 [.int .i64 1] (fun _ => True) (fun _ => False) rfl rfl ?aP (fun _ hk => hk.elim) ?aF ?aO ?aB ?aS ?aL ?_; (case aP => exact rfl); (case aB => exact (up_ HB.out)); (case aF => exact (fun _ _ => trivial)); (case aO => exact (up_ HO_186000.out)); (case aS => exact (below_size (up_ HB.out))); (case aL => have := LMc18.out; omega); intro v190 w21 ho hb hg hat; rw [← Ny189.out] at ho; have n0_ := Aside0.mk (blk_grown (g := gb184) (o := .cells #[.slice none 0 0] 34 (0, 0)) (up_ BK184.out) hg (Kd.R_ne HO_186000.out BK184.out (by decide))); have n1_ := Aside0.mk (blk_grown (g := gb185) (o := .cells #[u186000] 34 (0, 0)) (up_ BK185.out) hg (Kd.R_ne HO_186000.out BK185.out (by decide))); have n2_ := Aside0.mk (hb); have n3_ := Aside0.mk (ho); clear BK184; clear BK185; clear HB; clear HO_186000; have BK184 := n0_; have BK185 := n1_; have HB := n2_; have HO191 := n3_; clear n0_ n1_ n2_ n3_; clear ho hb hg hat; obtain ⟨Ao22, co22, eo22⟩ := Kd.R_slice HO191.out; subst eo22; have hcz23_0 := c1_ BK185; have hfz23_0 := blk_frozen BK185.out 0)); try go_wp2_with (first | ((with_reducible refine gate_builtin (b := .append) (xs := #[.tmp 43, .tmp 44]) rfl ?_); (try (refine gate_guard (by rfl) ?_; dsimp only)); at_builtin; refine Kd.R_append (Kd.int .i64) (w0 := w) w.heap.size rfl (.tmp 43) (.tmp 44) 25 3 (.int .i64 0) 8 rfl Try.underlying25 info3 rfl (by decide) (by omega) u186000 x186000_2 1 [.int .i64 1] (fun _ => True) (fun _ => False) rfl rfl ?aP (fun _ hk => hk.elim) ?aF ?aO ?aB ?aS ?aL ?_; (case aP => exact rfl); (case aB => exact (up_ HB.out)); (case aF => exact (fun _ _ => trivial)); (case aO => exact (up_ HO_186000.out)); (case aS => exact (below_size (up_ HB.out))); (case aL => have := LMc18.out; omega); intro v190 w21 ho hb hg hat; rw [← Ny189.out] at ho; have n0_ := Aside0.mk (blk_grown (g := gb184) (o := .cells #[.slice none 0 0] 34 (0, 0)) (up_ BK184.out) hg (Kd.R_ne HO_186000.out BK184.out (by decide))); have n1_ := Aside0.mk (blk_grown (g := gb185) (o := .cells #[u186000] 34 (0, 0)) (up_ BK185.out) hg (Kd.R_ne HO_186000.out BK185.out (by decide))); have n2_ := Aside0.mk (hb); have n3_ := Aside0.mk (ho); clear BK184; clear BK185; clear HB; clear HO_186000; have BK184 := n0_; have BK185 := n1_; have HB := n2_; have HO191 := n3_; clear n0_ n1_ n2_ n3_; clear ho hb hg hat; obtain ⟨Ao22, co22, eo22⟩ := Kd.R_slice HO191.out; subst eo22; have hcz23_0 := c1_ BK185; have hfz23_0 := blk_frozen BK185.out 0)))
         go_roundg k2
         case measure => have := HJ2.out; have := HK2.out; omega
         case rel => exact ⟨(wrap64 (x7_2 + 1)), (y189), (.slice Ao22 y189.length co22), rs_, H', ⟨by have := HJ2.out; have := HK2.out; omega⟩, ⟨by (with_reducible repeat (first | apply Kd.R_alloc | apply Kd.R_drewN | apply Kd.R_drew)); exact Kd.R_mono (Kd.R_far (p := ⟨gb185, 0, none⟩) (Kd.R_types HO191.out BK185.out (by decide)) (fun _ hk => hk.2) (.slice Ao22 y189.length co22)) (fun _ hk => trivial)⟩, ⟨by (with_reducible repeat (first | refine blk_drewN ?_ _ | refine blk_drew ?_ | refine blk_alloc ?_ _)); refine blk_far ?_ NB184_185.out _; (with_reducible repeat (first | refine blk_drewN ?_ _ | refine blk_drew ?_ | refine blk_alloc ?_ _)); exact BK184.out⟩, ⟨by (with_reducible repeat (first | refine blk_drewN ?_ _ | refine blk_drew ?_ | refine blk_alloc ?_ _)); refine blk_put (cs := #[u186000]) ?_ 0 _ rfl; (with_reducible repeat (first | refine blk_drewN ?_ _ | refine blk_drew ?_ | refine blk_alloc ?_ _)); exact BK185.out⟩, ⟨up_ HB.out⟩⟩
        ·rw [if_neg c18] at H
         exact absurd H (by simp)
       ·by_cases c24 : (rd l0 x7_2) > (rd l1 x7_2)
        ·rw [if_pos c24] at H
         have c24b0 : decide ((rd l1 x7_2) < (rd l0 x7_2)) = true := decide_eq_true c24
         clear c24
         by_cases c25 : x186000_2.length < 17592186044416
         ·rw [if_pos c25] at H
          have LMc25 := Aside0.mk c25
          clear c25
          obtain ⟨y194, hy194⟩ : ∃ y_ : List Int, y_ = (x186000_2 ++ [(-1)]) := ⟨_, rfl⟩
          replace H : (spec_RowOf.l0 k2 l0 l1 (wrap64 (x7_2 + 1)) y194) = some (r1, r2) := rh_ hy194 H
          have Ny194 := Aside0.mk hy194
          clear hy194
          have H' := Aside0.mk H
          clear H
          have p187 : 0 ≤ (x7_2 : Int) := od_
          have q187 : x7_2 < (l0.length : Int) := od_
          obtain ⟨ad187, e187, hx187_0⟩ := Kd.at_int HR0.out x7_2 p187 q187
          cases e187
          replace hx187_0 := bh_ HB hx187_0
          replace p187 := eq_true p187
          replace q187 := eq_true q187
          have p188 : 0 ≤ (x7_2 : Int) := od_
          have q188 : x7_2 < (l1.length : Int) := od_
          obtain ⟨ad188, e188, hx188_0⟩ := Kd.at_int HR1.out x7_2 p188 q188
          cases e188
          replace hx188_0 := bh_ HB hx188_0
          replace p188 := eq_true p188
          replace q188 := eq_true q188
          have p192 : 0 ≤ (x7_2 : Int) := od_
          have q192 : x7_2 < (l0.length : Int) := od_
          obtain ⟨ad192, e192, hx192_0⟩ := Kd.at_int HR0.out x7_2 p192 q192
          obtain rfl : ad187 = ad192 := (by injection e192)
          replace hx192_0 := bh_ HB hx192_0
          replace p192 := eq_true p192
          replace q192 := eq_true q192
          have p193 : 0 ≤ (x7_2 : Int) := od_
          have q193 : x7_2 < (l1.length : Int) := od_
          obtain ⟨ad193, e193, hx193_0⟩ := Kd.at_int HR1.out x7_2 p193 q193
          obtain rfl : ad188 = ad193 := (by injection e193)
          replace hx193_0 := bh_ HB hx193_0
          replace p193 := eq_true p193
          replace q193 := eq_true q193
          have hnb26 := NB185_184.out
          have hnc26 := NB184_185.out
          have hcz27_0 := c1_ BK185
          have hfz27_0 := blk_frozen BK185.out 0
          go_wp2_with (first | ((with_reducible refine gate_builtin (b := .append) (xs := #[.tmp 58, .tmp 59]) rfl ?_); (try (refine gate_guard (by rfl) ?_; dsimp only)); at_builtin; refine Kd.R_append (Kd.int .i64) (w0 := w) w.heap.size rfl (.tmp 58) (.tmp 59) 25 3 (.int .i64 0) 8 rfl Try.underlying25 info3 rfl (by decide) (by omega) u186000 x186000_2 (-1) [.int .i64 (-1)] (fun _ => True) (fun _ => False) rfl rfl ?aP (fun _ hk => hk.elim) ?aF ?aO ?aB ?aS ?aL ?_; (case aP => exact rfl); (case aB => exact (up_ HB.out)); (case aF => exact (fun _ _ => trivial)); (case aO => exact (up_ HO_186000.out)); (case aS => exact (below_size (up_ HB.out))); (case aL => have := LMc25.out; omega); intro v195 w28 ho hb hg hat; rw [← Ny194.out] at ho; have n0_ := Aside0.mk (blk_grown (g := gb184) (o := .cells #[.slice none 0 0] 34 (0, 0)) (up_ BK184.out) hg (Kd.R_ne HO_186000.out BK184.out (by decide))); have n1_ := Aside0.mk (blk_grown (g := gb185) (o := .cells #[u186000] 34 (0, 0)) (up_ BK185.out) hg (Kd.R_ne HO_186000.out BK185.out (by decide))); have n2_ := Aside0.mk (hb); have n3_ := Aside0.mk (ho); clear BK184; clear BK185; clear HB; clear HO_186000; have BK184 := n0_; have BK185 := n1_; have HB := n2_; have HO196 := n3_; clear n0_ n1_ n2_ n3_; clear ho hb hg hat; obtain ⟨Ao29, co29, eo29⟩ := Kd.R_slice HO196.out; subst eo29; have hcz30_0 := c1_ BK185; have hfz30_0 := blk_frozen BK185.out 0))
          repeat (go_quiet (first | ((with_reducible refine gate_builtin (b := .append) (xs := #[.tmp 58, .tmp 59]) rfl ?_); (try (refine gate_guard (by rfl) ?_; dsimp only)); at_builtin; refine Kd.R_append (Kd.int .i64) (w0 := w) w.heap.size rfl (.tmp 58) (.tmp 59) 25 3 (.int .i64 0) 8 rfl Try.underlying25 info3 rfl (by decide) (by omega) u186000 x186000_2 (-1) [.int .i64 (-1)] (fun _ => True) (fun _ => False) rfl rfl ?aP (fun _ hk => hk.elim) ?aF ?aO ?aB ?aS ?aL ?_; (case aP => exact rfl); (case aB => exact (up_ HB.out)); (case aF => exact (fun _ _ => trivial)); (case aO => exact (up_ HO_186000.out)); (case aS => exact (below_size (up_ HB.out))); (case aL => have := LMc25.out; omega); intro v195 w28 ho hb hg hat; rw [← Ny194.out] at ho; have n0_ := Aside0.mk (blk_grown (g := gb184) (o := .cells #[.slice none 0 0] 34 (0, 0)) (up_ BK184.out) hg (Kd.R_ne HO_186000.out BK184.out (by decide))); have n1_ := Aside0.mk (blk_grown (g := gb185) (o := .cells #[u186000] 34 (0, 0)) (up_ BK185.out) hg (Kd.R_ne HO_186000.out BK185.out (by decide))); have n2_ := Aside0.mk (hb); have n3_ := Aside0.mk (ho); clear BK184; clear BK185; clear HB; clear HO_186000; have BK184 := n0_; have BK185 := n1_; have HB := n2_; have HO196 := n3_; clear n0_ n1_ n2_ n3_; clear ho hb hg hat; obtain ⟨Ao29, co29, eo29⟩ := Kd.R_slice HO196.out; subst eo29; have hcz30_0 := c1_ BK185; have hfz30_0 := blk_frozen BK185.out 0)); try go_wp2_with (first | ((with_reducible refine gate_builtin (b := .append) (xs := #[.tmp 58, .tmp 59]) rfl ?_); (try (refine gate_guard (by rfl) ?_; dsimp only)); at_builtin; refine Kd.R_append (Kd.int .i64) (w0 := w) w.heap.size rfl (.tmp 58) (.tmp 59) 25 3 (.int .i64 0) 8 rfl Try.underlying25 info3 rfl (by decide) (by omega) u186000 x186000_2 (-1) [.int .i64 (-1)] (fun _ => True) (fun _ => False) rfl rfl ?aP (fun _ hk => hk.elim) ?aF ?aO ?aB ?aS ?aL ?_; (case aP => exact rfl); (case aB => exact (up_ HB.out)); (case aF => exact (fun _ _ => trivial)); (case aO => exact (up_ HO_186000.out)); (case aS => exact (below_size (up_ HB.out))); (case aL => have := LMc25.out; omega); intro v195 w28 ho hb hg hat; rw [← Ny194.out] at ho; have n0_ := Aside0.mk (blk_grown (g := gb184) (o := .cells #[.slice none 0 0] 34 (0, 0)) (up_ BK184.out) hg (Kd.R_ne HO_186000.out BK184.out (by decide))); have n1_ := Aside0.mk (blk_grown (g := gb185) (o := .cells #[u186000] 34 (0, 0)) (up_ BK185.out) hg (Kd.R_ne HO_186000.out BK185.out (by decide))); have n2_ := Aside0.mk (hb); have n3_ := Aside0.mk (ho); clear BK184; clear BK185; clear HB; clear HO_186000; have BK184 := n0_; have BK185 := n1_; have HB := n2_; have HO196 := n3_; clear n0_ n1_ n2_ n3_; clear ho hb hg hat; obtain ⟨Ao29, co29, eo29⟩ := Kd.R_slice HO196.out; subst eo29; have hcz30_0 := c1_ BK185; have hfz30_0 := blk_frozen BK185.out 0)))
          go_roundg k2
          case measure => have := HJ2.out; have := HK2.out; omega
          case rel => exact ⟨(wrap64 (x7_2 + 1)), (y194), (.slice Ao29 y194.length co29), rs_, H', ⟨by have := HJ2.out; have := HK2.out; omega⟩, ⟨by (with_reducible repeat (first | apply Kd.R_alloc | apply Kd.R_drewN | apply Kd.R_drew)); exact Kd.R_mono (Kd.R_far (p := ⟨gb185, 0, none⟩) (Kd.R_types HO196.out BK185.out (by decide)) (fun _ hk => hk.2) (.slice Ao29 y194.length co29)) (fun _ hk => trivial)⟩, ⟨by (with_reducible repeat (first | refine blk_drewN ?_ _ | refine blk_drew ?_ | refine blk_alloc ?_ _)); refine blk_far ?_ NB184_185.out _; (with_reducible repeat (first | refine blk_drewN ?_ _ | refine blk_drew ?_ | refine blk_alloc ?_ _)); exact BK184.out⟩, ⟨by (with_reducible repeat (first | refine blk_drewN ?_ _ | refine blk_drew ?_ | refine blk_alloc ?_ _)); refine blk_put (cs := #[u186000]) ?_ 0 _ rfl; (with_reducible repeat (first | refine blk_drewN ?_ _ | refine blk_drew ?_ | refine blk_alloc ?_ _)); exact BK185.out⟩, ⟨up_ HB.out⟩⟩
         ·rw [if_neg c25] at H
          exact absurd H (by simp)
        ·rw [if_neg c24] at H
         have c24b0 : decide ((rd l1 x7_2) < (rd l0 x7_2)) = false := decide_eq_false c24
         clear c24
         by_cases c31 : x186000_2.length < 17592186044416
         ·rw [if_pos c31] at H
          have LMc31 := Aside0.mk c31
          clear c31
          obtain ⟨y197, hy197⟩ : ∃ y_ : List Int, y_ = (x186000_2 ++ [0]) := ⟨_, rfl⟩
          replace H : (spec_RowOf.l0 k2 l0 l1 (wrap64 (x7_2 + 1)) y197) = some (r1, r2) := rh_ hy197 H
          have Ny197 := Aside0.mk hy197
          clear hy197
          have H' := Aside0.mk H
          clear H
          have p187 : 0 ≤ (x7_2 : Int) := od_
          have q187 : x7_2 < (l0.length : Int) := od_
          obtain ⟨ad187, e187, hx187_0⟩ := Kd.at_int HR0.out x7_2 p187 q187
          cases e187
          replace hx187_0 := bh_ HB hx187_0
          replace p187 := eq_true p187
          replace q187 := eq_true q187
          have p188 : 0 ≤ (x7_2 : Int) := od_
          have q188 : x7_2 < (l1.length : Int) := od_
          obtain ⟨ad188, e188, hx188_0⟩ := Kd.at_int HR1.out x7_2 p188 q188
          cases e188
          replace hx188_0 := bh_ HB hx188_0
          replace p188 := eq_true p188
          replace q188 := eq_true q188
          have p192 : 0 ≤ (x7_2 : Int) := od_
          have q192 : x7_2 < (l0.length : Int) := od_
          obtain ⟨ad192, e192, hx192_0⟩ := Kd.at_int HR0.out x7_2 p192 q192
          obtain rfl : ad187 = ad192 := (by injection e192)
          replace hx192_0 := bh_ HB hx192_0
          replace p192 := eq_true p192
          replace q192 := eq_true q192
          have p193 : 0 ≤ (x7_2 : Int) := od_
          have q193 : x7_2 < (l1.length : Int) := od_
          obtain ⟨ad193, e193, hx193_0⟩ := Kd.at_int HR1.out x7_2 p193 q193
          obtain rfl : ad188 = ad193 := (by injection e193)
          replace hx193_0 := bh_ HB hx193_0
          replace p193 := eq_true p193
          replace q193 := eq_true q193
          have hnb32 := NB185_184.out
          have hnc32 := NB184_185.out
          have hcz33_0 := c1_ BK185
          have hfz33_0 := blk_frozen BK185.out 0
          go_wp2_with (first | ((with_reducible refine gate_builtin (b := .append) (xs := #[.tmp 28, .tmp 29]) rfl ?_); (try (refine gate_guard (by rfl) ?_; dsimp only)); at_builtin; refine Kd.R_append (Kd.int .i64) (w0 := w) w.heap.size rfl (.tmp 28) (.tmp 29) 25 3 (.int .i64 0) 8 rfl Try.underlying25 info3 rfl (by decide) (by omega) u186000 x186000_2 0 [.int .i64 0] (fun _ => True) (fun _ => False) rfl rfl ?aP (fun _ hk => hk.elim) ?aF ?aO ?aB ?aS ?aL ?_; (case aP => exact rfl); (case aB => exact (up_ HB.out)); (case aF => exact (fun _ _ => trivial)); (case aO => exact (up_ HO_186000.out)); (case aS => exact (below_size (up_ HB.out))); (case aL => have := LMc31.out; omega); intro v198 w34 ho hb hg hat; rw [← Ny197.out] at ho; have n0_ := Aside0.mk (blk_grown (g := gb184) (o := .cells #[.slice none 0 0] 34 (0, 0)) (up_ BK184.out) hg (Kd.R_ne HO_186000.out BK184.out (by decide))); have n1_ := Aside0.mk (blk_grown (g := gb185) (o := .cells #[u186000] 34 (0, 0)) (up_ BK185.out) hg (Kd.R_ne HO_186000.out BK185.out (by decide))); have n2_ := Aside0.mk (hb); have n3_ := Aside0.mk (ho); clear BK184; clear BK185; clear HB; clear HO_186000; have BK184 := n0_; have BK185 := n1_; have HB := n2_; have HO199 := n3_; clear n0_ n1_ n2_ n3_; clear ho hb hg hat; obtain ⟨Ao35, co35, eo35⟩ := Kd.R_slice HO199.out; subst eo35; have hcz36_0 := c1_ BK185; have hfz36_0 := blk_frozen BK185.out 0))
          repeat (go_quiet (first | ((with_reducible refine gate_builtin (b := .append) (xs := #[.tmp 28, .tmp 29]) rfl ?_); (try (refine gate_guard (by rfl) ?_; dsimp only)); at_builtin; refine Kd.R_append (Kd.int .i64) (w0 := w) w.heap.size rfl (.tmp 28) (.tmp 29) 25 3 (.int .i64 0) 8 rfl Try.underlying25 info3 rfl (by decide) (by omega) u186000 x186000_2 0 [.int .i64 0] (fun _ => True) (fun _ => False) rfl rfl ?aP (fun _ hk => hk.elim) ?aF ?aO ?aB ?aS ?aL ?_; (case aP => exact rfl); (case aB => exact (up_ HB.out)); (case aF => exact (fun _ _ => trivial)); (case aO => exact (up_ HO_186000.out)); (case aS => exact (below_size (up_ HB.out))); (case aL => have := LMc31.out; omega); intro v198 w34 ho hb hg hat; rw [← Ny197.out] at ho; have n0_ := Aside0.mk (blk_grown (g := gb184) (o := .cells #[.slice none 0 0] 34 (0, 0)) (up_ BK184.out) hg (Kd.R_ne HO_186000.out BK184.out (by decide))); have n1_ := Aside0.mk (blk_grown (g := gb185) (o := .cells #[u186000] 34 (0, 0)) (up_ BK185.out) hg (Kd.R_ne HO_186000.out BK185.out (by decide))); have n2_ := Aside0.mk (hb); have n3_ := Aside0.mk (ho); clear BK184; clear BK185; clear HB; clear HO_186000; have BK184 := n0_; have BK185 := n1_; have HB := n2_; have HO199 := n3_; clear n0_ n1_ n2_ n3_; clear ho hb hg hat; obtain ⟨Ao35, co35, eo35⟩ := Kd.R_slice HO199.out; subst eo35; have hcz36_0 := c1_ BK185; have hfz36_0 := blk_frozen BK185.out 0)); try go_wp2_with (first | ((with_reducible refine gate_builtin (b := .append) (xs := #[.tmp 28, .tmp 29]) rfl ?_); (try (refine gate_guard (by rfl) ?_; dsimp only)); at_builtin; refine Kd.R_append (Kd.int .i64) (w0 := w) w.heap.size rfl (.tmp 28) (.tmp 29) 25 3 (.int .i64 0) 8 rfl Try.underlying25 info3 rfl (by decide) (by omega) u186000 x186000_2 0 [.int .i64 0] (fun _ => True) (fun _ => False) rfl rfl ?aP (fun _ hk => hk.elim) ?aF ?aO ?aB ?aS ?aL ?_; (case aP => exact rfl); (case aB => exact (up_ HB.out)); (case aF => exact (fun _ _ => trivial)); (case aO => exact (up_ HO_186000.out)); (case aS => exact (below_size (up_ HB.out))); (case aL => have := LMc31.out; omega); intro v198 w34 ho hb hg hat; rw [← Ny197.out] at ho; have n0_ := Aside0.mk (blk_grown (g := gb184) (o := .cells #[.slice none 0 0] 34 (0, 0)) (up_ BK184.out) hg (Kd.R_ne HO_186000.out BK184.out (by decide))); have n1_ := Aside0.mk (blk_grown (g := gb185) (o := .cells #[u186000] 34 (0, 0)) (up_ BK185.out) hg (Kd.R_ne HO_186000.out BK185.out (by decide))); have n2_ := Aside0.mk (hb); have n3_ := Aside0.mk (ho); clear BK184; clear BK185; clear HB; clear HO_186000; have BK184 := n0_; have BK185 := n1_; have HB := n2_; have HO199 := n3_; clear n0_ n1_ n2_ n3_; clear ho hb hg hat; obtain ⟨Ao35, co35, eo35⟩ := Kd.R_slice HO199.out; subst eo35; have hcz36_0 := c1_ BK185; have hfz36_0 := blk_frozen BK185.out 0)))
          go_roundg k2
          case measure => have := HJ2.out; have := HK2.out; omega
          case rel => exact ⟨(wrap64 (x7_2 + 1)), (y197), (.slice Ao35 y197.length co35), rs_, H', ⟨by have := HJ2.out; have := HK2.out; omega⟩, ⟨by (with_reducible repeat (first | apply Kd.R_alloc | apply Kd.R_drewN | apply Kd.R_drew)); exact Kd.R_mono (Kd.R_far (p := ⟨gb185, 0, none⟩) (Kd.R_types HO199.out BK185.out (by decide)) (fun _ hk => hk.2) (.slice Ao35 y197.length co35)) (fun _ hk => trivial)⟩, ⟨by (with_reducible repeat (first | refine blk_drewN ?_ _ | refine blk_drew ?_ | refine blk_alloc ?_ _)); refine blk_far ?_ NB184_185.out _; (with_reducible repeat (first | refine blk_drewN ?_ _ | refine blk_drew ?_ | refine blk_alloc ?_ _)); exact BK184.out⟩, ⟨by (with_reducible repeat (first | refine blk_drewN ?_ _ | refine blk_drew ?_ | refine blk_alloc ?_ _)); refine blk_put (cs := #[u186000]) ?_ 0 _ rfl; (with_reducible repeat (first | refine blk_drewN ?_ _ | refine blk_drew ?_ | refine blk_alloc ?_ _)); exact BK185.out⟩, ⟨up_ HB.out⟩⟩
         ·rw [if_neg c31] at H
          exact absurd H (by simp)
      ·simp only [Option.some.injEq, Prod.mk.injEq] at H
       obtain ⟨rfl, rfl⟩ := H
       have hnb37 := NB185_184.out
       have hnc37 := NB184_185.out
       have hcz38_0 := c1_ BK185
       have hfz38_0 := blk_frozen BK185.out 0
       obtain ⟨Ao39, co39, eo39⟩ := Kd.R_slice HO_186000.out
       subst eo39
       have hcz40_0 := c1_ BK184
       have hfz40_0 := blk_frozen BK184.out 0
       go_wp2
       repeat (go_quiet (fail); try go_wp2)
       refine bodyPost_ret (results_ct rfl _ _ gb184 34 #[.slice Ao39 x186000_2.length co39] (0, 0) _ rfl (by (with_reducible repeat (first | refine blk_drewN ?_ _ | refine blk_drew ?_ | refine blk_alloc ?_ _)); refine blk_put (cs := #[.slice none 0 0]) ?_ 0 _ rfl; (with_reducible repeat (first | refine blk_drewN ?_ _ | refine blk_drew ?_ | refine blk_alloc ?_ _)); exact BK184.out) Try.underlying34 rfl (by kernel_rfl)) rfl ?_
       exact ⟨_, re_, by (with_reducible repeat (first | apply Kd.R_alloc | apply Kd.R_drewN | apply Kd.R_drew)); exact Kd.R_mono (Kd.R_far (p := ⟨gb184, 0, none⟩) (Kd.R_types HO_186000.out BK184.out (by decide)) (fun _ hk => hk.2) (.slice Ao39 x186000_2.length co39)) (fun _ hk => trivial), up_ HB.out⟩

end Go.Proofs.Ytkddpilambnicaa.PFnExactFootRows
