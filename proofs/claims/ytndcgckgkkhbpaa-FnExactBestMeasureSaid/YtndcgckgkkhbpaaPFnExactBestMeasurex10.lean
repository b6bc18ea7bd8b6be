/- Walks of Go functions that the law FnExactBestMeasure uses: written by this session's program out of the kit's printer; each shows that a call comes to the answers of the Lean function beside it. Conditions: each contract's own. -/
import Derived.Test.YtndcgckgkkhbpaaPFnExactBestMeasurex0
import Derived.Test.YtndcgckgkkhbpaaPFnExactBestMeasurex1
import Derived.Test.YtndcgckgkkhbpaaPFnExactBestMeasurex2
import Derived.Test.YtndcgckgkkhbpaaPFnExactBestMeasurex6
import Derived.Test.YtndcgckgkkhbpaaPFnExactBestMeasurex7
import Derived.Test.YtndcgckgkkhbpaaPFnExactBestMeasurex9
namespace Go.Proofs.Ytndcgckgkkhbpaa.PFnExactBestMeasure
open Go.RowKit Go.Proofs.YtndcgckgkkhbpaaW.PrintWords Go.Proofs.YtndcgckgkkhbpaaW.PrintLast Go.Proofs.YtndcgckgkkhbpaaW.PrintMore
attribute [local go_sem] max2_int min2_int max_two min_two max_three min_three max_four min_four   -- for this text's walks alone
set_option linter.unusedVariables false
set_option linter.unusedSimpArgs false

/-! ### impl_RestrictMeasure: function 156 -/
mutual
def impl_RestrictMeasure.j0 : Nat → List ByteArray → List (List Int) → Bool → Option (Int)
  | 0, _, _, _ => none
  | k + 1, x0, x1, x21 => if x21 = true then (some (-1)) else (impl_RestrictMeasure.l0 k x0 0 0 x1 (x1.length : Int) 0)
def impl_RestrictMeasure.l0 : Nat → List ByteArray → Int → Int → List (List Int) → Int → Int → Option (Int)
  | 0, _, _, _, _, _, _ => none
  | k + 1, x0, x5, x6, x22, x23, x24 => if x24 < x23 then (if 0 ≤ x24 then (if x24 < (x22.length : Int) then (impl_RestrictMeasure.l1 k x0 x5 x6 0 x22 x23 x24 (rd_L1 x22 x24) ((rd_L1 x22 x24).length : Int) 0) else (none)) else (none)) else (some x5)
def impl_RestrictMeasure.l1 : Nat → List ByteArray → Int → Int → Int → List (List Int) → Int → Int → List Int → Int → Int → Option (Int)
  | 0, _, _, _, _, _, _, _, _, _, _ => none
  | k + 1, x0, x5, x6, x9, x22, x23, x24, x28, x29, x30 => if x30 < x29 then (if 0 ≤ x30 then (if x30 < (x28.length : Int) then (if 0 ≤ (rd x28 x30) then (if (rd x28 x30) < (x0.length : Int) then ((impl_IsMarkedness.f k (rdOf ByteArray.empty x0 (rd x28 x30))).bind fun t340 => (if t340 = true then (impl_RestrictMeasure.l1 k x0 x5 x6 (wrap64 (x9 + 1)) x22 x23 x24 x28 x29 (wrap64 (x30 + 1))) else (impl_RestrictMeasure.l1 k x0 (wrap64 (x5 + x6)) x6 x9 x22 x23 x24 x28 x29 (wrap64 (x30 + 1))))) else (none)) else (none)) else (none)) else (none)) else (impl_RestrictMeasure.l0 k x0 x5 (wrap64 (x6 + x9)) x22 x23 (wrap64 (x24 + 1)))
end
def impl_RestrictMeasure.f (k : Nat) (l0 : List ByteArray) (l1 : List (List Int)) : Option (Int) := (impl_AreConstraints.f k l0).bind fun t335 => (if t335 = true then ((impl_AreStrata.f k l1 (l0.length : Int)).bind fun t336 => (impl_RestrictMeasure.j0 k l0 l1 (!t336))) else (impl_RestrictMeasure.j0 k l0 l1 true))
theorem impl_RestrictMeasure.mono_l : ∀ k, (∀ y0 y1 y2, LeO (impl_RestrictMeasure.j0 k y0 y1 y2) (impl_RestrictMeasure.j0 (k + 1) y0 y1 y2)) ∧ (∀ y0 y1 y2 y3 y4 y5, LeO (impl_RestrictMeasure.l0 k y0 y1 y2 y3 y4 y5) (impl_RestrictMeasure.l0 (k + 1) y0 y1 y2 y3 y4 y5)) ∧ (∀ y0 y1 y2 y3 y4 y5 y6 y7 y8 y9, LeO (impl_RestrictMeasure.l1 k y0 y1 y2 y3 y4 y5 y6 y7 y8 y9) (impl_RestrictMeasure.l1 (k + 1) y0 y1 y2 y3 y4 y5 y6 y7 y8 y9))
  | 0 => ⟨fun _ _ _ r h => by simp [impl_RestrictMeasure.j0] at h, fun _ _ _ _ _ _ r h => by simp [impl_RestrictMeasure.l0] at h, fun _ _ _ _ _ _ _ _ _ _ r h => by simp [impl_RestrictMeasure.l1] at h⟩
  | k + 1 => by
    obtain ⟨ih0, ih1, ih2⟩ := impl_RestrictMeasure.mono_l k
    refine ⟨?_, ?_, ?_⟩
    · intro y0 y1 y2
      unfold impl_RestrictMeasure.j0
      repeat' first
      | (with_reducible exact ih0 _ _ _)
      | (with_reducible exact ih1 _ _ _ _ _ _)
      | (with_reducible exact ih2 _ _ _ _ _ _ _ _ _ _)
      | (with_reducible exact impl_AreConstraints.mono _ _)
      | (with_reducible exact impl_AreStrata.mono _ _ _)
      | (with_reducible exact impl_IsMarkedness.mono _ _)
      | (with_reducible exact LeO.refl _)
      | (with_reducible exact LeO.none _)
      | (with_reducible refine LeO.ite ?_ ?_)
      | (with_reducible refine LeO.bind ?_ (fun _ => ?_))
      | exact ih0 _ _ _
      | exact ih1 _ _ _ _ _ _
      | exact ih2 _ _ _ _ _ _ _ _ _ _
      | exact impl_AreConstraints.mono _ _
      | exact impl_AreStrata.mono _ _ _
      | exact impl_IsMarkedness.mono _ _
      | exact LeO.none _
      | refine LeO.ite ?_ ?_
      | refine LeO.bind ?_ (fun _ => ?_)
    · intro y0 y1 y2 y3 y4 y5
      unfold impl_RestrictMeasure.l0
      repeat' first
      | (with_reducible exact ih0 _ _ _)
      | (with_reducible exact ih1 _ _ _ _ _ _)
      | (with_reducible exact ih2 _ _ _ _ _ _ _ _ _ _)
      | (with_reducible exact impl_AreConstraints.mono _ _)
      | (with_reducible exact impl_AreStrata.mono _ _ _)
      | (with_reducible exact impl_IsMarkedness.mono _ _)
      | (with_reducible exact LeO.refl _)
      | (with_reducible exact LeO.none _)
      | (with_reducible refine LeO.ite ?_ ?_)
      | (with_reducible refine LeO.bind ?_ (fun _ => ?_))
      | exact ih0 _ _ _
      | exact ih1 _ _ _ _ _ _
      | exact ih2 _ _ _ _ _ _ _ _ _ _
      | exact impl_AreConstraints.mono _ _
      | exact impl_AreStrata.mono _ _ _
      | exact impl_IsMarkedness.mono _ _
      | exact LeO.none _
      | refine LeO.ite ?_ ?_
      | refine LeO.bind ?_ (fun _ => ?_)
    · intro y0 y1 y2 y3 y4 y5 y6 y7 y8 y9
      unfold impl_RestrictMeasure.l1
      repeat' first
      | (with_reducible exact ih0 _ _ _)
      | (with_reducible exact ih1 _ _ _ _ _ _)
      | (with_reducible exact ih2 _ _ _ _ _ _ _ _ _ _)
      | (with_reducible exact impl_AreConstraints.mono _ _)
      | (with_reducible exact impl_AreStrata.mono _ _ _)
      | (with_reducible exact impl_IsMarkedness.mono _ _)
      | (with_reducible exact LeO.refl _)
      | (with_reducible exact LeO.none _)
      | (with_reducible refine LeO.ite ?_ ?_)
      | (with_reducible refine LeO.bind ?_ (fun _ => ?_))
      | exact ih0 _ _ _
      | exact ih1 _ _ _ _ _ _
      | exact ih2 _ _ _ _ _ _ _ _ _ _
      | exact impl_AreConstraints.mono _ _
      | exact impl_AreStrata.mono _ _ _
      | exact impl_IsMarkedness.mono _ _
      | exact LeO.none _
      | refine LeO.ite ?_ ?_
      | refine LeO.bind ?_ (fun _ => ?_)
theorem impl_RestrictMeasure.mono : ∀ a0 a1 k, LeO (impl_RestrictMeasure.f k a0 a1) (impl_RestrictMeasure.f (k + 1) a0 a1) := by
  intro a0 a1 k
  obtain ⟨ih0, ih1, ih2⟩ := impl_RestrictMeasure.mono_l k
  unfold impl_RestrictMeasure.f
  repeat' first
      | (with_reducible exact ih0 _ _ _)
      | (with_reducible exact ih1 _ _ _ _ _ _)
      | (with_reducible exact ih2 _ _ _ _ _ _ _ _ _ _)
      | (with_reducible exact impl_AreConstraints.mono _ _)
      | (with_reducible exact impl_AreStrata.mono _ _ _)
      | (with_reducible exact impl_IsMarkedness.mono _ _)
      | (with_reducible exact LeO.refl _)
      | (with_reducible exact LeO.none _)
      | (with_reducible refine LeO.ite ?_ ?_)
      | (with_reducible refine LeO.bind ?_ (fun _ => ?_))
      | exact ih0 _ _ _
      | exact ih1 _ _ _ _ _ _
      | exact ih2 _ _ _ _ _ _ _ _ _ _
      | exact impl_AreConstraints.mono _ _
      | exact impl_AreStrata.mono _ _ _
      | exact impl_IsMarkedness.mono _ _
      | exact LeO.none _
      | refine LeO.ite ?_ ?_
      | refine LeO.bind ?_ (fun _ => ?_)
set_option maxHeartbeats 8000000 in
set_option maxRecDepth 100000 in
theorem impl_RestrictMeasure.calls (k : Nat) (A0 : Option Addr) (c0 : Nat) (l0 : List ByteArray) (A1 : Option Addr) (c1 : Nat) (l1 : List (List Int)) (r : Int) (w : World) (hr0 : Kd.C Kd.string w A0 l0.length l0) (hc0 : l0.length ≤ c0) (hr1 : Kd.C (Kd.slice 3 (Kd.int .i64)) w A1 l1.length l1) (hc1 : l1.length ≤ c1) (h : impl_RestrictMeasure.f k l0 l1 = some r) :
    Calls Try.prog 156 #[.slice A0 l0.length c0, .slice A1 l1.length c1] w fun e w' => e = .returned (.int .i64 r) ∧ Below w.heap.size w w' := by
  have HR0 := Aside0.mk hr0
  have HC0 := Aside0.mk hc0
  clear hr0 hc0
  have HR1 := Aside0.mk hr1
  have HC1 := Aside0.mk hc1
  clear hr1 hc1
  have HB := Aside0.mk (Below.refl w.heap.size w)
  have H : ((impl_AreConstraints.f k l0).bind fun t335 => (if t335 = true then ((impl_AreStrata.f k l1 (l0.length : Int)).bind fun t336 => (impl_RestrictMeasure.j0 k l0 l1 (!t336))) else (impl_RestrictMeasure.j0 k l0 l1 true))) = some r := h
  clear h
  have HC3 := Aside0.mk H
  clear H
  go_enter Try.func156, Try.ntmps156
  go_upto_region 1 with (fail)
  go_cut [21] (fun v21 wc => ∃ (kq : Nat) (x21_2 : Bool), v21 = .bool x21_2 ∧ Aside0 (impl_RestrictMeasure.j0 kq l0 l1 x21_2 = some r) ∧ Aside0 (kq ≤ k) ∧ Aside0 (Below w.heap.size w wc))
  case first =>
    have H := HC3.out
    clear HC3
    replace H := Option.bind_eq_some_iff.mp H
    obtain ⟨t335, A40, H⟩ := H
    replace H : (if t335 = true then ((impl_AreStrata.f k l1 (l0.length : Int)).bind fun t336 => (impl_RestrictMeasure.j0 k l0 l1 (!t336))) else (impl_RestrictMeasure.j0 k l0 l1 true)) = some r := H
    have A4 := Aside0.mk A40
    clear A40
    by_cases c5 : t335 = true
    · subst c5
      have H1 : ((impl_AreStrata.f k l1 (l0.length : Int)).bind fun t336 => (impl_RestrictMeasure.j0 k l0 l1 (!t336))) = some r := by rw [if_pos rfl] at H; exact H
      clear H
      have H := H1
      clear H1
      replace H := Option.bind_eq_some_iff.mp H
      obtain ⟨t336, A60, H⟩ := H
      replace H : (impl_RestrictMeasure.j0 k l0 l1 (!t336)) = some r := H
      have A6 := Aside0.mk A60
      clear A60
      have H' := Aside0.mk H
      clear H
      go_wp2_with (first | ((with_reducible refine gate_callee (f := 99) rfl ?_); refine goesL_ (some 13) rfl rfl Try.func99 (by kernel_rfl) rfl #[.slice A0 l0.length c0] rfl (by (try simp only [List.map_toArray, List.map_cons, List.map_nil]); first | done | rfl | (simp only [List.length_drop, List.length_take]; rfl)) ?_; (with_reducible refine (impl_AreConstraints.calls k _ _ l0 true _ ?side1 ?side2 A4.out).mono ?_); (case side1 => repeat (first | exact (Kd.C_below HR0.out HB.out) | (with_reducible refine Kd.C_alloc ?_ _) | (with_reducible refine Kd.C_drewN ?_ _) | (with_reducible refine Kd.C_drew ?_))); (case side2 => exact HC0.out); rintro e w7 ⟨rfl, hb⟩; refine ⟨_, rfl, ?_⟩; have n0_ := Aside0.mk (below_step (by repeat (first | (with_reducible first | exact HB.out | apply below_alloc | apply pw_below_drewN | apply below_drew1) | exact HB.out)) hb); clear HB; have HB := n0_; clear n0_; (try clear hb); (try clear hb2); (try clear hk); (try clear hi)) | (go_at_call 193; (with_reducible refine (impl_AreStrata.calls k _ _ l1 (l0.length : Int) t336 _ ?side1 ?side2 A6.out).mono ?_); (case side1 => repeat (first | exact (Kd.C_below HR1.out HB.out) | (with_reducible refine Kd.C_alloc ?_ _) | (with_reducible refine Kd.C_drewN ?_ _) | (with_reducible refine Kd.C_drew ?_))); (case side2 => exact HC1.out); rintro e w8 ⟨rfl, hb⟩; have n0_ := Aside0.mk (below_step (by repeat (first | (with_reducible first | exact HB.out | apply below_alloc | apply pw_below_drewN | apply below_drew1) | exact HB.out)) hb); clear HB; have HB := n0_; clear n0_; (try clear hb); (try clear hb2); (try clear hk); (try clear hi)))
      go_meet
      case rel => exact ⟨_, (!t336), (by first | rfl | (simp; done) | (simp [*]; done)), H', ⟨by first | omega | exact Nat.le_refl _⟩, ⟨by repeat (first | (with_reducible first | exact HB.out | apply below_alloc | apply pw_below_drewN | apply below_drew1) | exact HB.out)⟩⟩
    · replace c5 := Bool.eq_false_iff.mpr c5
      subst c5
      have H1 : (impl_RestrictMeasure.j0 k l0 l1 true) = some r := by rw [if_neg (show ¬ (false = true) by decide)] at H; exact H
      clear H
      have H := H1
      clear H1
      have H' := Aside0.mk H
      clear H
      go_wp2_with (first | ((with_reducible refine gate_callee (f := 99) rfl ?_); refine goesL_ (some 13) rfl rfl Try.func99 (by kernel_rfl) rfl #[.slice A0 l0.length c0] rfl (by (try simp only [List.map_toArray, List.map_cons, List.map_nil]); first | done | rfl | (simp only [List.length_drop, List.length_take]; rfl)) ?_; (with_reducible refine (impl_AreConstraints.calls k _ _ l0 false _ ?side1 ?side2 A4.out).mono ?_); (case side1 => repeat (first | exact (Kd.C_below HR0.out HB.out) | (with_reducible refine Kd.C_alloc ?_ _) | (with_reducible refine Kd.C_drewN ?_ _) | (with_reducible refine Kd.C_drew ?_))); (case side2 => exact HC0.out); rintro e w9 ⟨rfl, hb⟩; refine ⟨_, rfl, ?_⟩; have n0_ := Aside0.mk (below_step (by repeat (first | (with_reducible first | exact HB.out | apply below_alloc | apply pw_below_drewN | apply below_drew1) | exact HB.out)) hb); clear HB; have HB := n0_; clear n0_; (try clear hb); (try clear hb2); (try clear hk); (try clear hi)))
      go_meet
      case rel => exact ⟨_, (true), (by first | rfl | (simp; done) | (simp [*]; done)), H', ⟨by first | omega | exact Nat.le_refl _⟩, ⟨by repeat (first | (with_reducible first | exact HB.out | apply below_alloc | apply pw_below_drewN | apply below_drew1) | exact HB.out)⟩⟩
  case rest =>
    clear HC3
    try clear c1
    try clear p2
    try clear c5
    try clear c9
    obtain ⟨kq, x21_2, rfl, HA, HJ2, HB⟩ := hcut
    cases kq with
    | zero => exact absurd HA.out (by simp [impl_RestrictMeasure.j0])
    | succ kj2 =>
      have H := HA.out
      clear HA
      simp only [impl_RestrictMeasure.j0] at H
      by_cases c10 : x21_2 = true
      · subst c10
        have H1 : (some (-1)) = some r := by rw [if_pos rfl] at H; exact H
        clear H
        have H := H1
        clear H1
        obtain rfl := Option.some.inj H
        go_wp2
        go_ret
        exact ⟨by first | rfl | (simp [errW_none, errW_some] <;> rfl) | (simp [*, errW_none, errW_some] <;> rfl), by repeat (first | (with_reducible first | exact HB.out | apply below_alloc | apply pw_below_drewN | apply below_drew1) | exact HB.out)⟩
      · replace c10 := Bool.eq_false_iff.mpr c10
        subst c10
        have H1 : (impl_RestrictMeasure.l0 kj2 l0 0 0 l1 (l1.length : Int) 0) = some r := by rw [if_neg (show ¬ (false = true) by decide)] at H; exact H
        clear H
        have H := H1
        clear H1
        have H' := Aside0.mk H
        clear H
        go_wp2
        go_loopg [5, 6, 24] kj2 (fun kq v5 v6 v24 w' => ∃ (x5_2 : Int) (x6_2 : Int) (x24_2 : Int), v5 = .int .i64 x5_2 ∧ v6 = .int .i64 x6_2 ∧ v24 = .int .i64 x24_2 ∧ Aside0 (impl_RestrictMeasure.l0 kq l0 x5_2 x6_2 l1 (l1.length : Int) x24_2 = some r) ∧ Aside0 (kq ≤ kj2) ∧ Aside0 (Below w.heap.size w w'))
        case atStart => exact ⟨(0), (0), (0), (by first | rfl | (simp; done) | (simp [*]; done)), (by first | rfl | (simp; done) | (simp [*]; done)), (by first | rfl | (simp; done) | (simp [*]; done)), H', ⟨Nat.le_refl _⟩, ⟨by repeat (first | (with_reducible first | exact HB.out | apply below_alloc | apply pw_below_drewN | apply below_drew1) | exact HB.out)⟩⟩
        case round =>
          clear H'
          try clear c1
          try clear p2
          try clear c5
          try clear c9
          try clear c10
          try clear p2
          obtain ⟨x5_2, x6_2, x24_2, rfl, rfl, rfl, HA, HK2, HB⟩ := hrel
          cases gk with
          | zero => exact absurd HA.out (by simp [impl_RestrictMeasure.l0])
          | succ k2 =>
            have H := HA.out
            clear HA
            simp only [impl_RestrictMeasure.l0] at H
            by_cases c11 : x24_2 < (l1.length : Int)
            · rw [if_pos c11] at H
              have c11b0 : decide (x24_2 < (l1.length : Int)) = true := decide_eq_true c11
              clear c11
              by_cases c12 : 0 ≤ x24_2
              · rw [if_pos c12] at H
                have c12b0 : decide (0 ≤ x24_2) = true := decide_eq_true c12
                clear c12
                by_cases c13 : x24_2 < (l1.length : Int)
                · rw [if_pos c13] at H
                  have c13b0 : decide (x24_2 < (l1.length : Int)) = true := decide_eq_true c13
                  clear c13
                  have H' := Aside0.mk H
                  clear H
                  have p337 : 0 ≤ (x24_2 : Int) := of_decide_eq_true (by first | (with_reducible assumption) | assumption)
                  have q337 : x24_2 < (l1.length : Int) := of_decide_eq_true (by first | (with_reducible assumption) | assumption)
                  obtain ⟨ad337, A337_0, c337_0, e337, hx337_0, hl337_0, hi337_0⟩ := at_L1 HR1.out x24_2 p337 q337
                  cases e337
                  replace hx337_0 := (HB.out.cell (World.block_lt_of_cell? w _ hx337_0)).trans hx337_0
                  have HR337_0 := Aside0.mk hi337_0
                  have HC337_0 := Aside0.mk hl337_0
                  clear hi337_0 hl337_0
                  replace p337 := eq_true p337
                  replace q337 := eq_true q337
                  go_wp2
                  go_loopg [5, 9, 30] k2 (fun kq v5 v9 v30 w' => ∃ (x5_3 : Int) (x9_3 : Int) (x30_3 : Int), v5 = .int .i64 x5_3 ∧ v9 = .int .i64 x9_3 ∧ v30 = .int .i64 x30_3 ∧ Aside0 (impl_RestrictMeasure.l1 kq l0 x5_3 x6_2 x9_3 l1 (l1.length : Int) x24_2 (rd_L1 l1 x24_2) ((rd_L1 l1 x24_2).length : Int) x30_3 = some r) ∧ Aside0 (kq ≤ k2) ∧ Aside0 (Below w.heap.size w w'))
                  case atStart => exact ⟨(x5_2), (0), (0), (by first | rfl | (simp; done) | (simp [*]; done)), (by first | rfl | (simp; done) | (simp [*]; done)), (by first | rfl | (simp; done) | (simp [*]; done)), H', ⟨Nat.le_refl _⟩, ⟨by repeat (first | (with_reducible first | exact HB.out | apply below_alloc | apply pw_below_drewN | apply below_drew1) | exact HB.out)⟩⟩
                  case round =>
                    clear H'
                    try clear c1
                    try clear p2
                    try clear c3
                    try clear p3
                    try clear q3
                    try clear hx3
                    try clear c5
                    try clear c9
                    try clear c10
                    try clear c11
                    try clear c11b0
                    try clear c12
                    try clear c12b0
                    try clear c13
                    try clear c13b0
                    try clear hx337_0
                    try clear p2
                    try clear p337
                    try clear q337
                    obtain ⟨x5_3, x9_3, x30_3, rfl, rfl, rfl, HA, HK3, HB⟩ := hrel
                    cases gk with
                    | zero => exact absurd HA.out (by simp [impl_RestrictMeasure.l1])
                    | succ k3 =>
                      have H := HA.out
                      clear HA
                      simp only [impl_RestrictMeasure.l1] at H
                      by_cases c14 : x30_3 < ((rd_L1 l1 x24_2).length : Int)
                      · rw [if_pos c14] at H
                        have c14b0 : decide (x30_3 < ((rd_L1 l1 x24_2).length : Int)) = true := decide_eq_true c14
                        clear c14
                        by_cases c15 : 0 ≤ x30_3
                        · rw [if_pos c15] at H
                          have c15b0 : decide (0 ≤ x30_3) = true := decide_eq_true c15
                          clear c15
                          by_cases c16 : x30_3 < ((rd_L1 l1 x24_2).length : Int)
                          · rw [if_pos c16] at H
                            have c16b0 : decide (x30_3 < ((rd_L1 l1 x24_2).length : Int)) = true := decide_eq_true c16
                            clear c16
                            by_cases c17 : 0 ≤ (rd (rd_L1 l1 x24_2) x30_3)
                            · rw [if_pos c17] at H
                              have c17b0 : decide (0 ≤ (rd (rd_L1 l1 x24_2) x30_3)) = true := decide_eq_true c17
                              clear c17
                              by_cases c18 : (rd (rd_L1 l1 x24_2) x30_3) < (l0.length : Int)
                              · rw [if_pos c18] at H
                                have c18b0 : decide ((rd (rd_L1 l1 x24_2) x30_3) < (l0.length : Int)) = true := decide_eq_true c18
                                clear c18
                                replace H := Option.bind_eq_some_iff.mp H
                                obtain ⟨t340, A190, H⟩ := H
                                replace H : (if t340 = true then (impl_RestrictMeasure.l1 k3 l0 x5_3 x6_2 (wrap64 (x9_3 + 1)) l1 (l1.length : Int) x24_2 (rd_L1 l1 x24_2) ((rd_L1 l1 x24_2).length : Int) (wrap64 (x30_3 + 1))) else (impl_RestrictMeasure.l1 k3 l0 (wrap64 (x5_3 + x6_2)) x6_2 x9_3 l1 (l1.length : Int) x24_2 (rd_L1 l1 x24_2) ((rd_L1 l1 x24_2).length : Int) (wrap64 (x30_3 + 1)))) = some r := H
                                have A19 := Aside0.mk A190
                                clear A190
                                by_cases c20 : t340 = true
                                · subst c20
                                  have H1 : (impl_RestrictMeasure.l1 k3 l0 x5_3 x6_2 (wrap64 (x9_3 + 1)) l1 (l1.length : Int) x24_2 (rd_L1 l1 x24_2) ((rd_L1 l1 x24_2).length : Int) (wrap64 (x30_3 + 1))) = some r := by rw [if_pos rfl] at H; exact H
                                  clear H
                                  have H := H1
                                  clear H1
                                  have H' := Aside0.mk H
                                  clear H
                                  have p338 : 0 ≤ (x30_3 : Int) := of_decide_eq_true (by first | (with_reducible assumption) | assumption)
                                  have q338 : x30_3 < ((rd_L1 l1 x24_2).length : Int) := of_decide_eq_true (by first | (with_reducible assumption) | assumption)
                                  obtain ⟨ad338, e338, hx338_0⟩ := Kd.at_int HR337_0.out x30_3 p338 q338
                                  cases e338
                                  replace hx338_0 := (HB.out.cell (World.block_lt_of_cell? w _ hx338_0)).trans hx338_0
                                  replace p338 := eq_true p338
                                  replace q338 := eq_true q338
                                  have p339 : 0 ≤ ((rd (rd_L1 l1 x24_2) x30_3) : Int) := of_decide_eq_true (by first | (with_reducible assumption) | assumption)
                                  have q339 : (rd (rd_L1 l1 x24_2) x30_3) < (l0.length : Int) := of_decide_eq_true (by first | (with_reducible assumption) | assumption)
                                  obtain ⟨ad339, e339, hx339_0⟩ := Kd.at_string HR0.out (rd (rd_L1 l1 x24_2) x30_3) p339 q339
                                  cases e339
                                  replace hx339_0 := (HB.out.cell (World.block_lt_of_cell? w _ hx339_0)).trans hx339_0
                                  replace p339 := eq_true p339
                                  replace q339 := eq_true q339
                                  go_wp2_with (first | ((with_reducible refine gate_callee (f := 106) rfl ?_); refine goesL_ (some 38) rfl rfl Try.func106 (by kernel_rfl) rfl #[.string (rdOf ByteArray.empty l0 (rd (rd_L1 l1 x24_2) x30_3))] rfl (by (try simp only [List.map_toArray, List.map_cons, List.map_nil]); first | done | rfl | (simp only [List.length_drop, List.length_take]; rfl)) ?_; (with_reducible refine (impl_IsMarkedness.calls k3 (rdOf ByteArray.empty l0 (rd (rd_L1 l1 x24_2) x30_3)) true _ A19.out).mono ?_); rintro e w21 ⟨rfl, hb⟩; refine ⟨_, rfl, ?_⟩; have n0_ := Aside0.mk (below_step (by repeat (first | (with_reducible first | exact HB.out | apply below_alloc | apply pw_below_drewN | apply below_drew1) | exact HB.out)) hb); clear HB; have HB := n0_; clear n0_; (try clear hb); (try clear hb2); (try clear hk); (try clear hi)))
                                  go_roundg k3
                                  case measure => have := HJ2.out; have := HK2.out; have := HK3.out; omega
                                  case rel => exact ⟨(x5_3), (wrap64 (x9_3 + 1)), (wrap64 (x30_3 + 1)), (by first | rfl | (simp; done) | (simp [*]; done)), (by first | rfl | (simp; done) | (simp [*]; done)), (by first | rfl | (simp; done) | (simp [*]; done)), H', ⟨by have := HJ2.out; have := HK2.out; have := HK3.out; omega⟩, ⟨by repeat (first | (with_reducible first | exact HB.out | apply below_alloc | apply pw_below_drewN | apply below_drew1) | exact HB.out)⟩⟩
                                · replace c20 := Bool.eq_false_iff.mpr c20
                                  subst c20
                                  have H1 : (impl_RestrictMeasure.l1 k3 l0 (wrap64 (x5_3 + x6_2)) x6_2 x9_3 l1 (l1.length : Int) x24_2 (rd_L1 l1 x24_2) ((rd_L1 l1 x24_2).length : Int) (wrap64 (x30_3 + 1))) = some r := by rw [if_neg (show ¬ (false = true) by decide)] at H; exact H
                                  clear H
                                  have H := H1
                                  clear H1
                                  have H' := Aside0.mk H
                                  clear H
                                  have p338 : 0 ≤ (x30_3 : Int) := of_decide_eq_true (by first | (with_reducible assumption) | assumption)
                                  have q338 : x30_3 < ((rd_L1 l1 x24_2).length : Int) := of_decide_eq_true (by first | (with_reducible assumption) | assumption)
                                  obtain ⟨ad338, e338, hx338_0⟩ := Kd.at_int HR337_0.out x30_3 p338 q338
                                  cases e338
                                  replace hx338_0 := (HB.out.cell (World.block_lt_of_cell? w _ hx338_0)).trans hx338_0
                                  replace p338 := eq_true p338
                                  replace q338 := eq_true q338
                                  have p339 : 0 ≤ ((rd (rd_L1 l1 x24_2) x30_3) : Int) := of_decide_eq_true (by first | (with_reducible assumption) | assumption)
                                  have q339 : (rd (rd_L1 l1 x24_2) x30_3) < (l0.length : Int) := of_decide_eq_true (by first | (with_reducible assumption) | assumption)
                                  obtain ⟨ad339, e339, hx339_0⟩ := Kd.at_string HR0.out (rd (rd_L1 l1 x24_2) x30_3) p339 q339
                                  cases e339
                                  replace hx339_0 := (HB.out.cell (World.block_lt_of_cell? w _ hx339_0)).trans hx339_0
                                  replace p339 := eq_true p339
                                  replace q339 := eq_true q339
                                  go_wp2_with (first | ((with_reducible refine gate_callee (f := 106) rfl ?_); refine goesL_ (some 38) rfl rfl Try.func106 (by kernel_rfl) rfl #[.string (rdOf ByteArray.empty l0 (rd (rd_L1 l1 x24_2) x30_3))] rfl (by (try simp only [List.map_toArray, List.map_cons, List.map_nil]); first | done | rfl | (simp only [List.length_drop, List.length_take]; rfl)) ?_; (with_reducible refine (impl_IsMarkedness.calls k3 (rdOf ByteArray.empty l0 (rd (rd_L1 l1 x24_2) x30_3)) false _ A19.out).mono ?_); rintro e w22 ⟨rfl, hb⟩; refine ⟨_, rfl, ?_⟩; have n0_ := Aside0.mk (below_step (by repeat (first | (with_reducible first | exact HB.out | apply below_alloc | apply pw_below_drewN | apply below_drew1) | exact HB.out)) hb); clear HB; have HB := n0_; clear n0_; (try clear hb); (try clear hb2); (try clear hk); (try clear hi)))
                                  go_roundg k3
                                  case measure => have := HJ2.out; have := HK2.out; have := HK3.out; omega
                                  case rel => exact ⟨(wrap64 (x5_3 + x6_2)), (x9_3), (wrap64 (x30_3 + 1)), (by first | rfl | (simp; done) | (simp [*]; done)), (by first | rfl | (simp; done) | (simp [*]; done)), (by first | rfl | (simp; done) | (simp [*]; done)), H', ⟨by have := HJ2.out; have := HK2.out; have := HK3.out; omega⟩, ⟨by repeat (first | (with_reducible first | exact HB.out | apply below_alloc | apply pw_below_drewN | apply below_drew1) | exact HB.out)⟩⟩
                              · rw [if_neg c18] at H
                                exact absurd H (by simp)
                            · rw [if_neg c17] at H
                              exact absurd H (by simp)
                          · rw [if_neg c16] at H
                            exact absurd H (by simp)
                        · rw [if_neg c15] at H
                          exact absurd H (by simp)
                      · rw [if_neg c14] at H
                        have c14b0 : decide (x30_3 < ((rd_L1 l1 x24_2).length : Int)) = false := decide_eq_false c14
                        clear c14
                        have H' := Aside0.mk H
                        clear H
                        go_wp2
                        go_roundg k3
                        case measure => have := HJ2.out; have := HK2.out; have := HK3.out; omega
                        case rel => exact ⟨(x5_3), (wrap64 (x6_2 + x9_3)), (wrap64 (x24_2 + 1)), (by first | rfl | (simp; done) | (simp [*]; done)), (by first | rfl | (simp; done) | (simp [*]; done)), (by first | rfl | (simp; done) | (simp [*]; done)), H', ⟨by have := HJ2.out; have := HK2.out; have := HK3.out; omega⟩, ⟨by repeat (first | (with_reducible first | exact HB.out | apply below_alloc | apply pw_below_drewN | apply below_drew1) | exact HB.out)⟩⟩
                · rw [if_neg c13] at H
                  exact absurd H (by simp)
              · rw [if_neg c12] at H
                exact absurd H (by simp)
            · rw [if_neg c11] at H
              have c11b0 : decide (x24_2 < (l1.length : Int)) = false := decide_eq_false c11
              clear c11
              obtain rfl := Option.some.inj H
              go_wp2
              go_ret
              exact ⟨by first | rfl | (simp [errW_none, errW_some] <;> rfl) | (simp [*, errW_none, errW_some] <;> rfl), by repeat (first | (with_reducible first | exact HB.out | apply below_alloc | apply pw_below_drewN | apply below_drew1) | exact HB.out)⟩

/-! ### impl_BestMeasure: function 75 -/
mutual
def impl_BestMeasure.l0 : Nat → List ByteArray → Int → List (List Int) → Int → Int → Option (Int)
  | 0, _, _, _, _, _ => none
  | k + 1, x1, x5, x17, x18, x19 => if x19 < x18 then (if 0 ≤ x19 then (if x19 < (x17.length : Int) then (impl_BestMeasure.l1 k x1 x5 (([] : List (List Int))) x17 x18 x19 (rd_L1 x17 x19) ((rd_L1 x17 x19).length : Int) 0) else (none)) else (none)) else (some x5)
def impl_BestMeasure.l1 : Nat → List ByteArray → Int → List (List Int) → List (List Int) → Int → Int → List Int → Int → Int → Option (Int)
  | 0, _, _, _, _, _, _, _, _, _ => none
  | k + 1, x1, x5, x8, x17, x18, x19, x24, x25, x26 => if x26 < x25 then (if 0 ≤ x26 then (if x26 < (x24.length : Int) then (if x8.length < 5864062014805 then (impl_BestMeasure.l1 k x1 x5 (x8 ++ [(([rd x24 x26] : List Int))]) x17 x18 x19 x24 x25 (wrap64 (x26 + 1))) else (none)) else (none)) else (none)) else ((impl_RestrictMeasure.f k x1 x8).bind fun t356 => (impl_BestMeasure.l0 k x1 (mx x5 t356) x17 x18 (wrap64 (x19 + 1))))
end
def impl_BestMeasure.f (k : Nat) (l0 : List (S96)) (l1 : List ByteArray) : Option (Int) := (impl_AreConstraints.f k l1).bind fun t341 => (if t341 = true then ((impl_ModelsOf.f k l0 (l1.length : Int)).bind fun t342 => (impl_BestMeasure.l0 k l1 (-1) t342 (t342.length : Int) 0)) else (some (-1)))
theorem impl_BestMeasure.mono_l : ∀ k, (∀ y0 y1 y2 y3 y4, LeO (impl_BestMeasure.l0 k y0 y1 y2 y3 y4) (impl_BestMeasure.l0 (k + 1) y0 y1 y2 y3 y4)) ∧ (∀ y0 y1 y2 y3 y4 y5 y6 y7 y8, LeO (impl_BestMeasure.l1 k y0 y1 y2 y3 y4 y5 y6 y7 y8) (impl_BestMeasure.l1 (k + 1) y0 y1 y2 y3 y4 y5 y6 y7 y8))
  | 0 => ⟨fun _ _ _ _ _ r h => by simp [impl_BestMeasure.l0] at h, fun _ _ _ _ _ _ _ _ _ r h => by simp [impl_BestMeasure.l1] at h⟩
  | k + 1 => by
    obtain ⟨ih0, ih1⟩ := impl_BestMeasure.mono_l k
    refine ⟨?_, ?_⟩
    · intro y0 y1 y2 y3 y4
      unfold impl_BestMeasure.l0
      repeat' first
      | (with_reducible exact ih0 _ _ _ _ _)
      | (with_reducible exact ih1 _ _ _ _ _ _ _ _ _)
      | (with_reducible exact impl_AreConstraints.mono _ _)
      | (with_reducible exact impl_ModelsOf.mono _ _ _)
      | (with_reducible exact impl_RestrictMeasure.mono _ _ _)
      | (with_reducible exact LeO.refl _)
      | (with_reducible exact LeO.none _)
      | (with_reducible refine LeO.ite ?_ ?_)
      | (with_reducible refine LeO.bind ?_ (fun _ => ?_))
      | exact ih0 _ _ _ _ _
      | exact ih1 _ _ _ _ _ _ _ _ _
      | exact impl_AreConstraints.mono _ _
      | exact impl_ModelsOf.mono _ _ _
      | exact impl_RestrictMeasure.mono _ _ _
      | exact LeO.none _
      | refine LeO.ite ?_ ?_
      | refine LeO.bind ?_ (fun _ => ?_)
    · intro y0 y1 y2 y3 y4 y5 y6 y7 y8
      unfold impl_BestMeasure.l1
      repeat' first
      | (with_reducible exact ih0 _ _ _ _ _)
      | (with_reducible exact ih1 _ _ _ _ _ _ _ _ _)
      | (with_reducible exact impl_AreConstraints.mono _ _)
      | (with_reducible exact impl_ModelsOf.mono _ _ _)
      | (with_reducible exact impl_RestrictMeasure.mono _ _ _)
      | (with_reducible exact LeO.refl _)
      | (with_reducible exact LeO.none _)
      | (with_reducible refine LeO.ite ?_ ?_)
      | (with_reducible refine LeO.bind ?_ (fun _ => ?_))
      | exact ih0 _ _ _ _ _
      | exact ih1 _ _ _ _ _ _ _ _ _
      | exact impl_AreConstraints.mono _ _
      | exact impl_ModelsOf.mono _ _ _
      | exact impl_RestrictMeasure.mono _ _ _
      | exact LeO.none _
      | refine LeO.ite ?_ ?_
      | refine LeO.bind ?_ (fun _ => ?_)
theorem impl_BestMeasure.mono : ∀ a0 a1 k, LeO (impl_BestMeasure.f k a0 a1) (impl_BestMeasure.f (k + 1) a0 a1) := by
  intro a0 a1 k
  obtain ⟨ih0, ih1⟩ := impl_BestMeasure.mono_l k
  unfold impl_BestMeasure.f
  repeat' first
      | (with_reducible exact ih0 _ _ _ _ _)
      | (with_reducible exact ih1 _ _ _ _ _ _ _ _ _)
      | (with_reducible exact impl_AreConstraints.mono _ _)
      | (with_reducible exact impl_ModelsOf.mono _ _ _)
      | (with_reducible exact impl_RestrictMeasure.mono _ _ _)
      | (with_reducible exact LeO.refl _)
      | (with_reducible exact LeO.none _)
      | (with_reducible refine LeO.ite ?_ ?_)
      | (with_reducible refine LeO.bind ?_ (fun _ => ?_))
      | exact ih0 _ _ _ _ _
      | exact ih1 _ _ _ _ _ _ _ _ _
      | exact impl_AreConstraints.mono _ _
      | exact impl_ModelsOf.mono _ _ _
      | exact impl_RestrictMeasure.mono _ _ _
      | exact LeO.none _
      | refine LeO.ite ?_ ?_
      | refine LeO.bind ?_ (fun _ => ?_)
set_option maxHeartbeats 8000000 in
set_option maxRecDepth 100000 in
theorem impl_BestMeasure.calls (k : Nat) (A0 : Option Addr) (c0 : Nat) (l0 : List (S96)) (A1 : Option Addr) (c1 : Nat) (l1 : List ByteArray) (r : Int) (w : World) (hr0 : Kd.C k96 w A0 l0.length l0) (hc0 : l0.length ≤ c0) (hr1 : Kd.C Kd.string w A1 l1.length l1) (hc1 : l1.length ≤ c1) (h : impl_BestMeasure.f k l0 l1 = some r) :
    Calls Try.prog 75 #[.slice A0 l0.length c0, .slice A1 l1.length c1] w fun e w' => e = .returned (.int .i64 r) ∧ Below w.heap.size w w' := by
  have HR0 := Aside0.mk hr0
  have HC0 := Aside0.mk hc0
  clear hr0 hc0
  have HR1 := Aside0.mk hr1
  have HC1 := Aside0.mk hc1
  clear hr1 hc1
  have HB := Aside0.mk (Below.refl w.heap.size w)
  have H : ((impl_AreConstraints.f k l1).bind fun t341 => (if t341 = true then ((impl_ModelsOf.f k l0 (l1.length : Int)).bind fun t342 => (impl_BestMeasure.l0 k l1 (-1) t342 (t342.length : Int) 0)) else (some (-1)))) = some r := h
  clear h
  replace H := Option.bind_eq_some_iff.mp H
  obtain ⟨t341, A30, H⟩ := H
  replace H : (if t341 = true then ((impl_ModelsOf.f k l0 (l1.length : Int)).bind fun t342 => (impl_BestMeasure.l0 k l1 (-1) t342 (t342.length : Int) 0)) else (some (-1))) = some r := H
  have A3 := Aside0.mk A30
  clear A30
  by_cases c4 : t341 = true
  · subst c4
    have H1 : ((impl_ModelsOf.f k l0 (l1.length : Int)).bind fun t342 => (impl_BestMeasure.l0 k l1 (-1) t342 (t342.length : Int) 0)) = some r := by rw [if_pos rfl] at H; exact H
    clear H
    have H := H1
    clear H1
    replace H := Option.bind_eq_some_iff.mp H
    obtain ⟨t342, A50, H⟩ := H
    replace H : (impl_BestMeasure.l0 k l1 (-1) t342 (t342.length : Int) 0) = some r := H
    have A5 := Aside0.mk A50
    clear A50
    have H' := Aside0.mk H
    clear H
    go_enter Try.func75, Try.ntmps75
    go_wp2_with (first | ((with_reducible refine gate_callee (f := 99) rfl ?_); refine goesL_ (some 12) rfl rfl Try.func99 (by kernel_rfl) rfl #[.slice A1 l1.length c1] rfl (by (try simp only [List.map_toArray, List.map_cons, List.map_nil]); first | done | rfl | (simp only [List.length_drop, List.length_take]; rfl)) ?_; (with_reducible refine (impl_AreConstraints.calls k _ _ l1 true _ ?side1 ?side2 A3.out).mono ?_); (case side1 => repeat (first | exact HR1.out | (with_reducible refine Kd.C_alloc ?_ _) | (with_reducible refine Kd.C_drewN ?_ _) | (with_reducible refine Kd.C_drew ?_))); (case side2 => exact HC1.out); rintro e w6 ⟨rfl, hb⟩; refine ⟨_, rfl, ?_⟩; have n0_ := Aside0.mk (below_step (by repeat (first | (with_reducible first | exact HB.out | apply below_alloc | apply pw_below_drewN | apply below_drew1) | exact HB.out)) hb); clear HB; have HB := n0_; clear n0_; (try clear hb); (try clear hb2); (try clear hk); (try clear hi)) | ((with_reducible refine gate_callee (f := 155) rfl ?_); refine goesL_ (some 17) rfl rfl Try.func155 (by kernel_rfl) rfl #[.slice A0 l0.length c0, .int .i64 (l1.length : Int)] rfl (by (try simp only [List.map_toArray, List.map_cons, List.map_nil]); first | done | rfl | (simp only [List.length_drop, List.length_take]; rfl)) ?_; (with_reducible refine (impl_ModelsOf.calls k _ _ l0 (l1.length : Int) t342 _ ?side1 ?side2 A5.out).mono ?_); (case side1 => repeat (first | exact (Kd.C_below HR0.out HB.out) | (with_reducible refine Kd.C_alloc ?_ _) | (with_reducible refine Kd.C_drewN ?_ _) | (with_reducible refine Kd.C_drew ?_))); (case side2 => exact HC0.out); rintro e w7 ⟨v343, rfl, ho0, hb⟩; refine ⟨_, rfl, ?_⟩; have n0_ := Aside0.mk (Kd.N_lower (Kd.N_mono (ok' := fun k_ => True) ho0 (fun k_ hk_ => trivial)) (below_size (by repeat (first | (with_reducible first | exact HB.out | apply below_alloc | apply pw_below_drewN | apply below_drew1) | exact HB.out)))); have n1_ := Aside0.mk (below_step (by repeat (first | (with_reducible first | exact HB.out | apply below_alloc | apply pw_below_drewN | apply below_drew1) | exact HB.out)) hb); clear HB; have HO344 := n0_; have HB := n1_; clear n0_ n1_; (try clear hb); (try clear hb2); (try clear hk); (try clear hi); (try clear ho0); obtain ⟨Ao8, co8, eo8⟩ := Kd.N_slice HO344.out; subst eo8))
    go_loopg [5, 19] k (fun kq v5 v19 w' => ∃ (x5_1 : Int) (x19_1 : Int), v5 = .int .i64 x5_1 ∧ v19 = .int .i64 x19_1 ∧ Aside0 (impl_BestMeasure.l0 kq l1 x5_1 t342 (t342.length : Int) x19_1 = some r) ∧ Aside0 (kq ≤ k) ∧ Aside0 (Kd.N (Kd.slice 3 (Kd.int .i64)) 30 w' w.heap.size (fun _ => True) (.slice Ao8 t342.length co8) t342) ∧ Aside0 (Below w.heap.size w w'))
    case atStart => exact ⟨((-1)), (0), (by first | rfl | (simp; done) | (simp [*]; done)), (by first | rfl | (simp; done) | (simp [*]; done)), H', ⟨Nat.le_refl _⟩, ⟨by (with_reducible repeat (first | apply Kd.N_alloc | apply Kd.N_drewN | apply Kd.N_drew)); exact HO344.out⟩, ⟨by repeat (first | (with_reducible first | exact HB.out | apply below_alloc | apply pw_below_drewN | apply below_drew1) | exact HB.out)⟩⟩
    case round =>
      clear H'
      try clear c1
      try clear p2
      try clear c4
      try clear c7
      obtain ⟨x5_1, x19_1, rfl, rfl, HA, HK1, HO_17, HB⟩ := hrel
      cases gk with
      | zero => exact absurd HA.out (by simp [impl_BestMeasure.l0])
      | succ k1 =>
        have H := HA.out
        clear HA
        simp only [impl_BestMeasure.l0] at H
        by_cases c9 : x19_1 < (t342.length : Int)
        · rw [if_pos c9] at H
          have c9b0 : decide (x19_1 < (t342.length : Int)) = true := decide_eq_true c9
          clear c9
          by_cases c10 : 0 ≤ x19_1
          · rw [if_pos c10] at H
            have c10b0 : decide (0 ≤ x19_1) = true := decide_eq_true c10
            clear c10
            by_cases c11 : x19_1 < (t342.length : Int)
            · rw [if_pos c11] at H
              have c11b0 : decide (x19_1 < (t342.length : Int)) = true := decide_eq_true c11
              clear c11
              obtain ⟨y346, hy346⟩ : ∃ y_ : List (List Int), y_ = (([] : List (List Int))) := ⟨_, rfl⟩
              replace H : (impl_BestMeasure.l1 k1 l1 x5_1 y346 t342 (t342.length : Int) x19_1 (rd_L1 t342 x19_1) ((rd_L1 t342 x19_1).length : Int) 0) = some r := by first | (rw [hy346]; with_reducible exact H) | (have H2_ := (Option.bind_some _ _).symm.trans H; rw [hy346]; with_reducible exact H2_) | (have H2_ := (Option.bind_some _ _).symm.trans H; with_reducible exact H2_) | with_reducible exact H | (rw [hy346]; exact H) | exact H
              have Ny346 := Aside0.mk hy346
              clear hy346
              have H' := Aside0.mk H
              clear H
              have p345 : 0 ≤ (x19_1 : Int) := of_decide_eq_true (by first | (with_reducible assumption) | assumption)
              have q345 : x19_1 < (t342.length : Int) := of_decide_eq_true (by first | (with_reducible assumption) | assumption)
              obtain ⟨ad345, A345_0, c345_0, e345, hx345_0, hl345_0, hi345_0⟩ := at_L1 (Kd.N_reads' HO_17.out).2.2 x19_1 p345 q345
              cases e345
              obtain ⟨ce345, hce345, hMe345, hcc345⟩ := Kd.N_get HO_17.out [] x19_1 p345 (by first | exact q345 | exact of_decide_eq_true (by first | (with_reducible assumption) | assumption) | (have e_ := (Kd.N_reads' HO_17.out).1; omega))
              obtain ⟨ua345_0, uc345_0, rfl, ul345_0, ge345_0⟩ := Kd.FK_slice_open hMe345
              have hv345_0 := hcc345 0 _ rfl
              rw [Nat.add_zero, show ((Kd.slice 3 (Kd.int .i64))).sz = 1 from rfl, Nat.mul_one] at hv345_0
              replace hv345_0 := Option.some.inj (hv345_0.symm.trans hx345_0)
              injection hv345_0 with hva_ hvn_ hvc_
              rw [hva_] at ge345_0
              rw [hvc_] at ul345_0
              have HL345_0 := Aside0.mk (show Kd.V (Kd.int .i64) 3 _ w.heap.size _ _ (rd_L1 t342 x19_1) from Kd.V_mk ul345_0 ge345_0)
              clear hva_ hvn_ hvc_ ge345_0 ul345_0
              clear hcc345 hce345
              have HR345_0 := Aside0.mk hi345_0
              have HC345_0 := Aside0.mk hl345_0
              clear hi345_0 hl345_0
              replace p345 := eq_true p345
              replace q345 := eq_true q345
              go_wp2_with (first | ((with_reducible refine gate_dst (N := 23) rfl ?_); refine Kd.N_lit (Kd.slice 3 (Kd.int .i64)) _ 30 ?hg (N' := 23) ?hd (xs := ([] : List (List Int))) (inner := []) (ok := (fun k_ => some k_ ≠ (.slice (some ad345) t342.length co8 : Value).ownBlock)) (okp := (fun k_ => some k_ ≠ (.slice (some ad345) t342.length co8 : Value).ownBlock)) ?hr ?hp (fun _ hk => hk) ((show ∀ k_, wr.heap.size ≤ k_ → (fun k_ => some k_ ≠ (.slice (some ad345) t342.length co8 : Value).ownBlock) k_ from fun k_ hk => Kd.fresh' (Kd.N_lt (by (with_reducible repeat (first | apply Kd.N_alloc | apply Kd.N_drewN | apply Kd.N_drew)); exact HO_17.out)) k_ hk) _ (Nat.le_refl _)) (Below.refl _ _) (Nat.le_refl _) (by simp) ?_; (case hd => rfl); (case hg => rfl); (case hr => first | (go_simp; done) | (go_simp; rfl)); (case hp => exact (Reps.none _ _)); intro v347 w12 ho13 hb hg_ hnew_; clear hg_ hnew_; (first | rw [← Ny346.out] at ho13 | (simp only [Int.reduceToNat] at ho13; rw [← Ny346.out] at ho13)); have n0_ := Aside0.mk (Kd.N_elder' (by (with_reducible repeat (first | apply Kd.N_alloc | apply Kd.N_drewN | apply Kd.N_drew)); exact HO_17.out) (Kd.N_base ho13) hb); have n1_ := Aside0.mk (Kd.V_elder' (by (with_reducible repeat (first | apply Kd.V_alloc | apply Kd.V_drewN | apply Kd.V_drew)); exact HL345_0.out) (Kd.N_base ho13) hb); have n2_ := Aside0.mk (Kd.N_lower ho13 (below_size (by repeat (first | (with_reducible first | exact HB.out | apply below_alloc | apply pw_below_drewN | apply below_drew1) | exact HB.out)))); have n3_ := Aside0.mk (Kd.C_below (by repeat (first | (with_reducible exact HR345_0.out) | (with_reducible refine Kd.C_alloc ?_ _) | (with_reducible refine Kd.C_drewN ?_ _) | (with_reducible refine Kd.C_drew ?_) | exact HR345_0.out)) hb); have n4_ := Aside0.mk (below_step (by repeat (first | (with_reducible first | exact HB.out | apply below_alloc | apply pw_below_drewN | apply below_drew1) | exact HB.out)) hb); clear HO_17; clear HL345_0; clear HR345_0; clear HB; have HO_17 := n0_; have HL345_0 := n1_; have HO348 := n2_; have HR345_0 := n3_; have HB := n4_; clear n0_ n1_ n2_ n3_ n4_; clear hb ho13))
              go_loopg [8, 26] k1 (fun kq v8 v26 w' => ∃ (x8_2 : List (List Int)) (x26_2 : Int), v26 = .int .i64 x26_2 ∧ Aside0 (impl_BestMeasure.l1 kq l1 x5_1 x8_2 t342 (t342.length : Int) x19_1 (rd_L1 t342 x19_1) ((rd_L1 t342 x19_1).length : Int) x26_2 = some r) ∧ Aside0 (kq ≤ k1) ∧ Aside0 (Kd.N (Kd.slice 3 (Kd.int .i64)) 30 w' w.heap.size (fun k_ => some k_ ≠ ((.slice (some ad345) t342.length co8) : Value).ownBlock) v8 x8_2) ∧ Aside0 (Kd.N (Kd.slice 3 (Kd.int .i64)) 30 w' w.heap.size (fun k_ => some k_ ≠ (v8 : Value).ownBlock) (.slice (some ad345) t342.length co8) t342) ∧ Aside0 (Kd.V (Kd.int .i64) 3 w' w.heap.size (fun k_ => some k_ ≠ (v8 : Value).ownBlock) (.slice A345_0 (rd_L1 t342 x19_1).length c345_0) (rd_L1 t342 x19_1)) ∧ Aside0 (Below w.heap.size w w'))
              case atStart => exact ⟨(y346), (0), (by first | rfl | (simp; done) | (simp [*]; done)), H', ⟨Nat.le_refl _⟩, ⟨by (with_reducible repeat (first | apply Kd.N_alloc | apply Kd.N_drewN | apply Kd.N_drew)); exact HO348.out⟩, ⟨by (with_reducible repeat (first | apply Kd.N_alloc | apply Kd.N_drewN | apply Kd.N_drew)); exact Kd.N_mono HO_17.out (fun _ hk => hk.2)⟩, ⟨by (with_reducible repeat (first | apply Kd.V_alloc | apply Kd.V_drewN | apply Kd.V_drew)); exact Kd.V_mono HL345_0.out (fun _ hk => hk.2)⟩, ⟨by repeat (first | (with_reducible first | exact HB.out | apply below_alloc | apply pw_below_drewN | apply below_drew1) | exact HB.out)⟩⟩
              case round =>
                clear H'
                try clear c1
                try clear p2
                try clear c3
                try clear p3
                try clear q3
                try clear hx3
                try clear c4
                try clear c7
                try clear c9
                try clear c9b0
                try clear c10
                try clear c10b0
                try clear c11
                try clear c11b0
                try clear hx345_0
                try clear p2
                try clear p345
                try clear q345
                obtain ⟨x8_2, x26_2, rfl, HA, HK2, HO_8, HO_17, HL345_0, HB⟩ := hrel
                have HR345_0 := Aside0.mk (Kd.V_reads' HL345_0.out).2.2
                cases gk with
                | zero => exact absurd HA.out (by simp [impl_BestMeasure.l1])
                | succ k2 =>
                  have H := HA.out
                  clear HA
                  simp only [impl_BestMeasure.l1] at H
                  by_cases c14 : x26_2 < ((rd_L1 t342 x19_1).length : Int)
                  · rw [if_pos c14] at H
                    have c14b0 : decide (x26_2 < ((rd_L1 t342 x19_1).length : Int)) = true := decide_eq_true c14
                    clear c14
                    by_cases c15 : 0 ≤ x26_2
                    · rw [if_pos c15] at H
                      have c15b0 : decide (0 ≤ x26_2) = true := decide_eq_true c15
                      clear c15
                      by_cases c16 : x26_2 < ((rd_L1 t342 x19_1).length : Int)
                      · rw [if_pos c16] at H
                        have c16b0 : decide (x26_2 < ((rd_L1 t342 x19_1).length : Int)) = true := decide_eq_true c16
                        clear c16
                        obtain ⟨y350, hy350⟩ : ∃ y_ : List Int, y_ = (([rd (rd_L1 t342 x19_1) x26_2] : List Int)) := ⟨_, rfl⟩
                        replace H : (if x8_2.length < 5864062014805 then (impl_BestMeasure.l1 k2 l1 x5_1 (x8_2 ++ [y350]) t342 (t342.length : Int) x19_1 (rd_L1 t342 x19_1) ((rd_L1 t342 x19_1).length : Int) (wrap64 (x26_2 + 1))) else (none)) = some r := by first | (rw [hy350]; with_reducible exact H) | (have H2_ := (Option.bind_some _ _).symm.trans H; rw [hy350]; with_reducible exact H2_) | (have H2_ := (Option.bind_some _ _).symm.trans H; with_reducible exact H2_) | with_reducible exact H | (rw [hy350]; exact H) | exact H
                        have Ny350 := Aside0.mk hy350
                        clear hy350
                        by_cases c17 : x8_2.length < 5864062014805
                        · rw [if_pos c17] at H
                          have LMc17 := Aside0.mk c17
                          clear c17
                          obtain ⟨y353, hy353⟩ : ∃ y_ : List (List Int), y_ = (x8_2 ++ [y350]) := ⟨_, rfl⟩
                          replace H : (impl_BestMeasure.l1 k2 l1 x5_1 y353 t342 (t342.length : Int) x19_1 (rd_L1 t342 x19_1) ((rd_L1 t342 x19_1).length : Int) (wrap64 (x26_2 + 1))) = some r := by first | (rw [hy353]; with_reducible exact H) | (have H2_ := (Option.bind_some _ _).symm.trans H; rw [hy353]; with_reducible exact H2_) | (have H2_ := (Option.bind_some _ _).symm.trans H; with_reducible exact H2_) | with_reducible exact H | (rw [hy353]; exact H) | exact H
                          have Ny353 := Aside0.mk hy353
                          clear hy353
                          have H' := Aside0.mk H
                          clear H
                          have p349 : 0 ≤ (x26_2 : Int) := of_decide_eq_true (by first | (with_reducible assumption) | assumption)
                          have q349 : x26_2 < ((rd_L1 t342 x19_1).length : Int) := of_decide_eq_true (by first | (with_reducible assumption) | assumption)
                          obtain ⟨ad349, e349, hx349_0⟩ := Kd.at_int HR345_0.out x26_2 p349 q349
                          cases e349
                          clear HR345_0
                          replace p349 := eq_true p349
                          replace q349 := eq_true q349
                          go_wp2_with (first | ((with_reducible refine gate_dst (N := 32) rfl ?_); refine Kd.R_lit (Kd.int .i64) _ 3 ?hg (N := 32) ?hd (xs := ([rd (rd_L1 t342 x19_1) x26_2] : List Int)) (inner := [.int .i64 (rd (rd_L1 t342 x19_1) x26_2)]) (ok := fun _ => True) (okp := fun _ => True) ?hr ?hp (fun _ hk => hk) trivial (Below.refl _ _) (Nat.le_refl _) (by simp) ?_; (case hd => rfl); (case hg => rfl); (case hr => first | (go_simp; done) | (go_simp; rfl)); (case hp => exact (Reps.one (show Kd.M (Kd.int .i64) _ _ _ (rd (rd_L1 t342 x19_1) x26_2) [.int .i64 (rd (rd_L1 t342 x19_1) x26_2)] from rfl) (Reps.none _ _))); intro v351 w18 ho19 hb hg_ hnew_; clear hg_ hnew_; (first | rw [← Ny350.out] at ho19 | (simp only [Int.reduceToNat] at ho19; rw [← Ny350.out] at ho19)); have nV_ := Aside0.mk (Kd.V_elder' (by (with_reducible repeat (first | apply Kd.V_alloc | apply Kd.V_drewN | apply Kd.V_drew)); exact HL345_0.out) (Kd.R_base ho19) hb); clear HL345_0; have HL345_0 := nV_; clear nV_; have n0_ := Aside0.mk (Kd.N_elder' (by (with_reducible repeat (first | apply Kd.N_alloc | apply Kd.N_drewN | apply Kd.N_drew)); exact HO_8.out) (Kd.R_base ho19) hb); have n1_ := Aside0.mk (Kd.N_elder' (by (with_reducible repeat (first | apply Kd.N_alloc | apply Kd.N_drewN | apply Kd.N_drew)); exact HO_17.out) (Kd.R_base ho19) hb); have n2_ := Aside0.mk (Kd.R_lower ho19 (below_size (by repeat (first | (with_reducible first | exact HB.out | apply below_alloc | apply pw_below_drewN | apply below_drew1) | exact HB.out)))); have n3_ := Aside0.mk (below_step (by repeat (first | (with_reducible first | exact HB.out | apply below_alloc | apply pw_below_drewN | apply below_drew1) | exact HB.out)) hb); clear HO_8; clear HO_17; clear HB; have HO_8 := n0_; have HO_17 := n1_; have HO352 := n2_; have HB := n3_; clear n0_ n1_ n2_ n3_; clear hb ho19; obtain ⟨Ao21, co21, eo21⟩ := Kd.R_slice HO352.out; subst eo21) | ((with_reducible refine gate_builtin (b := .append) (xs := #[.tmp 30, .tmp 33]) rfl ?_); at_builtin; refine Kd.N_append (Kd.slice 3 (Kd.int .i64)) (w0 := w) w.heap.size rfl (.tmp 30) (.tmp 33) 22 30 (.slice none 0 0) 24 rfl Try.underlying22 info30 rfl (by decide) (by omega) u8 x8_2 y350 [.slice Ao21 y350.length co21] (fun k_ => some k_ ≠ (.slice (some ad345) t342.length co8 : Value).ownBlock) (fun k_ => ((fun k_ => some k_ ≠ (.slice (some ad345) t342.length co8 : Value).ownBlock)) k_ ∧ some k_ ≠ (u8 : Value).ownBlock) rfl rfl ?aP (fun _ hk => hk) ?aF ?aO ?aB ?aS ?aL ?_; (case aP => exact (Kd.FK_slice_mk (Kd.R_reads' (Kd.R_mono (ok' := (fun k_ => ((fun k_ => some k_ ≠ (.slice (some ad345) t342.length co8 : Value).ownBlock)) k_ ∧ some k_ ≠ (u8 : Value).ownBlock)) (Kd.R_apart' (Kd.R_apart' (HO352.out) (Kd.N_typed HO_17.out) (by decide)) (Kd.N_typed HO_8.out) (by decide)) (fun k_ hk => ⟨hk.1.2, hk.2⟩))).2.1 (Kd.R_F (Kd.R_mono (ok' := (fun k_ => ((fun k_ => some k_ ≠ (.slice (some ad345) t342.length co8 : Value).ownBlock)) k_ ∧ some k_ ≠ (u8 : Value).ownBlock)) (Kd.R_apart' (Kd.R_apart' (HO352.out) (Kd.N_typed HO_17.out) (by decide)) (Kd.N_typed HO_8.out) (by decide)) (fun k_ hk => ⟨hk.1.2, hk.2⟩))))); (case aB => exact (by repeat (first | (with_reducible first | exact HB.out | apply below_alloc | apply pw_below_drewN | apply below_drew1) | exact HB.out))); (case aF => exact (fun k_ hk => Kd.fresh' (Kd.N_lt (by (with_reducible repeat (first | apply Kd.N_alloc | apply Kd.N_drewN | apply Kd.N_drew)); exact HO_17.out)) k_ hk)); (case aO => exact (by (with_reducible repeat (first | apply Kd.N_alloc | apply Kd.N_drewN | apply Kd.N_drew)); exact Kd.N_mono HO_8.out (fun _ hk => hk.1))); (case aS => exact (below_size (by repeat (first | (with_reducible first | exact HB.out | apply below_alloc | apply pw_below_drewN | apply below_drew1) | exact HB.out)))); (case aL => have := LMc17.out; omega); intro v354 w20 ho hb hg hat; rw [← Ny353.out] at ho; have nV_ := Aside0.mk (Kd.V_afterv (ok := (fun k_ => some k_ ≠ (.slice Ao21 y350.length co21 : Value).ownBlock)) (by (with_reducible repeat (first | apply Kd.V_alloc | apply Kd.V_drewN | apply Kd.V_drew)); exact Kd.V_mono HL345_0.out (fun _ hk => ⟨hk.2, hk.1⟩)) hg hat); clear HL345_0; have HL345_0 := nV_; clear nV_; have n0_ := Aside0.mk (Kd.N_afterv (ok := (fun k_ => some k_ ≠ (.slice Ao21 y350.length co21 : Value).ownBlock)) (by (with_reducible repeat (first | apply Kd.N_alloc | apply Kd.N_drewN | apply Kd.N_drew)); exact Kd.N_mono HO_17.out (fun _ hk => ⟨hk.2, hk.1⟩)) hg hat); have n1_ := Aside0.mk (hb); have n2_ := Aside0.mk (ho); clear HO_17; clear HB; clear HO_8; clear HO352; have HO_17 := n0_; have HB := n1_; have HO355 := n2_; clear n0_ n1_ n2_; clear ho hb hg hat))
                          go_roundg k2
                          case measure => have := HK1.out; have := HK2.out; omega
                          case rel => exact ⟨(y353), (wrap64 (x26_2 + 1)), (by first | rfl | (simp; done) | (simp [*]; done)), H', ⟨by have := HK1.out; have := HK2.out; omega⟩, ⟨by (with_reducible repeat (first | apply Kd.N_alloc | apply Kd.N_drewN | apply Kd.N_drew)); exact HO355.out⟩, ⟨by (with_reducible repeat (first | apply Kd.N_alloc | apply Kd.N_drewN | apply Kd.N_drew)); exact Kd.N_mono HO_17.out (fun _ hk => hk.2)⟩, ⟨by (with_reducible repeat (first | apply Kd.V_alloc | apply Kd.V_drewN | apply Kd.V_drew)); exact Kd.V_mono HL345_0.out (fun _ hk => hk.2)⟩, ⟨by repeat (first | (with_reducible first | exact HB.out | apply below_alloc | apply pw_below_drewN | apply below_drew1) | exact HB.out)⟩⟩
                        · rw [if_neg c17] at H
                          exact absurd H (by simp)
                      · rw [if_neg c16] at H
                        exact absurd H (by simp)
                    · rw [if_neg c15] at H
                      exact absurd H (by simp)
                  · rw [if_neg c14] at H
                    have c14b0 : decide (x26_2 < ((rd_L1 t342 x19_1).length : Int)) = false := decide_eq_false c14
                    clear c14
                    replace H := Option.bind_eq_some_iff.mp H
                    obtain ⟨t356, A220, H⟩ := H
                    replace H : (impl_BestMeasure.l0 k2 l1 (mx x5_1 t356) t342 (t342.length : Int) (wrap64 (x19_1 + 1))) = some r := H
                    have A22 := Aside0.mk A220
                    clear A220
                    obtain ⟨ji23, hji23⟩ : ∃ j_ : Int, (mx x5_1 t356) = j_ := ⟨_, rfl⟩
                    replace H : (impl_BestMeasure.l0 k2 l1 ji23 t342 (t342.length : Int) (wrap64 (x19_1 + 1))) = some r := by first | (rw [hji23] at H; exact H) | (simp only [hji23] at H ⊢; exact H)
                    (try rw [hji23] at A22)
                    have hji23_ : (if x5_1 < t356 then t356 else x5_1) = ji23 := hji23
                    have H' := Aside0.mk H
                    clear H
                    obtain ⟨Ao24, co24, eo24⟩ := Kd.N_slice HO_8.out
                    subst eo24
                    go_wp2_with (first | ((with_reducible refine gate_callee (f := 156) rfl ?_); refine goesL_ (some 39) rfl rfl Try.func156 (by kernel_rfl) rfl #[.slice A1 l1.length c1, .slice Ao24 x8_2.length co24] rfl (by (try simp only [List.map_toArray, List.map_cons, List.map_nil]); first | done | rfl | (simp only [List.length_drop, List.length_take]; rfl)) ?_; (with_reducible refine (impl_RestrictMeasure.calls k2 _ _ l1 _ _ x8_2 t356 _ ?side1 ?side2 ?side3 ?side4 A22.out).mono ?_); (case side1 => repeat (first | exact (Kd.C_below HR1.out HB.out) | (with_reducible refine Kd.C_alloc ?_ _) | (with_reducible refine Kd.C_drewN ?_ _) | (with_reducible refine Kd.C_drew ?_))); (case side2 => exact HC1.out); (case side3 => repeat (first | exact (Kd.N_reads' HO_8.out).2.2 | (with_reducible refine Kd.C_alloc ?_ _) | (with_reducible refine Kd.C_drewN ?_ _) | (with_reducible refine Kd.C_drew ?_))); (case side4 => exact (Kd.N_reads' HO_8.out).2.1); rintro e w25 ⟨rfl, hb⟩; refine ⟨_, rfl, ?_⟩; have n0_ := Aside0.mk (Kd.N_below (by (with_reducible repeat (first | apply Kd.N_alloc | apply Kd.N_drewN | apply Kd.N_drew)); exact HO_8.out) hb); have n1_ := Aside0.mk (Kd.N_below (by (with_reducible repeat (first | apply Kd.N_alloc | apply Kd.N_drewN | apply Kd.N_drew)); exact HO_17.out) hb); have n2_ := Aside0.mk (below_step (by repeat (first | (with_reducible first | exact HB.out | apply below_alloc | apply pw_below_drewN | apply below_drew1) | exact HB.out)) hb); clear HO_8; clear HO_17; clear HB; have HO_8 := n0_; have HO_17 := n1_; have HB := n2_; clear n0_ n1_ n2_; (try clear hb); (try clear hb2); (try clear hk); (try clear hi)))
                    go_roundg k2
                    case measure => have := HK1.out; have := HK2.out; omega
                    case rel => exact ⟨(ji23), (wrap64 (x19_1 + 1)), (by first | rfl | (simp; done) | (simp only [← hji23] <;> (first | rfl | simp)) | (simp [*]; done)), (by first | rfl | (simp; done) | (simp [*]; done)), H', ⟨by have := HK1.out; have := HK2.out; omega⟩, ⟨by (with_reducible repeat (first | apply Kd.N_alloc | apply Kd.N_drewN | apply Kd.N_drew)); exact Kd.N_mono HO_17.out (fun _ hk => trivial)⟩, ⟨by repeat (first | (with_reducible first | exact HB.out | apply below_alloc | apply pw_below_drewN | apply below_drew1) | exact HB.out)⟩⟩
            · rw [if_neg c11] at H
              exact absurd H (by simp)
          · rw [if_neg c10] at H
            exact absurd H (by simp)
        · rw [if_neg c9] at H
          have c9b0 : decide (x19_1 < (t342.length : Int)) = false := decide_eq_false c9
          clear c9
          obtain rfl := Option.some.inj H
          go_wp2
          go_ret
          exact ⟨by first | rfl | (simp [errW_none, errW_some] <;> rfl) | (simp [*, errW_none, errW_some] <;> rfl), by repeat (first | (with_reducible first | exact HB.out | apply below_alloc | apply pw_below_drewN | apply below_drew1) | exact HB.out)⟩
  · replace c4 := Bool.eq_false_iff.mpr c4
    subst c4
    have H1 : (some (-1)) = some r := by rw [if_neg (show ¬ (false = true) by decide)] at H; exact H
    clear H
    have H := H1
    clear H1
    obtain rfl := Option.some.inj H
    go_enter Try.func75, Try.ntmps75
    go_wp2_with (first | ((with_reducible refine gate_callee (f := 99) rfl ?_); refine goesL_ (some 12) rfl rfl Try.func99 (by kernel_rfl) rfl #[.slice A1 l1.length c1] rfl (by (try simp only [List.map_toArray, List.map_cons, List.map_nil]); first | done | rfl | (simp only [List.length_drop, List.length_take]; rfl)) ?_; (with_reducible refine (impl_AreConstraints.calls k _ _ l1 false _ ?side1 ?side2 A3.out).mono ?_); (case side1 => repeat (first | exact HR1.out | (with_reducible refine Kd.C_alloc ?_ _) | (with_reducible refine Kd.C_drewN ?_ _) | (with_reducible refine Kd.C_drew ?_))); (case side2 => exact HC1.out); rintro e w26 ⟨rfl, hb⟩; refine ⟨_, rfl, ?_⟩; have n0_ := Aside0.mk (below_step (by repeat (first | (with_reducible first | exact HB.out | apply below_alloc | apply pw_below_drewN | apply below_drew1) | exact HB.out)) hb); clear HB; have HB := n0_; clear n0_; (try clear hb); (try clear hb2); (try clear hk); (try clear hi)))
    go_ret
    exact ⟨by first | rfl | (simp [errW_none, errW_some] <;> rfl) | (simp [*, errW_none, errW_some] <;> rfl), by repeat (first | (with_reducible first | exact HB.out | apply below_alloc | apply pw_below_drewN | apply below_drew1) | exact HB.out)⟩

/-! ### laws_FnExactBestMeasure: function 12 -/
def laws_FnExactBestMeasure.f (k : Nat) (l0 : List (S91)) (l1 : List ByteArray) : Option (Bool) := (laws_szRowS.f k l0 1048576).bind fun t357 => (if t357 < 0 then (some true) else ((laws_szStringS.f k l1 t357).bind fun t358 => (if t358 < 0 then (some true) else ((laws_toRowS.f k l0).bind fun t359 => ((laws_toStringS.f k l1).bind fun t362 => ((spec_BestMeasure.f k t359 t362).bind fun t365 => ((laws_toRowS.f k l0).bind fun t366 => ((laws_toStringS.f k l1).bind fun t369 => ((impl_BestMeasure.f k t366 t369).bind fun t372 => (if t372 = t365 then ((laws_toRowS.f k l0).bind fun t373 => ((laws_eqRowS.f k t366 t373).bind fun t376 => (if t376 = true then ((laws_toStringS.f k l1).bind fun t377 => ((laws_eqStringS.f k t369 t377).bind fun t380 => (if t380 = true then (some true) else (some false)))) else (some false)))) else (some false)))))))))))
set_option maxHeartbeats 16000000 in
set_option maxRecDepth 100000 in
theorem laws_FnExactBestMeasure.calls (k : Nat) (A0 : Option Addr) (c0 : Nat) (l0 : List (S91)) (A1 : Option Addr) (c1 : Nat) (l1 : List ByteArray) (r : Bool) (w : World) (hr0 : Kd.C k91 w A0 l0.length l0) (hc0 : l0.length ≤ c0) (hr1 : Kd.C Kd.string w A1 l1.length l1) (hc1 : l1.length ≤ c1) (hr_ : r = true) (h : laws_FnExactBestMeasure.f k l0 l1 = some r) :
    Calls Try.prog 12 #[.slice A0 l0.length c0, .slice A1 l1.length c1] w fun e w' => e = .returned (.bool r) ∧ Below w.heap.size w w' := by
  have HR0 := Aside0.mk hr0
  have HC0 := Aside0.mk hc0
  clear hr0 hc0
  have HR1 := Aside0.mk hr1
  have HC1 := Aside0.mk hc1
  clear hr1 hc1
  have HB := Aside0.mk (Below.refl w.heap.size w)
  have H : ((laws_szRowS.f k l0 1048576).bind fun t357 => (if t357 < 0 then (some true) else ((laws_szStringS.f k l1 t357).bind fun t358 => (if t358 < 0 then (some true) else ((laws_toRowS.f k l0).bind fun t359 => ((laws_toStringS.f k l1).bind fun t362 => ((spec_BestMeasure.f k t359 t362).bind fun t365 => ((laws_toRowS.f k l0).bind fun t366 => ((laws_toStringS.f k l1).bind fun t369 => ((impl_BestMeasure.f k t366 t369).bind fun t372 => (if t372 = t365 then ((laws_toRowS.f k l0).bind fun t373 => ((laws_eqRowS.f k t366 t373).bind fun t376 => (if t376 = true then ((laws_toStringS.f k l1).bind fun t377 => ((laws_eqStringS.f k t369 t377).bind fun t380 => (if t380 = true then (some true) else (some false)))) else (some false)))) else (some false)))))))))))) = some r := h
  clear h
  replace H := Option.bind_eq_some_iff.mp H
  obtain ⟨t357, E10, H⟩ := H
  replace H : (if t357 < 0 then (some true) else ((laws_szStringS.f k l1 t357).bind fun t358 => (if t358 < 0 then (some true) else ((laws_toRowS.f k l0).bind fun t359 => ((laws_toStringS.f k l1).bind fun t362 => ((spec_BestMeasure.f k t359 t362).bind fun t365 => ((laws_toRowS.f k l0).bind fun t366 => ((laws_toStringS.f k l1).bind fun t369 => ((impl_BestMeasure.f k t366 t369).bind fun t372 => (if t372 = t365 then ((laws_toRowS.f k l0).bind fun t373 => ((laws_eqRowS.f k t366 t373).bind fun t376 => (if t376 = true then ((laws_toStringS.f k l1).bind fun t377 => ((laws_eqStringS.f k t369 t377).bind fun t380 => (if t380 = true then (some true) else (some false)))) else (some false)))) else (some false))))))))))) = some r := H
  have E1 := Aside0.mk E10
  clear E10
  by_cases c2 : t357 < 0
  · rw [if_pos c2] at H
    have c2b0 : decide (t357 < 0) = true := decide_eq_true c2
    clear c2
    obtain rfl := Option.some.inj H
    go_enter Try.func12, Try.ntmps12
    go_wp2_with (first | ((with_reducible refine gate_callee (f := 42) rfl ?_); refine goesL_ (some 12) rfl rfl Try.func42 (by kernel_rfl) rfl #[.slice A0 l0.length c0, .int .i64 1048576] rfl (by (try simp only [List.map_toArray, List.map_cons, List.map_nil]); first | done | rfl) ?_; (with_reducible refine (laws_szRowS.calls k _ _ l0 1048576 t357 _ ?side1 ?side2 E1.out).mono ?_); (case side1 => repeat (first | exact (Kd.C_below HR0.out HB.out) | (with_reducible refine Kd.C_alloc ?_ _) | (with_reducible refine Kd.C_drewN ?_ _) | (with_reducible refine Kd.C_drew ?_))); (case side2 => exact HC0.out); rintro e w3 ⟨rfl, hb⟩; refine ⟨_, rfl, ?_⟩; have hs_ := Go.Proofs.Ytndcgckgkkhbpaa.Law.adv (wl := w) (by repeat (first | exact Below.refl _ _ | apply below_alloc | apply pw_below_drewN | apply below_drew1)) hb; have z_ := Aside0.mk (Go.Proofs.Ytndcgckgkkhbpaa.Law.advB HB.out hs_); clear HB; have HB := z_; clear z_; have HZ4 := Aside0.mk (below_size hs_); clear hs_ hb))
    go_ret
    exact ⟨by first | rfl | (simp; done) | (simp [*]; done), Go.Proofs.Ytndcgckgkkhbpaa.Law.advB HB.out (by repeat (first | exact Below.refl _ _ | apply below_alloc | apply pw_below_drewN | apply below_drew1))⟩
  · rw [if_neg c2] at H
    have c2b0 : decide (t357 < 0) = false := decide_eq_false c2
    clear c2
    replace H := Option.bind_eq_some_iff.mp H
    obtain ⟨t358, E50, H⟩ := H
    replace H : (if t358 < 0 then (some true) else ((laws_toRowS.f k l0).bind fun t359 => ((laws_toStringS.f k l1).bind fun t362 => ((spec_BestMeasure.f k t359 t362).bind fun t365 => ((laws_toRowS.f k l0).bind fun t366 => ((laws_toStringS.f k l1).bind fun t369 => ((impl_BestMeasure.f k t366 t369).bind fun t372 => (if t372 = t365 then ((laws_toRowS.f k l0).bind fun t373 => ((laws_eqRowS.f k t366 t373).bind fun t376 => (if t376 = true then ((laws_toStringS.f k l1).bind fun t377 => ((laws_eqStringS.f k t369 t377).bind fun t380 => (if t380 = true then (some true) else (some false)))) else (some false)))) else (some false))))))))) = some r := H
    have E5 := Aside0.mk E50
    clear E50
    by_cases c6 : t358 < 0
    · rw [if_pos c6] at H
      have c6b0 : decide (t358 < 0) = true := decide_eq_true c6
      clear c6
      obtain rfl := Option.some.inj H
      go_enter Try.func12, Try.ntmps12
      go_wp2_with (first | ((with_reducible refine gate_callee (f := 42) rfl ?_); refine goesL_ (some 12) rfl rfl Try.func42 (by kernel_rfl) rfl #[.slice A0 l0.length c0, .int .i64 1048576] rfl (by (try simp only [List.map_toArray, List.map_cons, List.map_nil]); first | done | rfl) ?_; (with_reducible refine (laws_szRowS.calls k _ _ l0 1048576 t357 _ ?side1 ?side2 E1.out).mono ?_); (case side1 => repeat (first | exact (Kd.C_below HR0.out HB.out) | (with_reducible refine Kd.C_alloc ?_ _) | (with_reducible refine Kd.C_drewN ?_ _) | (with_reducible refine Kd.C_drew ?_))); (case side2 => exact HC0.out); rintro e w7 ⟨rfl, hb⟩; refine ⟨_, rfl, ?_⟩; have hs_ := Go.Proofs.Ytndcgckgkkhbpaa.Law.adv (wl := w) (by repeat (first | exact Below.refl _ _ | apply below_alloc | apply pw_below_drewN | apply below_drew1)) hb; have z_ := Aside0.mk (Go.Proofs.Ytndcgckgkkhbpaa.Law.advB HB.out hs_); clear HB; have HB := z_; clear z_; have HZ8 := Aside0.mk (below_size hs_); clear hs_ hb) | ((with_reducible refine gate_callee (f := 43) rfl ?_); refine goesL_ (some 17) rfl rfl Try.func43 (by kernel_rfl) rfl #[.slice A1 l1.length c1, .int .i64 t357] rfl (by (try simp only [List.map_toArray, List.map_cons, List.map_nil]); first | done | rfl) ?_; (with_reducible refine (laws_szStringS.calls k _ _ l1 t357 t358 _ ?side1 ?side2 E5.out).mono ?_); (case side1 => repeat (first | exact (Kd.C_below HR1.out HB.out) | (with_reducible refine Kd.C_alloc ?_ _) | (with_reducible refine Kd.C_drewN ?_ _) | (with_reducible refine Kd.C_drew ?_))); (case side2 => exact HC1.out); rintro e w' ⟨rfl, ⟨nd, rfl⟩⟩; refine ⟨_, rfl, ?_⟩))
      go_ret
      exact ⟨by first | rfl | (simp; done) | (simp [*]; done), Go.Proofs.Ytndcgckgkkhbpaa.Law.advB HB.out (by repeat (first | exact Below.refl _ _ | apply below_alloc | apply pw_below_drewN | apply below_drew1))⟩
    · rw [if_neg c6] at H
      have c6b0 : decide (t358 < 0) = false := decide_eq_false c6
      clear c6
      replace H := Option.bind_eq_some_iff.mp H
      obtain ⟨t359, E90, H⟩ := H
      replace H : ((laws_toStringS.f k l1).bind fun t362 => ((spec_BestMeasure.f k t359 t362).bind fun t365 => ((laws_toRowS.f k l0).bind fun t366 => ((laws_toStringS.f k l1).bind fun t369 => ((impl_BestMeasure.f k t366 t369).bind fun t372 => (if t372 = t365 then ((laws_toRowS.f k l0).bind fun t373 => ((laws_eqRowS.f k t366 t373).bind fun t376 => (if t376 = true then ((laws_toStringS.f k l1).bind fun t377 => ((laws_eqStringS.f k t369 t377).bind fun t380 => (if t380 = true then (some true) else (some false)))) else (some false)))) else (some false))))))) = some r := H
      have E9 := Aside0.mk E90
      clear E90
      replace H := Option.bind_eq_some_iff.mp H
      obtain ⟨t362, E100, H⟩ := H
      replace H : ((spec_BestMeasure.f k t359 t362).bind fun t365 => ((laws_toRowS.f k l0).bind fun t366 => ((laws_toStringS.f k l1).bind fun t369 => ((impl_BestMeasure.f k t366 t369).bind fun t372 => (if t372 = t365 then ((laws_toRowS.f k l0).bind fun t373 => ((laws_eqRowS.f k t366 t373).bind fun t376 => (if t376 = true then ((laws_toStringS.f k l1).bind fun t377 => ((laws_eqStringS.f k t369 t377).bind fun t380 => (if t380 = true then (some true) else (some false)))) else (some false)))) else (some false)))))) = some r := H
      have E10 := Aside0.mk E100
      clear E100
      replace H := Option.bind_eq_some_iff.mp H
      obtain ⟨t365, E110, H⟩ := H
      replace H : ((laws_toRowS.f k l0).bind fun t366 => ((laws_toStringS.f k l1).bind fun t369 => ((impl_BestMeasure.f k t366 t369).bind fun t372 => (if t372 = t365 then ((laws_toRowS.f k l0).bind fun t373 => ((laws_eqRowS.f k t366 t373).bind fun t376 => (if t376 = true then ((laws_toStringS.f k l1).bind fun t377 => ((laws_eqStringS.f k t369 t377).bind fun t380 => (if t380 = true then (some true) else (some false)))) else (some false)))) else (some false))))) = some r := H
      have E11 := Aside0.mk E110
      clear E110
      replace H := Option.bind_eq_some_iff.mp H
      obtain ⟨t366, E120, H⟩ := H
      replace H : ((laws_toStringS.f k l1).bind fun t369 => ((impl_BestMeasure.f k t366 t369).bind fun t372 => (if t372 = t365 then ((laws_toRowS.f k l0).bind fun t373 => ((laws_eqRowS.f k t366 t373).bind fun t376 => (if t376 = true then ((laws_toStringS.f k l1).bind fun t377 => ((laws_eqStringS.f k t369 t377).bind fun t380 => (if t380 = true then (some true) else (some false)))) else (some false)))) else (some false)))) = some r := H
      have E12 := Aside0.mk E120
      clear E120
      replace H := Option.bind_eq_some_iff.mp H
      obtain ⟨t369, E130, H⟩ := H
      replace H : ((impl_BestMeasure.f k t366 t369).bind fun t372 => (if t372 = t365 then ((laws_toRowS.f k l0).bind fun t373 => ((laws_eqRowS.f k t366 t373).bind fun t376 => (if t376 = true then ((laws_toStringS.f k l1).bind fun t377 => ((laws_eqStringS.f k t369 t377).bind fun t380 => (if t380 = true then (some true) else (some false)))) else (some false)))) else (some false))) = some r := H
      have E13 := Aside0.mk E130
      clear E130
      replace H := Option.bind_eq_some_iff.mp H
      obtain ⟨t372, E140, H⟩ := H
      replace H : (if t372 = t365 then ((laws_toRowS.f k l0).bind fun t373 => ((laws_eqRowS.f k t366 t373).bind fun t376 => (if t376 = true then ((laws_toStringS.f k l1).bind fun t377 => ((laws_eqStringS.f k t369 t377).bind fun t380 => (if t380 = true then (some true) else (some false)))) else (some false)))) else (some false)) = some r := H
      have E14 := Aside0.mk E140
      clear E140
      by_cases c15 : t372 = t365
      · rw [if_pos c15] at H
        have c15b0 : (t372 == t365) = true := beq_iff_eq.mpr c15
        have c15b1 : (t372 != t365) = false := bne_eq_false_iff_eq.mpr c15
        clear c15
        replace H := Option.bind_eq_some_iff.mp H
        obtain ⟨t373, E160, H⟩ := H
        replace H : ((laws_eqRowS.f k t366 t373).bind fun t376 => (if t376 = true then ((laws_toStringS.f k l1).bind fun t377 => ((laws_eqStringS.f k t369 t377).bind fun t380 => (if t380 = true then (some true) else (some false)))) else (some false))) = some r := H
        have E16 := Aside0.mk E160
        clear E160
        replace H := Option.bind_eq_some_iff.mp H
        obtain ⟨t376, E170, H⟩ := H
        replace H : (if t376 = true then ((laws_toStringS.f k l1).bind fun t377 => ((laws_eqStringS.f k t369 t377).bind fun t380 => (if t380 = true then (some true) else (some false)))) else (some false)) = some r := H
        have E17 := Aside0.mk E170
        clear E170
        by_cases c18 : t376 = true
        · subst c18
          replace H : ((laws_toStringS.f k l1).bind fun t377 => ((laws_eqStringS.f k t369 t377).bind fun t380 => (if t380 = true then (some true) else (some false)))) = some r := by rw [if_pos rfl] at H; exact H
          replace H := Option.bind_eq_some_iff.mp H
          obtain ⟨t377, E190, H⟩ := H
          replace H : ((laws_eqStringS.f k t369 t377).bind fun t380 => (if t380 = true then (some true) else (some false))) = some r := H
          have E19 := Aside0.mk E190
          clear E190
          replace H := Option.bind_eq_some_iff.mp H
          obtain ⟨t380, E200, H⟩ := H
          replace H : (if t380 = true then (some true) else (some false)) = some r := H
          have E20 := Aside0.mk E200
          clear E200
          by_cases c21 : t380 = true
          · subst c21
            replace H : (some true) = some r := by rw [if_pos rfl] at H; exact H
            obtain rfl := Option.some.inj H
            go_enter Try.func12, Try.ntmps12
            go_wp2_with (first | ((with_reducible refine gate_callee (f := 42) rfl ?_); refine goesL_ (some 12) rfl rfl Try.func42 (by kernel_rfl) rfl #[.slice A0 l0.length c0, .int .i64 1048576] rfl (by (try simp only [List.map_toArray, List.map_cons, List.map_nil]); first | done | rfl) ?_; (with_reducible refine (laws_szRowS.calls k _ _ l0 1048576 t357 _ ?side1 ?side2 E1.out).mono ?_); (case side1 => repeat (first | exact (Kd.C_below HR0.out HB.out) | (with_reducible refine Kd.C_alloc ?_ _) | (with_reducible refine Kd.C_drewN ?_ _) | (with_reducible refine Kd.C_drew ?_))); (case side2 => exact HC0.out); rintro e w22 ⟨rfl, hb⟩; refine ⟨_, rfl, ?_⟩; have hs_ := Go.Proofs.Ytndcgckgkkhbpaa.Law.adv (wl := w) (by repeat (first | exact Below.refl _ _ | apply below_alloc | apply pw_below_drewN | apply below_drew1)) hb; have z_ := Aside0.mk (Go.Proofs.Ytndcgckgkkhbpaa.Law.advB HB.out hs_); clear HB; have HB := z_; clear z_; have HZ23 := Aside0.mk (below_size hs_); clear hs_ hb) | ((with_reducible refine gate_callee (f := 43) rfl ?_); refine goesL_ (some 17) rfl rfl Try.func43 (by kernel_rfl) rfl #[.slice A1 l1.length c1, .int .i64 t357] rfl (by (try simp only [List.map_toArray, List.map_cons, List.map_nil]); first | done | rfl) ?_; (with_reducible refine (laws_szStringS.calls k _ _ l1 t357 t358 _ ?side1 ?side2 E5.out).mono ?_); (case side1 => repeat (first | exact (Kd.C_below HR1.out HB.out) | (with_reducible refine Kd.C_alloc ?_ _) | (with_reducible refine Kd.C_drewN ?_ _) | (with_reducible refine Kd.C_drew ?_))); (case side2 => exact HC1.out); rintro e w' ⟨rfl, ⟨nd, rfl⟩⟩; refine ⟨_, rfl, ?_⟩) | ((with_reducible refine gate_callee (f := 45) rfl ?_); refine goesL_ (some 21) rfl rfl Try.func45 (by kernel_rfl) rfl #[.slice A0 l0.length c0] rfl (by (try simp only [List.map_toArray, List.map_cons, List.map_nil]); first | done | rfl) ?_; (with_reducible refine (laws_toRowS.calls k _ _ l0 t359 _ ?side1 ?side2 E9.out).mono ?_); (case side1 => repeat (first | exact (Kd.C_below HR0.out HB.out) | (with_reducible refine Kd.C_alloc ?_ _) | (with_reducible refine Kd.C_drewN ?_ _) | (with_reducible refine Kd.C_drew ?_))); (case side2 => exact HC0.out); rintro e w24 ⟨v360, rfl, ho0, hb⟩; refine ⟨_, rfl, ?_⟩; have hs_ := Go.Proofs.Ytndcgckgkkhbpaa.Law.adv (wl := w22) (by repeat (first | exact Below.refl _ _ | apply below_alloc | apply pw_below_drewN | apply below_drew1)) hb; obtain ⟨P26, hp_, hq_⟩ := Go.Proofs.Ytndcgckgkkhbpaa.Law.made_S (wl := w22) (base := w.heap.size) (by repeat (first | exact Below.refl _ _ | apply below_alloc | apply pw_below_drewN | apply below_drew1)) (below_size HB.out) ho0; have HP26 := Aside0.mk hp_; have zHO361 := Aside0.mk hq_; clear hp_ hq_ ho0; have z_ := Aside0.mk (Go.Proofs.Ytndcgckgkkhbpaa.Law.advB HB.out hs_); clear HB; have HB := z_; clear z_; have HZ25 := Aside0.mk (below_size hs_); clear hs_ hb; have HO361 := zHO361; clear zHO361; obtain ⟨Ao27, co28, eo29⟩ := Go.Proofs.Ytndcgckgkkhbpaa.Law.slice_S HO361.out; subst eo29) | ((with_reducible refine gate_callee (f := 46) rfl ?_); refine goesL_ (some 23) rfl rfl Try.func46 (by kernel_rfl) rfl #[.slice A1 l1.length c1] rfl (by (try simp only [List.map_toArray, List.map_cons, List.map_nil]); first | done | rfl) ?_; (with_reducible refine (laws_toStringS.calls k _ _ l1 t362 _ ?side1 ?side2 E10.out).mono ?_); (case side1 => repeat (first | exact (Kd.C_below HR1.out HB.out) | (with_reducible refine Kd.C_alloc ?_ _) | (with_reducible refine Kd.C_drewN ?_ _) | (with_reducible refine Kd.C_drew ?_))); (case side2 => exact HC1.out); rintro e w30 ⟨v363, rfl, ho0, hb⟩; refine ⟨_, rfl, ?_⟩; have hs_ := Go.Proofs.Ytndcgckgkkhbpaa.Law.adv (wl := w24) (by repeat (first | exact Below.refl _ _ | apply below_alloc | apply pw_below_drewN | apply below_drew1)) hb; obtain ⟨P32, hp_, hq_⟩ := Go.Proofs.Ytndcgckgkkhbpaa.Law.made_R (wl := w24) (base := w.heap.size) (by repeat (first | exact Below.refl _ _ | apply below_alloc | apply pw_below_drewN | apply below_drew1)) (below_size HB.out) ho0; have HP32 := Aside0.mk hp_; have zHO364 := Aside0.mk hq_; clear hp_ hq_ ho0; have z_ := Aside0.mk (Kd.S_below HO361.out hs_); clear HO361; have HO361 := z_; clear z_; have z_ := Aside0.mk (Go.Proofs.Ytndcgckgkkhbpaa.Law.advB HB.out hs_); clear HB; have HB := z_; clear z_; have HZ31 := Aside0.mk (below_size hs_); clear hs_ hb; have HO364 := zHO364; clear zHO364; obtain ⟨Ao33, co34, eo35⟩ := Go.Proofs.Ytndcgckgkkhbpaa.Law.slice_R HO364.out; subst eo35) | ((with_reducible refine gate_callee (f := 74) rfl ?_); refine goesL_ (some 24) rfl rfl Try.func74 (by kernel_rfl) rfl #[.slice Ao27 t359.length co28, .slice Ao33 t362.length co34] rfl (by (try simp only [List.map_toArray, List.map_cons, List.map_nil]); first | done | rfl) ?_; (with_reducible refine (spec_BestMeasure.calls k _ _ t359 _ _ t362 t365 _ ?side1 ?side2 ?side3 ?side4 E11.out).mono ?_); (case side1 => repeat (first | exact (Kd.S_reads' HO361.out).2.2 | (with_reducible refine Kd.C_alloc ?_ _) | (with_reducible refine Kd.C_drewN ?_ _) | (with_reducible refine Kd.C_drew ?_))); (case side2 => exact (Kd.S_reads' HO361.out).2.1); (case side3 => repeat (first | exact (Kd.R_reads' HO364.out).2.2 | (with_reducible refine Kd.C_alloc ?_ _) | (with_reducible refine Kd.C_drewN ?_ _) | (with_reducible refine Kd.C_drew ?_))); (case side4 => exact (Kd.R_reads' HO364.out).2.1); rintro e w36 ⟨rfl, hb⟩; refine ⟨_, rfl, ?_⟩; have hs_ := Go.Proofs.Ytndcgckgkkhbpaa.Law.adv (wl := w30) (by repeat (first | exact Below.refl _ _ | apply below_alloc | apply pw_below_drewN | apply below_drew1)) hb; have z_ := Aside0.mk (Kd.S_below HO361.out hs_); clear HO361; have HO361 := z_; clear z_; have z_ := Aside0.mk (Kd.R_below HO364.out hs_); clear HO364; have HO364 := z_; clear z_; have z_ := Aside0.mk (Go.Proofs.Ytndcgckgkkhbpaa.Law.advB HB.out hs_); clear HB; have HB := z_; clear z_; have HZ37 := Aside0.mk (below_size hs_); clear hs_ hb) | ((with_reducible refine gate_callee (f := 45) rfl ?_); refine goesL_ (some 26) rfl rfl Try.func45 (by kernel_rfl) rfl #[.slice A0 l0.length c0] rfl (by (try simp only [List.map_toArray, List.map_cons, List.map_nil]); first | done | rfl) ?_; (with_reducible refine (laws_toRowS.calls k _ _ l0 t366 _ ?side1 ?side2 E12.out).mono ?_); (case side1 => repeat (first | exact (Kd.C_below HR0.out HB.out) | (with_reducible refine Kd.C_alloc ?_ _) | (with_reducible refine Kd.C_drewN ?_ _) | (with_reducible refine Kd.C_drew ?_))); (case side2 => exact HC0.out); rintro e w38 ⟨v367, rfl, ho0, hb⟩; refine ⟨_, rfl, ?_⟩; have hs_ := Go.Proofs.Ytndcgckgkkhbpaa.Law.adv (wl := w36) (by repeat (first | exact Below.refl _ _ | apply below_alloc | apply pw_below_drewN | apply below_drew1)) hb; obtain ⟨P40, hp_, hq_⟩ := Go.Proofs.Ytndcgckgkkhbpaa.Law.made_S (wl := w36) (base := w.heap.size) (by repeat (first | exact Below.refl _ _ | apply below_alloc | apply pw_below_drewN | apply below_drew1)) (below_size HB.out) ho0; have HP40 := Aside0.mk hp_; have zHO368 := Aside0.mk hq_; clear hp_ hq_ ho0; have z_ := Aside0.mk (Kd.S_below HO361.out hs_); clear HO361; have HO361 := z_; clear z_; have z_ := Aside0.mk (Kd.R_below HO364.out hs_); clear HO364; have HO364 := z_; clear z_; have z_ := Aside0.mk (Go.Proofs.Ytndcgckgkkhbpaa.Law.advB HB.out hs_); clear HB; have HB := z_; clear z_; have HZ39 := Aside0.mk (below_size hs_); clear hs_ hb; have HO368 := zHO368; clear zHO368; obtain ⟨Ao41, co42, eo43⟩ := Go.Proofs.Ytndcgckgkkhbpaa.Law.slice_S HO368.out; subst eo43) | ((with_reducible refine gate_callee (f := 46) rfl ?_); refine goesL_ (some 28) rfl rfl Try.func46 (by kernel_rfl) rfl #[.slice A1 l1.length c1] rfl (by (try simp only [List.map_toArray, List.map_cons, List.map_nil]); first | done | rfl) ?_; (with_reducible refine (laws_toStringS.calls k _ _ l1 t369 _ ?side1 ?side2 E13.out).mono ?_); (case side1 => repeat (first | exact (Kd.C_below HR1.out HB.out) | (with_reducible refine Kd.C_alloc ?_ _) | (with_reducible refine Kd.C_drewN ?_ _) | (with_reducible refine Kd.C_drew ?_))); (case side2 => exact HC1.out); rintro e w44 ⟨v370, rfl, ho0, hb⟩; refine ⟨_, rfl, ?_⟩; have hs_ := Go.Proofs.Ytndcgckgkkhbpaa.Law.adv (wl := w38) (by repeat (first | exact Below.refl _ _ | apply below_alloc | apply pw_below_drewN | apply below_drew1)) hb; obtain ⟨P46, hp_, hq_⟩ := Go.Proofs.Ytndcgckgkkhbpaa.Law.made_R (wl := w38) (base := w.heap.size) (by repeat (first | exact Below.refl _ _ | apply below_alloc | apply pw_below_drewN | apply below_drew1)) (below_size HB.out) ho0; have HP46 := Aside0.mk hp_; have zHO371 := Aside0.mk hq_; clear hp_ hq_ ho0; have z_ := Aside0.mk (Kd.S_below HO361.out hs_); clear HO361; have HO361 := z_; clear z_; have z_ := Aside0.mk (Kd.R_below HO364.out hs_); clear HO364; have HO364 := z_; clear z_; have z_ := Aside0.mk (Kd.S_below HO368.out hs_); clear HO368; have HO368 := z_; clear z_; have z_ := Aside0.mk (Go.Proofs.Ytndcgckgkkhbpaa.Law.advB HB.out hs_); clear HB; have HB := z_; clear z_; have HZ45 := Aside0.mk (below_size hs_); clear hs_ hb; have HO371 := zHO371; clear zHO371; obtain ⟨Ao47, co48, eo49⟩ := Go.Proofs.Ytndcgckgkkhbpaa.Law.slice_R HO371.out; subst eo49) | ((with_reducible refine gate_callee (f := 75) rfl ?_); refine goesL_ (some 31) rfl rfl Try.func75 (by kernel_rfl) rfl #[.slice Ao41 t366.length co42, .slice Ao47 t369.length co48] rfl (by (try simp only [List.map_toArray, List.map_cons, List.map_nil]); first | done | rfl) ?_; (with_reducible refine (impl_BestMeasure.calls k _ _ t366 _ _ t369 t372 _ ?side1 ?side2 ?side3 ?side4 E14.out).mono ?_); (case side1 => repeat (first | exact (Kd.S_reads' HO368.out).2.2 | (with_reducible refine Kd.C_alloc ?_ _) | (with_reducible refine Kd.C_drewN ?_ _) | (with_reducible refine Kd.C_drew ?_))); (case side2 => exact (Kd.S_reads' HO368.out).2.1); (case side3 => repeat (first | exact (Kd.R_reads' HO371.out).2.2 | (with_reducible refine Kd.C_alloc ?_ _) | (with_reducible refine Kd.C_drewN ?_ _) | (with_reducible refine Kd.C_drew ?_))); (case side4 => exact (Kd.R_reads' HO371.out).2.1); rintro e w50 ⟨rfl, hb⟩; refine ⟨_, rfl, ?_⟩; have hs_ := Go.Proofs.Ytndcgckgkkhbpaa.Law.adv (wl := w44) (by repeat (first | exact Below.refl _ _ | apply below_alloc | apply pw_below_drewN | apply below_drew1)) hb; have z_ := Aside0.mk (Kd.S_below HO361.out hs_); clear HO361; have HO361 := z_; clear z_; have z_ := Aside0.mk (Kd.R_below HO364.out hs_); clear HO364; have HO364 := z_; clear z_; have z_ := Aside0.mk (Kd.S_below HO368.out hs_); clear HO368; have HO368 := z_; clear z_; have z_ := Aside0.mk (Kd.R_below HO371.out hs_); clear HO371; have HO371 := z_; clear z_; have z_ := Aside0.mk (Go.Proofs.Ytndcgckgkkhbpaa.Law.advB HB.out hs_); clear HB; have HB := z_; clear z_; have HZ51 := Aside0.mk (below_size hs_); clear hs_ hb) | ((with_reducible refine gate_callee (f := 45) rfl ?_); refine goesL_ (some 37) rfl rfl Try.func45 (by kernel_rfl) rfl #[.slice A0 l0.length c0] rfl (by (try simp only [List.map_toArray, List.map_cons, List.map_nil]); first | done | rfl) ?_; (with_reducible refine (laws_toRowS.calls k _ _ l0 t373 _ ?side1 ?side2 E16.out).mono ?_); (case side1 => repeat (first | exact (Kd.C_below HR0.out HB.out) | (with_reducible refine Kd.C_alloc ?_ _) | (with_reducible refine Kd.C_drewN ?_ _) | (with_reducible refine Kd.C_drew ?_))); (case side2 => exact HC0.out); rintro e w52 ⟨v374, rfl, ho0, hb⟩; refine ⟨_, rfl, ?_⟩; have hs_ := Go.Proofs.Ytndcgckgkkhbpaa.Law.adv (wl := w50) (by repeat (first | exact Below.refl _ _ | apply below_alloc | apply pw_below_drewN | apply below_drew1)) hb; obtain ⟨P54, hp_, hq_⟩ := Go.Proofs.Ytndcgckgkkhbpaa.Law.made_S (wl := w50) (base := w.heap.size) (by repeat (first | exact Below.refl _ _ | apply below_alloc | apply pw_below_drewN | apply below_drew1)) (below_size HB.out) ho0; have HP54 := Aside0.mk hp_; have zHO375 := Aside0.mk hq_; clear hp_ hq_ ho0; have z_ := Aside0.mk (Kd.S_below HO361.out hs_); clear HO361; have HO361 := z_; clear z_; have z_ := Aside0.mk (Kd.R_below HO364.out hs_); clear HO364; have HO364 := z_; clear z_; have z_ := Aside0.mk (Kd.S_below HO368.out hs_); clear HO368; have HO368 := z_; clear z_; have z_ := Aside0.mk (Kd.R_below HO371.out hs_); clear HO371; have HO371 := z_; clear z_; have z_ := Aside0.mk (Go.Proofs.Ytndcgckgkkhbpaa.Law.advB HB.out hs_); clear HB; have HB := z_; clear z_; have HZ53 := Aside0.mk (below_size hs_); clear hs_ hb; have HO375 := zHO375; clear zHO375; obtain ⟨Ao55, co56, eo57⟩ := Go.Proofs.Ytndcgckgkkhbpaa.Law.slice_S HO375.out; subst eo57) | ((with_reducible refine gate_callee (f := 48) rfl ?_); refine goesL_ (some 38) rfl rfl Try.func48 (by kernel_rfl) rfl #[.slice Ao41 t366.length co42, .slice Ao55 t373.length co56] rfl (by (try simp only [List.map_toArray, List.map_cons, List.map_nil]); first | done | rfl) ?_; (with_reducible refine (laws_eqRowS.calls k _ _ t366 _ _ t373 true _ ?side1 ?side2 ?side3 ?side4 E17.out).mono ?_); (case side1 => repeat (first | exact (Kd.S_reads' HO368.out).2.2 | (with_reducible refine Kd.C_alloc ?_ _) | (with_reducible refine Kd.C_drewN ?_ _) | (with_reducible refine Kd.C_drew ?_))); (case side2 => exact (Kd.S_reads' HO368.out).2.1); (case side3 => repeat (first | exact (Kd.S_reads' HO375.out).2.2 | (with_reducible refine Kd.C_alloc ?_ _) | (with_reducible refine Kd.C_drewN ?_ _) | (with_reducible refine Kd.C_drew ?_))); (case side4 => exact (Kd.S_reads' HO375.out).2.1); rintro e w58 ⟨rfl, hb⟩; refine ⟨_, rfl, ?_⟩; have hs_ := Go.Proofs.Ytndcgckgkkhbpaa.Law.adv (wl := w52) (by repeat (first | exact Below.refl _ _ | apply below_alloc | apply pw_below_drewN | apply below_drew1)) hb; have z_ := Aside0.mk (Kd.S_below HO361.out hs_); clear HO361; have HO361 := z_; clear z_; have z_ := Aside0.mk (Kd.R_below HO364.out hs_); clear HO364; have HO364 := z_; clear z_; have z_ := Aside0.mk (Kd.S_below HO368.out hs_); clear HO368; have HO368 := z_; clear z_; have z_ := Aside0.mk (Kd.R_below HO371.out hs_); clear HO371; have HO371 := z_; clear z_; have z_ := Aside0.mk (Kd.S_below HO375.out hs_); clear HO375; have HO375 := z_; clear z_; have z_ := Aside0.mk (Go.Proofs.Ytndcgckgkkhbpaa.Law.advB HB.out hs_); clear HB; have HB := z_; clear z_; have HZ59 := Aside0.mk (below_size hs_); clear hs_ hb) | ((with_reducible refine gate_callee (f := 46) rfl ?_); refine goesL_ (some 42) rfl rfl Try.func46 (by kernel_rfl) rfl #[.slice A1 l1.length c1] rfl (by (try simp only [List.map_toArray, List.map_cons, List.map_nil]); first | done | rfl) ?_; (with_reducible refine (laws_toStringS.calls k _ _ l1 t377 _ ?side1 ?side2 E19.out).mono ?_); (case side1 => repeat (first | exact (Kd.C_below HR1.out HB.out) | (with_reducible refine Kd.C_alloc ?_ _) | (with_reducible refine Kd.C_drewN ?_ _) | (with_reducible refine Kd.C_drew ?_))); (case side2 => exact HC1.out); rintro e w60 ⟨v378, rfl, ho0, hb⟩; refine ⟨_, rfl, ?_⟩; have hs_ := Go.Proofs.Ytndcgckgkkhbpaa.Law.adv (wl := w58) (by repeat (first | exact Below.refl _ _ | apply below_alloc | apply pw_below_drewN | apply below_drew1)) hb; obtain ⟨P62, hp_, hq_⟩ := Go.Proofs.Ytndcgckgkkhbpaa.Law.made_R (wl := w58) (base := w.heap.size) (by repeat (first | exact Below.refl _ _ | apply below_alloc | apply pw_below_drewN | apply below_drew1)) (below_size HB.out) ho0; have HP62 := Aside0.mk hp_; have zHO379 := Aside0.mk hq_; clear hp_ hq_ ho0; have z_ := Aside0.mk (Kd.S_below HO361.out hs_); clear HO361; have HO361 := z_; clear z_; have z_ := Aside0.mk (Kd.R_below HO364.out hs_); clear HO364; have HO364 := z_; clear z_; have z_ := Aside0.mk (Kd.S_below HO368.out hs_); clear HO368; have HO368 := z_; clear z_; have z_ := Aside0.mk (Kd.R_below HO371.out hs_); clear HO371; have HO371 := z_; clear z_; have z_ := Aside0.mk (Kd.S_below HO375.out hs_); clear HO375; have HO375 := z_; clear z_; have z_ := Aside0.mk (Go.Proofs.Ytndcgckgkkhbpaa.Law.advB HB.out hs_); clear HB; have HB := z_; clear z_; have HZ61 := Aside0.mk (below_size hs_); clear hs_ hb; have HO379 := zHO379; clear zHO379; obtain ⟨Ao63, co64, eo65⟩ := Go.Proofs.Ytndcgckgkkhbpaa.Law.slice_R HO379.out; subst eo65) | ((with_reducible refine gate_callee (f := 49) rfl ?_); refine goesL_ (some 43) rfl rfl Try.func49 (by kernel_rfl) rfl #[.slice Ao47 t369.length co48, .slice Ao63 t377.length co64] rfl (by (try simp only [List.map_toArray, List.map_cons, List.map_nil]); first | done | rfl) ?_; (with_reducible refine (laws_eqStringS.calls k _ _ t369 _ _ t377 true _ ?side1 ?side2 ?side3 ?side4 E20.out).mono ?_); (case side1 => repeat (first | exact (Kd.R_reads' HO371.out).2.2 | (with_reducible refine Kd.C_alloc ?_ _) | (with_reducible refine Kd.C_drewN ?_ _) | (with_reducible refine Kd.C_drew ?_))); (case side2 => exact (Kd.R_reads' HO371.out).2.1); (case side3 => repeat (first | exact (Kd.R_reads' HO379.out).2.2 | (with_reducible refine Kd.C_alloc ?_ _) | (with_reducible refine Kd.C_drewN ?_ _) | (with_reducible refine Kd.C_drew ?_))); (case side4 => exact (Kd.R_reads' HO379.out).2.1); rintro e w' ⟨rfl, ⟨nd, rfl⟩⟩; refine ⟨_, rfl, ?_⟩))
            go_ret
            exact ⟨by first | rfl | (simp; done) | (simp [*]; done), Go.Proofs.Ytndcgckgkkhbpaa.Law.advB HB.out (by repeat (first | exact Below.refl _ _ | apply below_alloc | apply pw_below_drewN | apply below_drew1))⟩
          · replace c21 := Bool.eq_false_iff.mpr c21
            subst c21
            replace H : (some false) = some r := by rw [if_neg (show ¬ (false = true) by decide)] at H; exact H
            exact absurd (Option.some.inj H) (by rw [hr_]; decide)
        · replace c18 := Bool.eq_false_iff.mpr c18
          subst c18
          replace H : (some false) = some r := by rw [if_neg (show ¬ (false = true) by decide)] at H; exact H
          exact absurd (Option.some.inj H) (by rw [hr_]; decide)
      · rw [if_neg c15] at H
        exact absurd (Option.some.inj H) (by rw [hr_]; decide)

end Go.Proofs.Ytndcgckgkkhbpaa.PFnExactBestMeasure
