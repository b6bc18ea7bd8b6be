/- Walks of Go functions that the law FnExactNewLearner uses: written by this session's program out of the kit's printer; each shows that a call comes to the answers of the Lean function beside it. Conditions: each contract's own. -/
import Derived.Test.YtndcgckgkkhbpaaPFnExactNewLearnerx0
import Derived.Test.YtndcgckgkkhbpaaPFnExactNewLearnerx1
namespace Go.Proofs.Ytndcgckgkkhbpaa.PFnExactNewLearner
open Go.RowKit Go.Proofs.YtndcgckgkkhbpaaW.PrintWords Go.Proofs.YtndcgckgkkhbpaaW.PrintLast Go.Proofs.YtndcgckgkkhbpaaW.PrintMore
attribute [local go_sem] max2_int min2_int max_two min_two max_three min_three max_four min_four   -- for this text's walks alone
set_option linter.unusedVariables false
set_option linter.unusedSimpArgs false

/-! ### laws_eqIntSS: function 29 -/
def laws_eqIntSS.l0 : Nat → List (List Int) → List (List Int) → Int → Option (Bool)
  | 0, _, _, _ => none
  | k + 1, x0, x1, x5 => if x5 < (x0.length : Int) then (if 0 ≤ x5 then (if x5 < (x1.length : Int) then ((laws_eqIntS.f k (rd_L1 x0 x5) (rd_L1 x1 x5)).bind fun t124 => (if t124 = true then (laws_eqIntSS.l0 k x0 x1 (wrap64 (x5 + 1))) else (some false))) else (none)) else (none)) else (some true)
def laws_eqIntSS.f (k : Nat) (l0 : List (List Int)) (l1 : List (List Int)) : Option (Bool) := if (l0.length : Int) = (l1.length : Int) then (laws_eqIntSS.l0 k l0 l1 0) else (some false)
theorem laws_eqIntSS.mono_l : ∀ k, (∀ y0 y1 y2, LeO (laws_eqIntSS.l0 k y0 y1 y2) (laws_eqIntSS.l0 (k + 1) y0 y1 y2))
  | 0 => fun _ _ _ r h => by simp [laws_eqIntSS.l0] at h
  | k + 1 => by
    have ih0 := laws_eqIntSS.mono_l k
    · intro y0 y1 y2
      unfold laws_eqIntSS.l0
      repeat' first
      | (with_reducible exact ih0 _ _ _)
      | (with_reducible exact laws_eqIntS.mono _ _ _)
      | (with_reducible exact LeO.refl _)
      | (with_reducible exact LeO.none _)
      | (with_reducible refine LeO.ite ?_ ?_)
      | (with_reducible refine LeO.bind ?_ (fun _ => ?_))
      | exact ih0 _ _ _
      | exact laws_eqIntS.mono _ _ _
      | exact LeO.none _
      | refine LeO.ite ?_ ?_
      | refine LeO.bind ?_ (fun _ => ?_)
theorem laws_eqIntSS.mono : ∀ a0 a1 k, LeO (laws_eqIntSS.f k a0 a1) (laws_eqIntSS.f (k + 1) a0 a1) := by
  intro a0 a1 k
  have ih0 := laws_eqIntSS.mono_l k
  unfold laws_eqIntSS.f
  repeat' first
      | (with_reducible exact ih0 _ _ _)
      | (with_reducible exact laws_eqIntS.mono _ _ _)
      | (with_reducible exact LeO.refl _)
      | (with_reducible exact LeO.none _)
      | (with_reducible refine LeO.ite ?_ ?_)
      | (with_reducible refine LeO.bind ?_ (fun _ => ?_))
      | exact ih0 _ _ _
      | exact laws_eqIntS.mono _ _ _
      | exact LeO.none _
      | refine LeO.ite ?_ ?_
      | refine LeO.bind ?_ (fun _ => ?_)
set_option maxHeartbeats 8000000 in
set_option maxRecDepth 100000 in
theorem laws_eqIntSS.calls (k : Nat) (A0 : Option Addr) (c0 : Nat) (l0 : List (List Int)) (A1 : Option Addr) (c1 : Nat) (l1 : List (List Int)) (r : Bool) (w : World) (hr0 : Kd.C (Kd.slice 3 (Kd.int .i64)) w A0 l0.length l0) (hc0 : l0.length ≤ c0) (hr1 : Kd.C (Kd.slice 3 (Kd.int .i64)) w A1 l1.length l1) (hc1 : l1.length ≤ c1) (h : laws_eqIntSS.f k l0 l1 = some r) :
    Calls Try.prog 29 #[.slice A0 l0.length c0, .slice A1 l1.length c1] w fun e w' => e = .returned (.bool r) ∧ Drawn0 w w' := by
  have HR0 := Aside0.mk hr0
  have HC0 := Aside0.mk hc0
  clear hr0 hc0
  have HR1 := Aside0.mk hr1
  have HC1 := Aside0.mk hc1
  clear hr1 hc1
  have H : (if (l0.length : Int) = (l1.length : Int) then (laws_eqIntSS.l0 k l0 l1 0) else (some false)) = some r := h
  clear h
  by_cases c3 : (l0.length : Int) = (l1.length : Int)
  · rw [if_pos c3] at H
    have c3b0 : ((l0.length : Int) == (l1.length : Int)) = true := beq_iff_eq.mpr c3
    have c3b1 : ((l0.length : Int) != (l1.length : Int)) = false := bne_eq_false_iff_eq.mpr c3
    have c3b2 : (l0.length == l1.length) = true := by first | simpa using c3 | (simp at c3 ⊢; omega)
    clear c3
    have H' := Aside0.mk H
    clear H
    go_enter Try.func29, Try.ntmps29
    go_wp2
    repeat (go_quiet (fail); try go_wp2)
    go_loopg [5] k (fun kq v5 w' => ∃ (x5_1 : Int), v5 = .int .i64 x5_1 ∧ Aside0 (laws_eqIntSS.l0 kq l0 l1 x5_1 = some r) ∧ Aside0 (kq ≤ k) ∧ Drawn0 w w')
    case atStart => exact ⟨(0), (by first | rfl | (simp; done) | (simp [*]; done)), H', ⟨Nat.le_refl _⟩, by repeat (first | exact Drawn0.refl _ | apply Drawn0.step)⟩
    case round =>
      clear H'
      try clear c1
      try clear c2
      try clear p2
      try clear c3
      try clear c3b0
      try clear c3b1
      try clear c3b2
      obtain ⟨x5_1, rfl, HA, HK1, ⟨m1, rfl⟩⟩ := hrel
      cases gk with
      | zero => exact absurd HA.out (by simp [laws_eqIntSS.l0])
      | succ k1 =>
        have H := HA.out
        clear HA
        simp only [laws_eqIntSS.l0] at H
        by_cases c4 : x5_1 < (l0.length : Int)
        · rw [if_pos c4] at H
          have c4b0 : decide (x5_1 < (l0.length : Int)) = true := decide_eq_true c4
          clear c4
          by_cases c5 : 0 ≤ x5_1
          · rw [if_pos c5] at H
            have c5b0 : decide (0 ≤ x5_1) = true := decide_eq_true c5
            clear c5
            by_cases c6 : x5_1 < (l1.length : Int)
            · rw [if_pos c6] at H
              have c6b0 : decide (x5_1 < (l1.length : Int)) = true := decide_eq_true c6
              clear c6
              replace H := Option.bind_eq_some_iff.mp H
              obtain ⟨t124, A70, H⟩ := H
              replace H : (if t124 = true then (laws_eqIntSS.l0 k1 l0 l1 (wrap64 (x5_1 + 1))) else (some false)) = some r := H
              have A7 := Aside0.mk A70
              clear A70
              by_cases c8 : t124 = true
              · subst c8
                have H1 : (laws_eqIntSS.l0 k1 l0 l1 (wrap64 (x5_1 + 1))) = some r := by rw [if_pos rfl] at H; exact H
                clear H
                have H := H1
                clear H1
                have H' := Aside0.mk H
                clear H
                have p122 : 0 ≤ (x5_1 : Int) := of_decide_eq_true (by first | (with_reducible assumption) | assumption)
                have q122 : x5_1 < (l0.length : Int) := of_decide_eq_true (by first | (with_reducible assumption) | assumption)
                obtain ⟨ad122, A122_0, c122_0, e122, hx122_0, hl122_0, hi122_0⟩ := at_L1 HR0.out x5_1 p122 q122
                cases e122
                have HR122_0 := Aside0.mk hi122_0
                have HC122_0 := Aside0.mk hl122_0
                clear hi122_0 hl122_0
                replace p122 := eq_true p122
                replace q122 := eq_true q122
                have p123 : 0 ≤ (x5_1 : Int) := of_decide_eq_true (by first | (with_reducible assumption) | assumption)
                have q123 : x5_1 < (l1.length : Int) := of_decide_eq_true (by first | (with_reducible assumption) | assumption)
                obtain ⟨ad123, A123_0, c123_0, e123, hx123_0, hl123_0, hi123_0⟩ := at_L1 HR1.out x5_1 p123 q123
                cases e123
                have HR123_0 := Aside0.mk hi123_0
                have HC123_0 := Aside0.mk hl123_0
                clear hi123_0 hl123_0
                replace p123 := eq_true p123
                replace q123 := eq_true q123
                go_wp2_with (first | (go_at_call 28; (with_reducible refine (laws_eqIntS.calls k1 _ _ (rd_L1 l0 x5_1) _ _ (rd_L1 l1 x5_1) true _ ?side1 ?side2 ?side3 ?side4 A7.out).mono ?_); (case side1 => repeat (first | exact HR122_0.out | (with_reducible refine Kd.C_alloc ?_ _) | (with_reducible refine Kd.C_drewN ?_ _) | (with_reducible refine Kd.C_drew ?_))); (case side2 => exact HC122_0.out); (case side3 => repeat (first | exact HR123_0.out | (with_reducible refine Kd.C_alloc ?_ _) | (with_reducible refine Kd.C_drewN ?_ _) | (with_reducible refine Kd.C_drew ?_))); (case side4 => exact HC123_0.out); rintro e w' ⟨rfl, ⟨nd, rfl⟩⟩; (try first | exact ⟨rfl, _, World.drewN_drewN _ _ _⟩ | exact ⟨rfl, _, Eq.trans (World.drewN_drewN _ _ _) (congrArg (World.drewN _) (Nat.add_assoc _ _ _))⟩)))
                repeat (go_quiet (first | (go_at_call 28; (with_reducible refine (laws_eqIntS.calls k1 _ _ (rd_L1 l0 x5_1) _ _ (rd_L1 l1 x5_1) true _ ?side1 ?side2 ?side3 ?side4 A7.out).mono ?_); (case side1 => repeat (first | exact HR122_0.out | (with_reducible refine Kd.C_alloc ?_ _) | (with_reducible refine Kd.C_drewN ?_ _) | (with_reducible refine Kd.C_drew ?_))); (case side2 => exact HC122_0.out); (case side3 => repeat (first | exact HR123_0.out | (with_reducible refine Kd.C_alloc ?_ _) | (with_reducible refine Kd.C_drewN ?_ _) | (with_reducible refine Kd.C_drew ?_))); (case side4 => exact HC123_0.out); rintro e w' ⟨rfl, ⟨nd, rfl⟩⟩; (try first | exact ⟨rfl, _, World.drewN_drewN _ _ _⟩ | exact ⟨rfl, _, Eq.trans (World.drewN_drewN _ _ _) (congrArg (World.drewN _) (Nat.add_assoc _ _ _))⟩))); try go_wp2_with (first | (go_at_call 28; (with_reducible refine (laws_eqIntS.calls k1 _ _ (rd_L1 l0 x5_1) _ _ (rd_L1 l1 x5_1) true _ ?side1 ?side2 ?side3 ?side4 A7.out).mono ?_); (case side1 => repeat (first | exact HR122_0.out | (with_reducible refine Kd.C_alloc ?_ _) | (with_reducible refine Kd.C_drewN ?_ _) | (with_reducible refine Kd.C_drew ?_))); (case side2 => exact HC122_0.out); (case side3 => repeat (first | exact HR123_0.out | (with_reducible refine Kd.C_alloc ?_ _) | (with_reducible refine Kd.C_drewN ?_ _) | (with_reducible refine Kd.C_drew ?_))); (case side4 => exact HC123_0.out); rintro e w' ⟨rfl, ⟨nd, rfl⟩⟩; (try first | exact ⟨rfl, _, World.drewN_drewN _ _ _⟩ | exact ⟨rfl, _, Eq.trans (World.drewN_drewN _ _ _) (congrArg (World.drewN _) (Nat.add_assoc _ _ _))⟩))))
                go_roundg k1
                case measure => have := HK1.out; omega
                case rel => exact ⟨(wrap64 (x5_1 + 1)), (by first | rfl | (simp; done) | (simp [*]; done)), H', ⟨by have := HK1.out; omega⟩, by repeat (first | exact Drawn0.refl _ | apply Drawn0.step)⟩
              · replace c8 := Bool.eq_false_iff.mpr c8
                subst c8
                have H1 : (some false) = some r := by rw [if_neg (show ¬ (false = true) by decide)] at H; exact H
                clear H
                have H := H1
                clear H1
                obtain rfl := Option.some.inj H
                have p122 : 0 ≤ (x5_1 : Int) := of_decide_eq_true (by first | (with_reducible assumption) | assumption)
                have q122 : x5_1 < (l0.length : Int) := of_decide_eq_true (by first | (with_reducible assumption) | assumption)
                obtain ⟨ad122, A122_0, c122_0, e122, hx122_0, hl122_0, hi122_0⟩ := at_L1 HR0.out x5_1 p122 q122
                cases e122
                have HR122_0 := Aside0.mk hi122_0
                have HC122_0 := Aside0.mk hl122_0
                clear hi122_0 hl122_0
                replace p122 := eq_true p122
                replace q122 := eq_true q122
                have p123 : 0 ≤ (x5_1 : Int) := of_decide_eq_true (by first | (with_reducible assumption) | assumption)
                have q123 : x5_1 < (l1.length : Int) := of_decide_eq_true (by first | (with_reducible assumption) | assumption)
                obtain ⟨ad123, A123_0, c123_0, e123, hx123_0, hl123_0, hi123_0⟩ := at_L1 HR1.out x5_1 p123 q123
                cases e123
                have HR123_0 := Aside0.mk hi123_0
                have HC123_0 := Aside0.mk hl123_0
                clear hi123_0 hl123_0
                replace p123 := eq_true p123
                replace q123 := eq_true q123
                go_wp2_with (first | (go_at_call 28; (with_reducible refine (laws_eqIntS.calls k1 _ _ (rd_L1 l0 x5_1) _ _ (rd_L1 l1 x5_1) false _ ?side1 ?side2 ?side3 ?side4 A7.out).mono ?_); (case side1 => repeat (first | exact HR122_0.out | (with_reducible refine Kd.C_alloc ?_ _) | (with_reducible refine Kd.C_drewN ?_ _) | (with_reducible refine Kd.C_drew ?_))); (case side2 => exact HC122_0.out); (case side3 => repeat (first | exact HR123_0.out | (with_reducible refine Kd.C_alloc ?_ _) | (with_reducible refine Kd.C_drewN ?_ _) | (with_reducible refine Kd.C_drew ?_))); (case side4 => exact HC123_0.out); rintro e w' ⟨rfl, ⟨nd, rfl⟩⟩; (try first | exact ⟨rfl, _, World.drewN_drewN _ _ _⟩ | exact ⟨rfl, _, Eq.trans (World.drewN_drewN _ _ _) (congrArg (World.drewN _) (Nat.add_assoc _ _ _))⟩)))
                repeat (go_quiet (first | (go_at_call 28; (with_reducible refine (laws_eqIntS.calls k1 _ _ (rd_L1 l0 x5_1) _ _ (rd_L1 l1 x5_1) false _ ?side1 ?side2 ?side3 ?side4 A7.out).mono ?_); (case side1 => repeat (first | exact HR122_0.out | (with_reducible refine Kd.C_alloc ?_ _) | (with_reducible refine Kd.C_drewN ?_ _) | (with_reducible refine Kd.C_drew ?_))); (case side2 => exact HC122_0.out); (case side3 => repeat (first | exact HR123_0.out | (with_reducible refine Kd.C_alloc ?_ _) | (with_reducible refine Kd.C_drewN ?_ _) | (with_reducible refine Kd.C_drew ?_))); (case side4 => exact HC123_0.out); rintro e w' ⟨rfl, ⟨nd, rfl⟩⟩; (try first | exact ⟨rfl, _, World.drewN_drewN _ _ _⟩ | exact ⟨rfl, _, Eq.trans (World.drewN_drewN _ _ _) (congrArg (World.drewN _) (Nat.add_assoc _ _ _))⟩))); try go_wp2_with (first | (go_at_call 28; (with_reducible refine (laws_eqIntS.calls k1 _ _ (rd_L1 l0 x5_1) _ _ (rd_L1 l1 x5_1) false _ ?side1 ?side2 ?side3 ?side4 A7.out).mono ?_); (case side1 => repeat (first | exact HR122_0.out | (with_reducible refine Kd.C_alloc ?_ _) | (with_reducible refine Kd.C_drewN ?_ _) | (with_reducible refine Kd.C_drew ?_))); (case side2 => exact HC122_0.out); (case side3 => repeat (first | exact HR123_0.out | (with_reducible refine Kd.C_alloc ?_ _) | (with_reducible refine Kd.C_drewN ?_ _) | (with_reducible refine Kd.C_drew ?_))); (case side4 => exact HC123_0.out); rintro e w' ⟨rfl, ⟨nd, rfl⟩⟩; (try first | exact ⟨rfl, _, World.drewN_drewN _ _ _⟩ | exact ⟨rfl, _, Eq.trans (World.drewN_drewN _ _ _) (congrArg (World.drewN _) (Nat.add_assoc _ _ _))⟩))))
                go_ret
                exact ⟨by first | rfl | (simp; done) | (simp [*]; done), by repeat (first | exact Drawn0.refl _ | apply Drawn0.step)⟩
            · rw [if_neg c6] at H
              exact absurd H (by simp)
          · rw [if_neg c5] at H
            exact absurd H (by simp)
        · rw [if_neg c4] at H
          have c4b0 : decide (x5_1 < (l0.length : Int)) = false := decide_eq_false c4
          clear c4
          obtain rfl := Option.some.inj H
          go_wp2
          repeat (go_quiet (fail); try go_wp2)
          go_ret
          exact ⟨by first | rfl | (simp; done) | (simp [*]; done), by repeat (first | exact Drawn0.refl _ | apply Drawn0.step)⟩
  · rw [if_neg c3] at H
    have c3b0 : ((l0.length : Int) == (l1.length : Int)) = false := beq_eq_false_iff_ne.mpr c3
    have c3b1 : ((l0.length : Int) != (l1.length : Int)) = true := bne_iff_ne.mpr c3
    have c3b2 : (l0.length == l1.length) = false := by first | simpa using c3 | (simp at c3 ⊢; omega)
    obtain rfl := Option.some.inj H
    go_enter Try.func29, Try.ntmps29
    go_wp2
    repeat (go_quiet (fail); try go_wp2)
    go_ret
    exact ⟨by first | rfl | (simp; done) | (simp [*]; done), by repeat (first | exact Drawn0.refl _ | apply Drawn0.step)⟩

/-! ### laws_eqLearner: function 16 -/
def laws_eqLearner.f (k : Nat) (a0_0 : Int) (l0_1 : List (List Int)) (a0_2 : Int) (a1_0 : Int) (l1_1 : List (List Int)) (a1_2 : Int) : Option (Bool) := if a0_0 = a1_0 then ((laws_eqIntSS.f k l0_1 l1_1).bind fun t127 => (if t127 = true then (if a0_2 = a1_2 then (some true) else (some false)) else (some false))) else (some false)
theorem laws_eqLearner.mono : ∀ a0 a1 a2 a3 a4 a5 k, LeO (laws_eqLearner.f k a0 a1 a2 a3 a4 a5) (laws_eqLearner.f (k + 1) a0 a1 a2 a3 a4 a5) := by
  intro a0 a1 a2 a3 a4 a5 k
  unfold laws_eqLearner.f
  repeat' first
      | (with_reducible exact laws_eqIntSS.mono _ _ _)
      | (with_reducible exact LeO.refl _)
      | (with_reducible exact LeO.none _)
      | (with_reducible refine LeO.ite ?_ ?_)
      | (with_reducible refine LeO.bind ?_ (fun _ => ?_))
      | exact laws_eqIntSS.mono _ _ _
      | exact LeO.none _
      | refine LeO.ite ?_ ?_
      | refine LeO.bind ?_ (fun _ => ?_)
set_option maxHeartbeats 8000000 in
set_option maxRecDepth 100000 in
theorem laws_eqLearner.calls (k : Nat) (a0_0 : Int) (A0_1 : Option Addr) (c0_1 : Nat) (l0_1 : List (List Int)) (a0_2 : Int) (a1_0 : Int) (A1_1 : Option Addr) (c1_1 : Nat) (l1_1 : List (List Int)) (a1_2 : Int) (r : Bool) (w : World) (hr0_1 : Kd.C (Kd.slice 3 (Kd.int .i64)) w A0_1 l0_1.length l0_1) (hc0_1 : l0_1.length ≤ c0_1) (hr1_1 : Kd.C (Kd.slice 3 (Kd.int .i64)) w A1_1 l1_1.length l1_1) (hc1_1 : l1_1.length ≤ c1_1) (h : laws_eqLearner.f k a0_0 l0_1 a0_2 a1_0 l1_1 a1_2 = some r) :
    Calls Try.prog 16 #[.agg #[.int .i64 a0_0, .slice A0_1 l0_1.length c0_1, .int .i64 a0_2], .agg #[.int .i64 a1_0, .slice A1_1 l1_1.length c1_1, .int .i64 a1_2]] w fun e w' => e = .returned (.bool r) ∧ Below w.heap.size w w' := by
  have hu24 := Try.underlying24
  have HR0_1 := Aside0.mk hr0_1
  have HC0_1 := Aside0.mk hc0_1
  clear hr0_1 hc0_1
  have HR1_1 := Aside0.mk hr1_1
  have HC1_1 := Aside0.mk hc1_1
  clear hr1_1 hc1_1
  have HB := Aside0.mk (Below.refl w.heap.size w)
  have H : (if a0_0 = a1_0 then ((laws_eqIntSS.f k l0_1 l1_1).bind fun t127 => (if t127 = true then (if a0_2 = a1_2 then (some true) else (some false)) else (some false))) else (some false)) = some r := h
  clear h
  by_cases c3 : a0_0 = a1_0
  · rw [if_pos c3] at H
    have c3b0 : (a0_0 == a1_0) = true := beq_iff_eq.mpr c3
    have c3b1 : (a0_0 != a1_0) = false := bne_eq_false_iff_eq.mpr c3
    clear c3
    replace H := Option.bind_eq_some_iff.mp H
    obtain ⟨t127, A40, H⟩ := H
    replace H : (if t127 = true then (if a0_2 = a1_2 then (some true) else (some false)) else (some false)) = some r := H
    have A4 := Aside0.mk A40
    clear A40
    by_cases c5 : t127 = true
    · subst c5
      have H1 : (if a0_2 = a1_2 then (some true) else (some false)) = some r := by rw [if_pos rfl] at H; exact H
      clear H
      have H := H1
      clear H1
      by_cases c6 : a0_2 = a1_2
      · rw [if_pos c6] at H
        have c6b0 : (a0_2 == a1_2) = true := beq_iff_eq.mpr c6
        have c6b1 : (a0_2 != a1_2) = false := bne_eq_false_iff_eq.mpr c6
        clear c6
        obtain rfl := Option.some.inj H
        go_enter Try.func16, Try.ntmps16
        go_wp2_with (first | ((with_reducible refine gate_dst (N := 2) rfl ?_); refine box_event ?hg (N := 2) ?hd (cs := #[.int .i64 a0_0, .slice A0_1 l0_1.length c0_1, .int .i64 a0_2]) (t := 24) ?hr ?_; (case hd => rfl); (case hg => rfl); (case hr => first | (go_simp; done) | (go_simp; rfl)); intro gb125 hg w7 hbox hb; have n0_ := Aside0.mk (below_step (by repeat (first | (with_reducible first | exact HB.out | apply below_alloc | apply pw_below_drewN | apply below_drew1) | exact HB.out)) hb); have n1_ := Aside0.mk (hbox); have n2_ := Aside0.mk ((by rw [hg]; exact (below_size (by repeat (first | (with_reducible first | exact HB.out | apply below_alloc | apply pw_below_drewN | apply below_drew1) | exact HB.out))) : w.heap.size ≤ gb125)); have n3_ := Aside0.mk ((by rw [hg]; exact (below_size (by repeat (first | (with_reducible first | exact HB.out | apply below_alloc | apply pw_below_drewN | apply below_drew1) | exact HB.out))) : w.heap.size ≤ gb125)); clear HB; have HB := n0_; have BK125 := n1_; have GW125 := n2_; have GE125 := n3_; clear n0_ n1_ n2_ n3_; clear hb hbox hg) | ((with_reducible refine gate_dst (N := 3) rfl ?_); refine box_event ?hg (N := 3) ?hd (cs := #[.int .i64 a1_0, .slice A1_1 l1_1.length c1_1, .int .i64 a1_2]) (t := 24) ?hr ?_; (case hd => rfl); (case hg => rfl); (case hr => first | (go_simp; done) | (go_simp; rfl)); intro gb126 hg w8 hbox hb; have n0_ := Aside0.mk (blk_below (g := gb125) (o := .cells #[.int .i64 a0_0, .slice A0_1 l0_1.length c0_1, .int .i64 a0_2] 24 (0, 0)) (by (with_reducible repeat (first | refine blk_drewN ?_ _ | refine blk_drew ?_ | refine blk_alloc ?_ _)); exact BK125.out) hb); have n1_ := Aside0.mk (below_step (by repeat (first | (with_reducible first | exact HB.out | apply below_alloc | apply pw_below_drewN | apply below_drew1 | refine below_set ?_ GE125.out) | exact HB.out)) hb); have n2_ := Aside0.mk (hbox); have n3_ := Aside0.mk ((by rw [hg]; exact (below_size (by repeat (first | (with_reducible first | exact HB.out | apply below_alloc | apply pw_below_drewN | apply below_drew1 | refine below_set ?_ GE125.out) | exact HB.out))) : w.heap.size ≤ gb126)); have n4_ := Aside0.mk ((by rw [hg]; exact (below_size (by repeat (first | (with_reducible first | exact HB.out | apply below_alloc | apply pw_below_drewN | apply below_drew1 | refine below_set ?_ GE125.out) | exact HB.out))) : w.heap.size ≤ gb126)); have n5_ := Aside0.mk ((by rw [hg]; exact Nat.ne_of_lt (blk_lt (g := gb125) (o := .cells #[.int .i64 a0_0, .slice A0_1 l0_1.length c0_1, .int .i64 a0_2] 24 (0, 0)) (by (with_reducible repeat (first | refine blk_drewN ?_ _ | refine blk_drew ?_ | refine blk_alloc ?_ _)); exact BK125.out)) : gb125 ≠ gb126)); have n6_ := Aside0.mk ((by rw [hg]; exact Nat.ne_of_gt (blk_lt (g := gb125) (o := .cells #[.int .i64 a0_0, .slice A0_1 l0_1.length c0_1, .int .i64 a0_2] 24 (0, 0)) (by (with_reducible repeat (first | refine blk_drewN ?_ _ | refine blk_drew ?_ | refine blk_alloc ?_ _)); exact BK125.out)) : gb126 ≠ gb125)); clear BK125; clear HB; have BK125 := n0_; have HB := n1_; have BK126 := n2_; have GW126 := n3_; have GE126 := n4_; have NB125_126 := n5_; have NB126_125 := n6_; clear n0_ n1_ n2_ n3_ n4_ n5_ n6_; clear hb hbox hg; have hnb9 := NB125_126.out; have hnc9 := NB126_125.out; have hcz10_0 : w8.cell? ⟨gb125, 0, none⟩ = some (.int .i64 a0_0) := (blk_cell BK125.out 0).trans rfl; have hcz10_1 : w8.cell? ⟨gb125, 1, none⟩ = some (.slice A0_1 l0_1.length c0_1) := (blk_cell BK125.out 1).trans rfl; have hcz10_2 : w8.cell? ⟨gb125, 2, none⟩ = some (.int .i64 a0_2) := (blk_cell BK125.out 2).trans rfl; have hfz10_0 := blk_frozen BK125.out 0; have hfz10_1 := blk_frozen BK125.out 1; have hfz10_2 := blk_frozen BK125.out 2; have hcz11_0 : w8.cell? ⟨gb126, 0, none⟩ = some (.int .i64 a1_0) := (blk_cell BK126.out 0).trans rfl; have hcz11_1 : w8.cell? ⟨gb126, 1, none⟩ = some (.slice A1_1 l1_1.length c1_1) := (blk_cell BK126.out 1).trans rfl; have hcz11_2 : w8.cell? ⟨gb126, 2, none⟩ = some (.int .i64 a1_2) := (blk_cell BK126.out 2).trans rfl; have hfz11_0 := blk_frozen BK126.out 0; have hfz11_1 := blk_frozen BK126.out 1; have hfz11_2 := blk_frozen BK126.out 2) | ((with_reducible refine gate_callee (f := 29) rfl ?_); refine goesL_ (some 14) rfl rfl Try.func29 (by kernel_rfl) rfl #[.slice A0_1 l0_1.length c0_1, .slice A1_1 l1_1.length c1_1] rfl (by (try simp only [List.map_toArray, List.map_cons, List.map_nil]); first | done | rfl | (simp only [List.length_drop, List.length_take]; rfl)) ?_; (with_reducible refine (laws_eqIntSS.calls k _ _ l0_1 _ _ l1_1 true _ ?side1 ?side2 ?side3 ?side4 A4.out).mono ?_); (case side1 => repeat (first | exact (Kd.C_below HR0_1.out HB.out) | (with_reducible refine Kd.C_alloc ?_ _) | (with_reducible refine Kd.C_drewN ?_ _) | (with_reducible refine Kd.C_drew ?_))); (case side2 => exact HC0_1.out); (case side3 => repeat (first | exact (Kd.C_below HR1_1.out HB.out) | (with_reducible refine Kd.C_alloc ?_ _) | (with_reducible refine Kd.C_drewN ?_ _) | (with_reducible refine Kd.C_drew ?_))); (case side4 => exact HC1_1.out); rintro e w' ⟨rfl, ⟨nd, rfl⟩⟩; refine ⟨_, rfl, ?_⟩))
        go_ret
        exact ⟨by first | rfl | (simp [errW_none, errW_some] <;> rfl) | (simp [*, errW_none, errW_some] <;> rfl), by repeat (first | (with_reducible first | exact HB.out | apply below_alloc | apply pw_below_drewN | apply below_drew1 | refine below_set ?_ GE125.out | refine below_set ?_ GE126.out) | exact HB.out)⟩
      · rw [if_neg c6] at H
        have c6b0 : (a0_2 == a1_2) = false := beq_eq_false_iff_ne.mpr c6
        have c6b1 : (a0_2 != a1_2) = true := bne_iff_ne.mpr c6
        obtain rfl := Option.some.inj H
        go_enter Try.func16, Try.ntmps16
        go_wp2_with (first | ((with_reducible refine gate_dst (N := 2) rfl ?_); refine box_event ?hg (N := 2) ?hd (cs := #[.int .i64 a0_0, .slice A0_1 l0_1.length c0_1, .int .i64 a0_2]) (t := 24) ?hr ?_; (case hd => rfl); (case hg => rfl); (case hr => first | (go_simp; done) | (go_simp; rfl)); intro gb125 hg w12 hbox hb; have n0_ := Aside0.mk (below_step (by repeat (first | (with_reducible first | exact HB.out | apply below_alloc | apply pw_below_drewN | apply below_drew1) | exact HB.out)) hb); have n1_ := Aside0.mk (hbox); have n2_ := Aside0.mk ((by rw [hg]; exact (below_size (by repeat (first | (with_reducible first | exact HB.out | apply below_alloc | apply pw_below_drewN | apply below_drew1) | exact HB.out))) : w.heap.size ≤ gb125)); have n3_ := Aside0.mk ((by rw [hg]; exact (below_size (by repeat (first | (with_reducible first | exact HB.out | apply below_alloc | apply pw_below_drewN | apply below_drew1) | exact HB.out))) : w.heap.size ≤ gb125)); clear HB; have HB := n0_; have BK125 := n1_; have GW125 := n2_; have GE125 := n3_; clear n0_ n1_ n2_ n3_; clear hb hbox hg) | ((with_reducible refine gate_dst (N := 3) rfl ?_); refine box_event ?hg (N := 3) ?hd (cs := #[.int .i64 a1_0, .slice A1_1 l1_1.length c1_1, .int .i64 a1_2]) (t := 24) ?hr ?_; (case hd => rfl); (case hg => rfl); (case hr => first | (go_simp; done) | (go_simp; rfl)); intro gb126 hg w13 hbox hb; have n0_ := Aside0.mk (blk_below (g := gb125) (o := .cells #[.int .i64 a0_0, .slice A0_1 l0_1.length c0_1, .int .i64 a0_2] 24 (0, 0)) (by (with_reducible repeat (first | refine blk_drewN ?_ _ | refine blk_drew ?_ | refine blk_alloc ?_ _)); exact BK125.out) hb); have n1_ := Aside0.mk (below_step (by repeat (first | (with_reducible first | exact HB.out | apply below_alloc | apply pw_below_drewN | apply below_drew1 | refine below_set ?_ GE125.out) | exact HB.out)) hb); have n2_ := Aside0.mk (hbox); have n3_ := Aside0.mk ((by rw [hg]; exact (below_size (by repeat (first | (with_reducible first | exact HB.out | apply below_alloc | apply pw_below_drewN | apply below_drew1 | refine below_set ?_ GE125.out) | exact HB.out))) : w.heap.size ≤ gb126)); have n4_ := Aside0.mk ((by rw [hg]; exact (below_size (by repeat (first | (with_reducible first | exact HB.out | apply below_alloc | apply pw_below_drewN | apply below_drew1 | refine below_set ?_ GE125.out) | exact HB.out))) : w.heap.size ≤ gb126)); have n5_ := Aside0.mk ((by rw [hg]; exact Nat.ne_of_lt (blk_lt (g := gb125) (o := .cells #[.int .i64 a0_0, .slice A0_1 l0_1.length c0_1, .int .i64 a0_2] 24 (0, 0)) (by (with_reducible repeat (first | refine blk_drewN ?_ _ | refine blk_drew ?_ | refine blk_alloc ?_ _)); exact BK125.out)) : gb125 ≠ gb126)); have n6_ := Aside0.mk ((by rw [hg]; exact Nat.ne_of_gt (blk_lt (g := gb125) (o := .cells #[.int .i64 a0_0, .slice A0_1 l0_1.length c0_1, .int .i64 a0_2] 24 (0, 0)) (by (with_reducible repeat (first | refine blk_drewN ?_ _ | refine blk_drew ?_ | refine blk_alloc ?_ _)); exact BK125.out)) : gb126 ≠ gb125)); clear BK125; clear HB; have BK125 := n0_; have HB := n1_; have BK126 := n2_; have GW126 := n3_; have GE126 := n4_; have NB125_126 := n5_; have NB126_125 := n6_; clear n0_ n1_ n2_ n3_ n4_ n5_ n6_; clear hb hbox hg; have hnb14 := NB125_126.out; have hnc14 := NB126_125.out; have hcz15_0 : w13.cell? ⟨gb125, 0, none⟩ = some (.int .i64 a0_0) := (blk_cell BK125.out 0).trans rfl; have hcz15_1 : w13.cell? ⟨gb125, 1, none⟩ = some (.slice A0_1 l0_1.length c0_1) := (blk_cell BK125.out 1).trans rfl; have hcz15_2 : w13.cell? ⟨gb125, 2, none⟩ = some (.int .i64 a0_2) := (blk_cell BK125.out 2).trans rfl; have hfz15_0 := blk_frozen BK125.out 0; have hfz15_1 := blk_frozen BK125.out 1; have hfz15_2 := blk_frozen BK125.out 2; have hcz16_0 : w13.cell? ⟨gb126, 0, none⟩ = some (.int .i64 a1_0) := (blk_cell BK126.out 0).trans rfl; have hcz16_1 : w13.cell? ⟨gb126, 1, none⟩ = some (.slice A1_1 l1_1.length c1_1) := (blk_cell BK126.out 1).trans rfl; have hcz16_2 : w13.cell? ⟨gb126, 2, none⟩ = some (.int .i64 a1_2) := (blk_cell BK126.out 2).trans rfl; have hfz16_0 := blk_frozen BK126.out 0; have hfz16_1 := blk_frozen BK126.out 1; have hfz16_2 := blk_frozen BK126.out 2) | ((with_reducible refine gate_callee (f := 29) rfl ?_); refine goesL_ (some 14) rfl rfl Try.func29 (by kernel_rfl) rfl #[.slice A0_1 l0_1.length c0_1, .slice A1_1 l1_1.length c1_1] rfl (by (try simp only [List.map_toArray, List.map_cons, List.map_nil]); first | done | rfl | (simp only [List.length_drop, List.length_take]; rfl)) ?_; (with_reducible refine (laws_eqIntSS.calls k _ _ l0_1 _ _ l1_1 true _ ?side1 ?side2 ?side3 ?side4 A4.out).mono ?_); (case side1 => repeat (first | exact (Kd.C_below HR0_1.out HB.out) | (with_reducible refine Kd.C_alloc ?_ _) | (with_reducible refine Kd.C_drewN ?_ _) | (with_reducible refine Kd.C_drew ?_))); (case side2 => exact HC0_1.out); (case side3 => repeat (first | exact (Kd.C_below HR1_1.out HB.out) | (with_reducible refine Kd.C_alloc ?_ _) | (with_reducible refine Kd.C_drewN ?_ _) | (with_reducible refine Kd.C_drew ?_))); (case side4 => exact HC1_1.out); rintro e w' ⟨rfl, ⟨nd, rfl⟩⟩; refine ⟨_, rfl, ?_⟩))
        go_ret
        exact ⟨by first | rfl | (simp [errW_none, errW_some] <;> rfl) | (simp [*, errW_none, errW_some] <;> rfl), by repeat (first | (with_reducible first | exact HB.out | apply below_alloc | apply pw_below_drewN | apply below_drew1 | refine below_set ?_ GE125.out | refine below_set ?_ GE126.out) | exact HB.out)⟩
    · replace c5 := Bool.eq_false_iff.mpr c5
      subst c5
      have H1 : (some false) = some r := by rw [if_neg (show ¬ (false = true) by decide)] at H; exact H
      clear H
      have H := H1
      clear H1
      obtain rfl := Option.some.inj H
      go_enter Try.func16, Try.ntmps16
      go_wp2_with (first | ((with_reducible refine gate_dst (N := 2) rfl ?_); refine box_event ?hg (N := 2) ?hd (cs := #[.int .i64 a0_0, .slice A0_1 l0_1.length c0_1, .int .i64 a0_2]) (t := 24) ?hr ?_; (case hd => rfl); (case hg => rfl); (case hr => first | (go_simp; done) | (go_simp; rfl)); intro gb125 hg w17 hbox hb; have n0_ := Aside0.mk (below_step (by repeat (first | (with_reducible first | exact HB.out | apply below_alloc | apply pw_below_drewN | apply below_drew1) | exact HB.out)) hb); have n1_ := Aside0.mk (hbox); have n2_ := Aside0.mk ((by rw [hg]; exact (below_size (by repeat (first | (with_reducible first | exact HB.out | apply below_alloc | apply pw_below_drewN | apply below_drew1) | exact HB.out))) : w.heap.size ≤ gb125)); have n3_ := Aside0.mk ((by rw [hg]; exact (below_size (by repeat (first | (with_reducible first | exact HB.out | apply below_alloc | apply pw_below_drewN | apply below_drew1) | exact HB.out))) : w.heap.size ≤ gb125)); clear HB; have HB := n0_; have BK125 := n1_; have GW125 := n2_; have GE125 := n3_; clear n0_ n1_ n2_ n3_; clear hb hbox hg) | ((with_reducible refine gate_dst (N := 3) rfl ?_); refine box_event ?hg (N := 3) ?hd (cs := #[.int .i64 a1_0, .slice A1_1 l1_1.length c1_1, .int .i64 a1_2]) (t := 24) ?hr ?_; (case hd => rfl); (case hg => rfl); (case hr => first | (go_simp; done) | (go_simp; rfl)); intro gb126 hg w18 hbox hb; have n0_ := Aside0.mk (blk_below (g := gb125) (o := .cells #[.int .i64 a0_0, .slice A0_1 l0_1.length c0_1, .int .i64 a0_2] 24 (0, 0)) (by (with_reducible repeat (first | refine blk_drewN ?_ _ | refine blk_drew ?_ | refine blk_alloc ?_ _)); exact BK125.out) hb); have n1_ := Aside0.mk (below_step (by repeat (first | (with_reducible first | exact HB.out | apply below_alloc | apply pw_below_drewN | apply below_drew1 | refine below_set ?_ GE125.out) | exact HB.out)) hb); have n2_ := Aside0.mk (hbox); have n3_ := Aside0.mk ((by rw [hg]; exact (below_size (by repeat (first | (with_reducible first | exact HB.out | apply below_alloc | apply pw_below_drewN | apply below_drew1 | refine below_set ?_ GE125.out) | exact HB.out))) : w.heap.size ≤ gb126)); have n4_ := Aside0.mk ((by rw [hg]; exact (below_size (by repeat (first | (with_reducible first | exact HB.out | apply below_alloc | apply pw_below_drewN | apply below_drew1 | refine below_set ?_ GE125.out) | exact HB.out))) : w.heap.size ≤ gb126)); have n5_ := Aside0.mk ((by rw [hg]; exact Nat.ne_of_lt (blk_lt (g := gb125) (o := .cells #[.int .i64 a0_0, .slice A0_1 l0_1.length c0_1, .int .i64 a0_2] 24 (0, 0)) (by (with_reducible repeat (first | refine blk_drewN ?_ _ | refine blk_drew ?_ | refine blk_alloc ?_ _)); exact BK125.out)) : gb125 ≠ gb126)); have n6_ := Aside0.mk ((by rw [hg]; exact Nat.ne_of_gt (blk_lt (g := gb125) (o := .cells #[.int .i64 a0_0, .slice A0_1 l0_1.length c0_1, .int .i64 a0_2] 24 (0, 0)) (by (with_reducible repeat (first | refine blk_drewN ?_ _ | refine blk_drew ?_ | refine blk_alloc ?_ _)); exact BK125.out)) : gb126 ≠ gb125)); clear BK125; clear HB; have BK125 := n0_; have HB := n1_; have BK126 := n2_; have GW126 := n3_; have GE126 := n4_; have NB125_126 := n5_; have NB126_125 := n6_; clear n0_ n1_ n2_ n3_ n4_ n5_ n6_; clear hb hbox hg; have hnb19 := NB125_126.out; have hnc19 := NB126_125.out; have hcz20_0 : w18.cell? ⟨gb125, 0, none⟩ = some (.int .i64 a0_0) := (blk_cell BK125.out 0).trans rfl; have hcz20_1 : w18.cell? ⟨gb125, 1, none⟩ = some (.slice A0_1 l0_1.length c0_1) := (blk_cell BK125.out 1).trans rfl; have hcz20_2 : w18.cell? ⟨gb125, 2, none⟩ = some (.int .i64 a0_2) := (blk_cell BK125.out 2).trans rfl; have hfz20_0 := blk_frozen BK125.out 0; have hfz20_1 := blk_frozen BK125.out 1; have hfz20_2 := blk_frozen BK125.out 2; have hcz21_0 : w18.cell? ⟨gb126, 0, none⟩ = some (.int .i64 a1_0) := (blk_cell BK126.out 0).trans rfl; have hcz21_1 : w18.cell? ⟨gb126, 1, none⟩ = some (.slice A1_1 l1_1.length c1_1) := (blk_cell BK126.out 1).trans rfl; have hcz21_2 : w18.cell? ⟨gb126, 2, none⟩ = some (.int .i64 a1_2) := (blk_cell BK126.out 2).trans rfl; have hfz21_0 := blk_frozen BK126.out 0; have hfz21_1 := blk_frozen BK126.out 1; have hfz21_2 := blk_frozen BK126.out 2) | ((with_reducible refine gate_callee (f := 29) rfl ?_); refine goesL_ (some 14) rfl rfl Try.func29 (by kernel_rfl) rfl #[.slice A0_1 l0_1.length c0_1, .slice A1_1 l1_1.length c1_1] rfl (by (try simp only [List.map_toArray, List.map_cons, List.map_nil]); first | done | rfl | (simp only [List.length_drop, List.length_take]; rfl)) ?_; (with_reducible refine (laws_eqIntSS.calls k _ _ l0_1 _ _ l1_1 false _ ?side1 ?side2 ?side3 ?side4 A4.out).mono ?_); (case side1 => repeat (first | exact (Kd.C_below HR0_1.out HB.out) | (with_reducible refine Kd.C_alloc ?_ _) | (with_reducible refine Kd.C_drewN ?_ _) | (with_reducible refine Kd.C_drew ?_))); (case side2 => exact HC0_1.out); (case side3 => repeat (first | exact (Kd.C_below HR1_1.out HB.out) | (with_reducible refine Kd.C_alloc ?_ _) | (with_reducible refine Kd.C_drewN ?_ _) | (with_reducible refine Kd.C_drew ?_))); (case side4 => exact HC1_1.out); rintro e w' ⟨rfl, ⟨nd, rfl⟩⟩; refine ⟨_, rfl, ?_⟩))
      go_ret
      exact ⟨by first | rfl | (simp [errW_none, errW_some] <;> rfl) | (simp [*, errW_none, errW_some] <;> rfl), by repeat (first | (with_reducible first | exact HB.out | apply below_alloc | apply pw_below_drewN | apply below_drew1 | refine below_set ?_ GE125.out | refine below_set ?_ GE126.out) | exact HB.out)⟩
  · rw [if_neg c3] at H
    have c3b0 : (a0_0 == a1_0) = false := beq_eq_false_iff_ne.mpr c3
    have c3b1 : (a0_0 != a1_0) = true := bne_iff_ne.mpr c3
    obtain rfl := Option.some.inj H
    go_enter Try.func16, Try.ntmps16
    go_wp2_with (first | ((with_reducible refine gate_dst (N := 2) rfl ?_); refine box_event ?hg (N := 2) ?hd (cs := #[.int .i64 a0_0, .slice A0_1 l0_1.length c0_1, .int .i64 a0_2]) (t := 24) ?hr ?_; (case hd => rfl); (case hg => rfl); (case hr => first | (go_simp; done) | (go_simp; rfl)); intro gb125 hg w22 hbox hb; have n0_ := Aside0.mk (below_step (by repeat (first | (with_reducible first | exact HB.out | apply below_alloc | apply pw_below_drewN | apply below_drew1) | exact HB.out)) hb); have n1_ := Aside0.mk (hbox); have n2_ := Aside0.mk ((by rw [hg]; exact (below_size (by repeat (first | (with_reducible first | exact HB.out | apply below_alloc | apply pw_below_drewN | apply below_drew1) | exact HB.out))) : w.heap.size ≤ gb125)); have n3_ := Aside0.mk ((by rw [hg]; exact (below_size (by repeat (first | (with_reducible first | exact HB.out | apply below_alloc | apply pw_below_drewN | apply below_drew1) | exact HB.out))) : w.heap.size ≤ gb125)); clear HB; have HB := n0_; have BK125 := n1_; have GW125 := n2_; have GE125 := n3_; clear n0_ n1_ n2_ n3_; clear hb hbox hg) | ((with_reducible refine gate_dst (N := 3) rfl ?_); refine box_event ?hg (N := 3) ?hd (cs := #[.int .i64 a1_0, .slice A1_1 l1_1.length c1_1, .int .i64 a1_2]) (t := 24) ?hr ?_; (case hd => rfl); (case hg => rfl); (case hr => first | (go_simp; done) | (go_simp; rfl)); intro gb126 hg w23 hbox hb; have n0_ := Aside0.mk (blk_below (g := gb125) (o := .cells #[.int .i64 a0_0, .slice A0_1 l0_1.length c0_1, .int .i64 a0_2] 24 (0, 0)) (by (with_reducible repeat (first | refine blk_drewN ?_ _ | refine blk_drew ?_ | refine blk_alloc ?_ _)); exact BK125.out) hb); have n1_ := Aside0.mk (below_step (by repeat (first | (with_reducible first | exact HB.out | apply below_alloc | apply pw_below_drewN | apply below_drew1 | refine below_set ?_ GE125.out) | exact HB.out)) hb); have n2_ := Aside0.mk (hbox); have n3_ := Aside0.mk ((by rw [hg]; exact (below_size (by repeat (first | (with_reducible first | exact HB.out | apply below_alloc | apply pw_below_drewN | apply below_drew1 | refine below_set ?_ GE125.out) | exact HB.out))) : w.heap.size ≤ gb126)); have n4_ := Aside0.mk ((by rw [hg]; exact (below_size (by repeat (first | (with_reducible first | exact HB.out | apply below_alloc | apply pw_below_drewN | apply below_drew1 | refine below_set ?_ GE125.out) | exact HB.out))) : w.heap.size ≤ gb126)); have n5_ := Aside0.mk ((by rw [hg]; exact Nat.ne_of_lt (blk_lt (g := gb125) (o := .cells #[.int .i64 a0_0, .slice A0_1 l0_1.length c0_1, .int .i64 a0_2] 24 (0, 0)) (by (with_reducible repeat (first | refine blk_drewN ?_ _ | refine blk_drew ?_ | refine blk_alloc ?_ _)); exact BK125.out)) : gb125 ≠ gb126)); have n6_ := Aside0.mk ((by rw [hg]; exact Nat.ne_of_gt (blk_lt (g := gb125) (o := .cells #[.int .i64 a0_0, .slice A0_1 l0_1.length c0_1, .int .i64 a0_2] 24 (0, 0)) (by (with_reducible repeat (first | refine blk_drewN ?_ _ | refine blk_drew ?_ | refine blk_alloc ?_ _)); exact BK125.out)) : gb126 ≠ gb125)); clear BK125; clear HB; have BK125 := n0_; have HB := n1_; have BK126 := n2_; have GW126 := n3_; have GE126 := n4_; have NB125_126 := n5_; have NB126_125 := n6_; clear n0_ n1_ n2_ n3_ n4_ n5_ n6_; clear hb hbox hg; have hnb24 := NB125_126.out; have hnc24 := NB126_125.out; have hcz25_0 : w23.cell? ⟨gb125, 0, none⟩ = some (.int .i64 a0_0) := (blk_cell BK125.out 0).trans rfl; have hcz25_1 : w23.cell? ⟨gb125, 1, none⟩ = some (.slice A0_1 l0_1.length c0_1) := (blk_cell BK125.out 1).trans rfl; have hcz25_2 : w23.cell? ⟨gb125, 2, none⟩ = some (.int .i64 a0_2) := (blk_cell BK125.out 2).trans rfl; have hfz25_0 := blk_frozen BK125.out 0; have hfz25_1 := blk_frozen BK125.out 1; have hfz25_2 := blk_frozen BK125.out 2; have hcz26_0 : w23.cell? ⟨gb126, 0, none⟩ = some (.int .i64 a1_0) := (blk_cell BK126.out 0).trans rfl; have hcz26_1 : w23.cell? ⟨gb126, 1, none⟩ = some (.slice A1_1 l1_1.length c1_1) := (blk_cell BK126.out 1).trans rfl; have hcz26_2 : w23.cell? ⟨gb126, 2, none⟩ = some (.int .i64 a1_2) := (blk_cell BK126.out 2).trans rfl; have hfz26_0 := blk_frozen BK126.out 0; have hfz26_1 := blk_frozen BK126.out 1; have hfz26_2 := blk_frozen BK126.out 2))
    go_ret
    exact ⟨by first | rfl | (simp [errW_none, errW_some] <;> rfl) | (simp [*, errW_none, errW_some] <;> rfl), by repeat (first | (with_reducible first | exact HB.out | apply below_alloc | apply pw_below_drewN | apply below_drew1 | refine below_set ?_ GE125.out | refine below_set ?_ GE126.out) | exact HB.out)⟩

/-! ### laws_markIntS: function 31 -/
def laws_markIntS.l0 : Nat → List Int → Int → Int → Option (Int × List Int)
  | 0, _, _, _ => none
  | k + 1, x0, x1, x5 => if x5 < (x0.length : Int) then (if 0 ≤ x5 then (laws_markIntS.l0 k (x0.set (x5 : Int).toNat x1) (wrap64 (x1 + 1)) (wrap64 (x5 + 1))) else (none)) else (some (x1, x0))
def laws_markIntS.f (k : Nat) (l0 : List Int) (a1 : Int) : Option (Int × List Int) := laws_markIntS.l0 k l0 a1 0
theorem laws_markIntS.mono_l : ∀ k, (∀ y0 y1 y2, LeO (laws_markIntS.l0 k y0 y1 y2) (laws_markIntS.l0 (k + 1) y0 y1 y2))
  | 0 => fun _ _ _ r h => by simp [laws_markIntS.l0] at h
  | k + 1 => by
    have ih0 := laws_markIntS.mono_l k
    · intro y0 y1 y2
      unfold laws_markIntS.l0
      repeat' first
      | (with_reducible exact ih0 _ _ _)
      | (with_reducible exact LeO.refl _)
      | (with_reducible exact LeO.none _)
      | (with_reducible refine LeO.ite ?_ ?_)
      | (with_reducible refine LeO.bind ?_ (fun _ => ?_))
      | exact ih0 _ _ _
      | exact LeO.none _
      | refine LeO.ite ?_ ?_
      | refine LeO.bind ?_ (fun _ => ?_)
theorem laws_markIntS.mono : ∀ a0 a1 k, LeO (laws_markIntS.f k a0 a1) (laws_markIntS.f (k + 1) a0 a1) := by
  intro a0 a1 k
  have ih0 := laws_markIntS.mono_l k
  unfold laws_markIntS.f
  repeat' first
      | (with_reducible exact ih0 _ _ _)
      | (with_reducible exact LeO.refl _)
      | (with_reducible exact LeO.none _)
      | (with_reducible refine LeO.ite ?_ ?_)
      | (with_reducible refine LeO.bind ?_ (fun _ => ?_))
      | exact ih0 _ _ _
      | exact LeO.none _
      | refine LeO.ite ?_ ?_
      | refine LeO.bind ?_ (fun _ => ?_)
set_option maxHeartbeats 8000000 in
set_option maxRecDepth 100000 in
theorem laws_markIntS.calls (k : Nat) (P0_ : Nat → Prop) (u9000_ : Value) (l0 : List Int) (a1 : Int) (r1 : Int) (r2 : List Int) (w0 w : World) (hB : Below w0.heap.size w0 w) (ho0 : Kd.R (Kd.int .i64) 3 w w0.heap.size P0_ u9000_ l0) (h : laws_markIntS.f k l0 a1 = some (r1, r2)) :
    Calls Try.prog 31 #[u9000_, .int .i64 a1] w fun e w' => e = .returned (.int .i64 r1) ∧ Kd.R (Kd.int .i64) 3 w' w0.heap.size (fun k_ => (P0_ k_ ∨ w.heap.size ≤ k_)) u9000_ r2 ∧ Below w0.heap.size w0 w' ∧ Kept w w' (fun k_ => P0_ k_) := by
  have HO0 := Aside0.mk (show Kd.R (Kd.int .i64) 3 w w0.heap.size (fun k_ => (P0_ k_ ∨ w.heap.size ≤ k_)) u9000_ l0 from Kd.R_mono ho0 (fun k_ hk => (.inl hk)))
  have HK := Aside0.mk (Kept.refl w (fun k_ => P0_ k_))
  have HW0 := Aside0.mk hB.size
  have HB := Aside0.mk hB
  clear hB
  have H : (laws_markIntS.l0 k l0 a1 0) = some (r1, r2) := h
  clear h
  have H' := Aside0.mk H
  clear H
  go_enter Try.func31, Try.ntmps31
  go_wp2
  go_loopg [1, 5] k (fun kq v1 v5 w' => ∃ (x0_1 : List Int) (x1_1 : Int) (x5_1 : Int), v1 = .int .i64 x1_1 ∧ v5 = .int .i64 x5_1 ∧ Aside0 (laws_markIntS.l0 kq x0_1 x1_1 x5_1 = some (r1, r2)) ∧ Aside0 (kq ≤ k) ∧ Aside0 (Kd.R (Kd.int .i64) 3 w' w0.heap.size (fun k_ => (P0_ k_ ∨ w.heap.size ≤ k_)) u9000_ x0_1) ∧ Aside0 (Kept w w' (fun k_ => P0_ k_)) ∧ Aside0 (Below w0.heap.size w0 w'))
  case atStart => exact ⟨(l0), (a1), (0), (by first | rfl | (simp; done) | (simp [*]; done)), (by first | rfl | (simp; done) | (simp [*]; done)), H', ⟨Nat.le_refl _⟩, ⟨by (with_reducible repeat (first | apply Kd.R_alloc | apply Kd.R_drewN | apply Kd.R_drew)); exact HO0.out⟩, ⟨by repeat (first | (with_reducible first | exact HK.out | apply Kept.alloc | apply Kept.drewN | apply Kept.drew) | exact HK.out)⟩, ⟨by repeat (first | (with_reducible first | exact HB.out | apply below_alloc | apply pw_below_drewN | apply below_drew1) | exact HB.out)⟩⟩
  case round =>
    clear H'
    try clear p2
    obtain ⟨x0_1, x1_1, x5_1, rfl, rfl, HA, HK1, HO_0, HK, HB⟩ := hrel
    cases gk with
    | zero => exact absurd HA.out (by simp [laws_markIntS.l0])
    | succ k1 =>
      have H := HA.out
      clear HA
      simp only [laws_markIntS.l0] at H
      by_cases c3 : x5_1 < (x0_1.length : Int)
      · rw [if_pos c3] at H
        have c3b0 : decide (x5_1 < (x0_1.length : Int)) = true := decide_eq_true c3
        clear c3
        by_cases c4 : 0 ≤ x5_1
        · rw [if_pos c4] at H
          have c4b0 : decide (0 ≤ x5_1) = true := decide_eq_true c4
          clear c4
          obtain ⟨y128, hy128⟩ : ∃ y_ : List Int, y_ = (x0_1.set (x5_1 : Int).toNat x1_1) := ⟨_, rfl⟩
          replace H : (laws_markIntS.l0 k1 y128 (wrap64 (x1_1 + 1)) (wrap64 (x5_1 + 1))) = some (r1, r2) := by first | (rw [hy128]; with_reducible exact H) | (have H2_ := (Option.bind_some _ _).symm.trans H; rw [hy128]; with_reducible exact H2_) | (have H2_ := (Option.bind_some _ _).symm.trans H; with_reducible exact H2_) | with_reducible exact H | (rw [hy128]; exact H) | exact H
          have Ny128 := Aside0.mk hy128
          clear hy128
          have H' := Aside0.mk H
          clear H
          obtain ⟨Ao6, co6, eo6⟩ := Kd.R_slice HO_0.out
          subst eo6
          have p5 : 0 ≤ (x5_1 : Int) := of_decide_eq_true (by first | (with_reducible assumption) | assumption)
          have q5 : (x5_1 : Int) < ((x0_1.length : Int) : Int) := of_decide_eq_true (by first | (with_reducible assumption) | assumption)
          obtain ⟨go5, co5, eo5, gb5, gl5, cl5, HG5⟩ := Kd.R_form HO_0.out (by omega)
          (first | cases eo5 | (injection eo5 with ea_ en_ ec_; (first | subst ea_ | (injection ea_ with ea_; subst ea_)); subst ec_; clear en_))
          have GB5 := Aside0.mk gb5
          have GG5 := Aside0.mk HG5
          clear gb5 gl5 HG5
          have HMgo5 := Aside0.mk (show (P0_ go5 ∨ w.heap.size ≤ go5) from (HO_0.out.1 _ rfl))
          obtain ⟨hx5_0, hf5_0⟩ := Kd.R_celln 0 HO_0.out (x5_1 : Int) p5 q5
          replace p5 := eq_true p5
          replace q5 := eq_true q5
          have HP7 := Kd.R_putg HO_0.out (x5_1 : Int) x1_1
          go_wp2_with (first | ((with_reducible refine gate_store (t := 3) (p := 15) rfl ?_); refine store_event (t := 3) (p := 15) (v := ?vo_w8) (w1 := (wr.setCell ⟨go5, (x5_1 : Int).toNat, none⟩ (.int .i64 x1_1))) ?hg ?ho ?hn ?hr ?_; (case ho => rfl); (case hg => rfl); (case hn => rfl); (case hr => first | (go_simp; done) | (go_simp; rfl)); intro w8 hw; have hg : wr.grownBy w8 (some go5) := (by rw [hw]; exact HP7.2); have hp_ : Kd.R (Kd.int .i64) 3 w8 w0.heap.size (fun k_ => (P0_ k_ ∨ w.heap.size ≤ k_)) (.slice (some ⟨go5, 0, none⟩) x0_1.length co6) y128 := (by rw [hw, Ny128.out]; exact HP7.1); clear HP7; have n0_ := Aside0.mk (hp_); have n1_ := Aside0.mk ((by rw [hw]; exact below_set (HB.out) GB5.out : Below w0.heap.size w0 w8)); have n2_ := Aside0.mk (Kept.of_grown (S := (fun k_ => P0_ k_)) hg (by repeat (first | (with_reducible first | exact HK.out | apply Kept.alloc | apply Kept.drewN | apply Kept.drew) | exact HK.out)) (fun k_ e_ => (HO_0.out.1 k_ e_))); clear HO_0; clear HB; clear HK; have HO_0 := n0_; have HB := n1_; have HK := n2_; clear n0_ n1_ n2_; clear hg hw hp_))
          go_roundg k1
          case measure => have := HK1.out; omega
          case rel => exact ⟨(y128), (wrap64 (x1_1 + 1)), (wrap64 (x5_1 + 1)), (by first | rfl | (simp; done) | (simp [*]; done)), (by first | rfl | (simp; done) | (simp [*]; done)), H', ⟨by have := HK1.out; omega⟩, ⟨by (with_reducible repeat (first | apply Kd.R_alloc | apply Kd.R_drewN | apply Kd.R_drew)); exact HO_0.out⟩, ⟨by repeat (first | (with_reducible first | exact HK.out | apply Kept.alloc | apply Kept.drewN | apply Kept.drew) | exact HK.out)⟩, ⟨by repeat (first | (with_reducible first | exact HB.out | apply below_alloc | apply pw_below_drewN | apply below_drew1) | exact HB.out)⟩⟩
        · rw [if_neg c4] at H
          exact absurd H (by simp)
      · rw [if_neg c3] at H
        have c3b0 : decide (x5_1 < (x0_1.length : Int)) = false := decide_eq_false c3
        clear c3
        simp only [Option.some.injEq, Prod.mk.injEq] at H
        obtain ⟨rfl, rfl⟩ := H
        obtain ⟨Ao9, co9, eo9⟩ := Kd.R_slice HO_0.out
        subst eo9
        go_wp2
        go_ret
        exact ⟨by first | rfl | (simp [errW_none, errW_some] <;> rfl) | (simp [*, errW_none, errW_some] <;> rfl), by (with_reducible repeat (first | apply Kd.R_alloc | apply Kd.R_drewN | apply Kd.R_drew)); exact HO_0.out, by repeat (first | (with_reducible first | exact HB.out | apply below_alloc | apply pw_below_drewN | apply below_drew1) | exact HB.out), by repeat (first | (with_reducible first | exact HK.out | apply Kept.alloc | apply Kept.drewN | apply Kept.drew) | exact HK.out)⟩

/-! ### laws_markIntSS: function 30 -/
def laws_markIntSS.l0 : Nat → List (List Int) → Int → Int → Option (Int × List (List Int))
  | 0, _, _, _ => none
  | k + 1, x0, x1, x5 => if x5 < (x0.length : Int) then (if 0 ≤ x5 then ((laws_markIntS.f k (x0.getD x5.toNat []) x1).bind fun bt => laws_markIntSS.l0 k (x0.set x5.toNat bt.2) bt.1 (wrap64 (x5 + 1))) else none) else some (x1, x0)
def laws_markIntSS.f (k : Nat) (l0 : List (List Int)) (a1 : Int) : Option (Int × List (List Int)) := laws_markIntSS.l0 k l0 a1 0
theorem laws_markIntSS.mono_l : ∀ k, (∀ y0 y1 y2, LeO (laws_markIntSS.l0 k y0 y1 y2) (laws_markIntSS.l0 (k + 1) y0 y1 y2))
  | 0 => fun _ _ _ r h => by simp [laws_markIntSS.l0] at h
  | k + 1 => by
    have ih0 := laws_markIntSS.mono_l k
    intro y0 y1 y2
    unfold laws_markIntSS.l0
    exact LeO.ite (LeO.ite (LeO.bind (laws_markIntS.mono _ _ _) (fun _ => ih0 _ _ _)) (LeO.none _)) (LeO.refl _)
theorem laws_markIntSS.mono : ∀ a0 a1 k, LeO (laws_markIntSS.f k a0 a1) (laws_markIntSS.f (k + 1) a0 a1) := fun a0 a1 k => laws_markIntSS.mono_l k a0 a1 0
set_option maxHeartbeats 2000000 in
set_option maxRecDepth 100000 in
theorem laws_markIntSS.calls (k : Nat) (P0_ : Nat → Prop) (u9000_ : Value) (l0 : List (List Int)) (a1 : Int) (r1 : Int) (r2 : List (List Int)) (w0 w : World) (hB : Below w0.heap.size w0 w) (ho0 : Kd.S (Kd.slice 3 (Kd.int .i64)) 30 w w0.heap.size P0_ u9000_ l0) (h : laws_markIntSS.f k l0 a1 = some (r1, r2)) :
    Calls Try.prog 30 #[u9000_, .int .i64 a1] w fun e w' => e = .returned (.int .i64 r1) ∧ Kd.S (Kd.slice 3 (Kd.int .i64)) 30 w' w0.heap.size (fun k_ => (P0_ k_ ∨ w.heap.size ≤ k_)) u9000_ r2 ∧ Below w0.heap.size w0 w' ∧ Kept w w' (fun k_ => P0_ k_) := by
  have H' : laws_markIntSS.l0 k l0 a1 0 = some (r1, r2) := h
  clear h
  obtain ⟨A, c, rfl⟩ := Kd.S_slice ho0
  generalize hln : l0.length = ln at *
  go_enter Try.func30, Try.ntmps30
  go_wp2
  go_loopg [1, 5] k (fun kq v1 v5 w' => ∃ (x0_1 : List (List Int)) (x1_1 : Int) (x5_1 : Int), v1 = .int .i64 x1_1 ∧ v5 = .int .i64 x5_1 ∧ Aside0 (laws_markIntSS.l0 kq x0_1 x1_1 x5_1 = some (r1, r2)) ∧ Aside0 (kq ≤ k) ∧ Aside0 (Kd.S (Kd.slice 3 (Kd.int .i64)) 30 w' w0.heap.size P0_ (.slice A ln c) x0_1) ∧ Aside0 (Kept w w' (fun k_ => P0_ k_)) ∧ Aside0 (Below w0.heap.size w0 w'))
  case atStart => exact ⟨l0, a1, 0, rfl, rfl, ⟨H'⟩, ⟨Nat.le_refl _⟩, ⟨by (with_reducible repeat (first | apply Kd.S_alloc | apply Kd.S_drewN | apply Kd.S_drew)); exact ho0⟩, ⟨Kept.refl _ _⟩, ⟨hB⟩⟩
  case round =>
    clear H'
    obtain ⟨x0_1, x1_1, x5_1, rfl, rfl, HA, HK1, HS, HK, HB⟩ := hrel
    have hl := Aside0.mk ((Kd.S_reads' HS.out).1)
    cases gk with
    | zero => exact absurd HA.out (by simp [laws_markIntSS.l0])
    | succ k1 =>
      have H := HA.out
      clear HA
      simp only [laws_markIntSS.l0] at H
      by_cases c3 : x5_1 < (x0_1.length : Int)
      · rw [if_pos c3] at H
        have c3b0 : decide (x5_1 < (ln : Int)) = true := decide_eq_true (by have := hl.out; omega)
        by_cases c4 : 0 ≤ x5_1
        · rw [if_pos c4] at H
          obtain ⟨⟨y1, y2⟩, hm, H⟩ := Option.bind_eq_some_iff.mp H
          obtain ⟨g, cap, hAe, hbase, hg, cells, hcells⟩ := Kd.S_form HS.out (by omega)
          injection hAe with e1 e2 e3
          subst e1
          subst e3
          clear e2
          obtain ⟨oki, cs, hcl, hM, hcc, hoki, hH⟩ := Kd.S_lend HS.out ([] : List Int) x5_1 c4 (by have := hl.out; omega)
          obtain ⟨y0, hy0⟩ : ∃ y : List Int, x0_1.getD x5_1.toNat [] = y := ⟨_, rfl⟩
          rw [hy0] at hM hm
          clear hy0
          obtain ⟨v, rfl, hR⟩ := hM
          have hcell : wr.cell? ⟨g, x5_1.toNat, none⟩ = some v := by
            have := hcc 0 v rfl
            rw [show (Kd.slice 3 (Kd.int .i64)).sz = 1 from rfl] at this
            simpa using this
          obtain ⟨vA, vc, rfl⟩ := Kd.R_slice hR
          have p5 : (0 ≤ x5_1) = True := eq_true c4
          have q5 : (x5_1 < (ln : Int)) = True := eq_true (by have := hl.out; omega)
          have hcall := laws_markIntS.calls k1 oki _ _ x1_1 y1 y2 w0 wr HB.out hR hm
          clear hcc
          go_wp2_with (go_at_call 31; (with_reducible refine hcall.mono ?_); rintro e w2 ⟨rfl, hR2, hB2, hK2⟩)
          have hR3 : Kd.R (Kd.int .i64) 3 w2 w0.heap.size oki _ y2 := Kd.R_reok rfl hR2 hR.1
          have hS2 := Kd.H_back (Kd.H_step hH (fun k_ _ hn hlt => hK2.2 k_ hlt hn)) (x' := y2) (okp := oki) ⟨_, rfl, hR3⟩ (fun _ hk => hk)
          go_roundg k1
          case measure => have := HK1.out; omega
          case rel => exact ⟨x0_1.set x5_1.toNat y2, y1, wrap64 (x5_1 + 1), rfl, (by first | rfl | (simp; done)), ⟨H⟩, ⟨by have := HK1.out; omega⟩, ⟨hS2⟩, ⟨HK.out.then_ hK2 (fun k_ hk => .inl (hoki k_ hk).1)⟩, ⟨hB2⟩⟩
        · rw [if_neg c4] at H
          exact absurd H (by simp)
      · rw [if_neg c3] at H
        have c3b0 : decide (x5_1 < (ln : Int)) = false := decide_eq_false (by have := hl.out; omega)
        simp only [Option.some.injEq, Prod.mk.injEq] at H
        obtain ⟨rfl, rfl⟩ := H
        go_wp2
        go_ret
        exact ⟨rfl, Kd.S_mono HS.out (fun _ hk => .inl hk), HB.out, HK.out⟩

/-! ### laws_markLearner: function 17 -/
def laws_markLearner.f (k : Nat) (a0_0 : Int) (l0_1 : List (List Int)) (a0_2 : Int) (a1 : Int) : Option (Int × List (List Int)) := laws_markIntSS.f k l0_1 a1
theorem laws_markLearner.mono : ∀ a0 a1 a2 a3 k, LeO (laws_markLearner.f k a0 a1 a2 a3) (laws_markLearner.f (k + 1) a0 a1 a2 a3) := fun _ a1 _ a3 k => laws_markIntSS.mono a1 a3 k
set_option maxHeartbeats 2000000 in
set_option maxRecDepth 100000 in
theorem laws_markLearner.calls (k : Nat) (a0_0 : Int) (P0_1_ : Nat → Prop) (u9000_ : Value) (l0_1 : List (List Int)) (a0_2 : Int) (a1 : Int) (r1 : Int) (r2 : List (List Int)) (w0 w : World) (hB : Below w0.heap.size w0 w) (ho0_1 : Kd.S (Kd.slice 3 (Kd.int .i64)) 30 w w0.heap.size P0_1_ u9000_ l0_1) (h : laws_markLearner.f k a0_0 l0_1 a0_2 a1 = some (r1, r2)) :
    Calls Try.prog 17 #[.agg #[.int .i64 a0_0, u9000_, .int .i64 a0_2], .int .i64 a1] w fun e w' => e = .returned (.int .i64 r1) ∧ Kd.S (Kd.slice 3 (Kd.int .i64)) 30 w' w0.heap.size (fun k_ => (P0_1_ k_ ∨ w.heap.size ≤ k_)) u9000_ r2 ∧ Below w0.heap.size w0 w' ∧ Kept w w' (fun k_ => P0_1_ k_) := by
  have A1 := Aside0.mk (show laws_markIntSS.f k l0_1 a1 = some (r1, r2) from h)
  clear h
  obtain ⟨A, c, rfl⟩ := Kd.S_slice ho0_1
  have HB := Aside0.mk hB
  have HO := Aside0.mk ho0_1
  clear hB ho0_1
  go_enter Try.func17, Try.ntmps17
  go_wp2_with (first | ((with_reducible refine gate_dst (N := 2) rfl ?_); refine box_event ?hg (N := 2) ?hd (cs := #[.int .i64 a0_0, .slice A l0_1.length c, .int .i64 a0_2]) (t := 24) ?hr ?_; (case hd => rfl); (case hg => rfl); (case hr => first | (go_simp; done) | (go_simp; rfl)); intro g hg w1 hbox hb; have HB1 := Aside0.mk (below_step HB.out hb); have HO1 := Aside0.mk (Kd.S_below HO.out hb); have HS := Aside0.mk hb; have hc1 : w1.cell? ⟨g, 1, none⟩ = some (.slice A l0_1.length c) := (blk_cell hbox 1).trans rfl; clear HB HO hbox hb hg) | ((with_reducible refine gate_callee (f := 30) rfl ?_); refine goesL_ (some 8) rfl rfl Try.func30 (by kernel_rfl) rfl #[.slice A l0_1.length c, .int .i64 a1] rfl (by (try simp only [List.map_toArray, List.map_cons, List.map_nil]); first | done | rfl) ?_; (with_reducible refine (laws_markIntSS.calls k P0_1_ _ l0_1 a1 r1 r2 w0 _ ?side1 ?side2 A1.out).mono ?_); (case side1 => exact HB1.out); (case side2 => exact HO1.out); rintro e w2 ⟨rfl, hS, hB2, hK⟩; refine ⟨_, rfl, ?_⟩; have HS2 := Aside0.mk (Kd.S_mono hS (fun k hk => hk.imp_right (Nat.le_trans (below_size HS.out)))); have HB2 := Aside0.mk hB2; have HK := Aside0.mk ((Kept.of_below HS.out (fun k_ => P0_1_ k_)).then_ hK (fun k hk => .inl hk)); clear hS hB2 hK HB1 HO1 HS hc1))
  go_ret
  exact ⟨rfl, HS2.out, HB2.out, HK.out⟩

/-! ### laws_heldIntS: function 32 -/
def laws_heldIntS.l0 : Nat → List Int → Int → Int → Option (Int)
  | 0, _, _, _ => none
  | k + 1, x0, x1, x5 => if x5 < (x0.length : Int) then (if 0 ≤ x5 then (if (rd x0 x5) = x1 then (laws_heldIntS.l0 k x0 (wrap64 (x1 + 1)) (wrap64 (x5 + 1))) else (some (-1))) else (none)) else (some x1)
def laws_heldIntS.f (k : Nat) (l0 : List Int) (a1 : Int) : Option (Int) := laws_heldIntS.l0 k l0 a1 0
theorem laws_heldIntS.mono_l : ∀ k, (∀ y0 y1 y2, LeO (laws_heldIntS.l0 k y0 y1 y2) (laws_heldIntS.l0 (k + 1) y0 y1 y2))
  | 0 => fun _ _ _ r h => by simp [laws_heldIntS.l0] at h
  | k + 1 => by
    have ih0 := laws_heldIntS.mono_l k
    · intro y0 y1 y2
      unfold laws_heldIntS.l0
      repeat' first
      | (with_reducible exact ih0 _ _ _)
      | (with_reducible exact LeO.refl _)
      | (with_reducible exact LeO.none _)
      | (with_reducible refine LeO.ite ?_ ?_)
      | (with_reducible refine LeO.bind ?_ (fun _ => ?_))
      | exact ih0 _ _ _
      | exact LeO.none _
      | refine LeO.ite ?_ ?_
      | refine LeO.bind ?_ (fun _ => ?_)
theorem laws_heldIntS.mono : ∀ a0 a1 k, LeO (laws_heldIntS.f k a0 a1) (laws_heldIntS.f (k + 1) a0 a1) := by
  intro a0 a1 k
  have ih0 := laws_heldIntS.mono_l k
  unfold laws_heldIntS.f
  repeat' first
      | (with_reducible exact ih0 _ _ _)
      | (with_reducible exact LeO.refl _)
      | (with_reducible exact LeO.none _)
      | (with_reducible refine LeO.ite ?_ ?_)
      | (with_reducible refine LeO.bind ?_ (fun _ => ?_))
      | exact ih0 _ _ _
      | exact LeO.none _
      | refine LeO.ite ?_ ?_
      | refine LeO.bind ?_ (fun _ => ?_)
set_option maxHeartbeats 8000000 in
set_option maxRecDepth 100000 in
theorem laws_heldIntS.calls (k : Nat) (A0 : Option Addr) (c0 : Nat) (l0 : List Int) (a1 : Int) (r : Int) (w : World) (hr0 : Kd.C (Kd.int .i64) w A0 l0.length l0) (hc0 : l0.length ≤ c0) (h : laws_heldIntS.f k l0 a1 = some r) :
    Calls Try.prog 32 #[.slice A0 l0.length c0, .int .i64 a1] w fun e w' => e = .returned (.int .i64 r) ∧ Drawn0 w w' := by
  have HR0 := Aside0.mk hr0
  have HC0 := Aside0.mk hc0
  clear hr0 hc0
  have H : (laws_heldIntS.l0 k l0 a1 0) = some r := h
  clear h
  have H' := Aside0.mk H
  clear H
  go_enter Try.func32, Try.ntmps32
  go_wp2
  go_loopg [1, 5] k (fun kq v1 v5 w' => ∃ (x1_1 : Int) (x5_1 : Int), v1 = .int .i64 x1_1 ∧ v5 = .int .i64 x5_1 ∧ Aside0 (laws_heldIntS.l0 kq l0 x1_1 x5_1 = some r) ∧ Aside0 (kq ≤ k) ∧ Drawn0 w w')
  case atStart => exact ⟨(a1), (0), (by first | rfl | (simp; done) | (simp [*]; done)), (by first | rfl | (simp; done) | (simp [*]; done)), H', ⟨Nat.le_refl _⟩, by repeat (first | exact Drawn0.refl _ | apply Drawn0.step)⟩
  case round =>
    clear H'
    try clear p2
    obtain ⟨x1_1, x5_1, rfl, rfl, HA, HK1, ⟨m1, rfl⟩⟩ := hrel
    cases gk with
    | zero => exact absurd HA.out (by simp [laws_heldIntS.l0])
    | succ k1 =>
      have H := HA.out
      clear HA
      simp only [laws_heldIntS.l0] at H
      by_cases c3 : x5_1 < (l0.length : Int)
      · rw [if_pos c3] at H
        have c3b0 : decide (x5_1 < (l0.length : Int)) = true := decide_eq_true c3
        clear c3
        by_cases c4 : 0 ≤ x5_1
        · rw [if_pos c4] at H
          have c4b0 : decide (0 ≤ x5_1) = true := decide_eq_true c4
          clear c4
          by_cases c5 : (rd l0 x5_1) = x1_1
          · rw [if_pos c5] at H
            have c5b0 : ((rd l0 x5_1) == x1_1) = true := beq_iff_eq.mpr c5
            have c5b1 : ((rd l0 x5_1) != x1_1) = false := bne_eq_false_iff_eq.mpr c5
            clear c5
            have H' := Aside0.mk H
            clear H
            have p129 : 0 ≤ (x5_1 : Int) := of_decide_eq_true (by first | (with_reducible assumption) | assumption)
            have q129 : x5_1 < (l0.length : Int) := of_decide_eq_true (by first | (with_reducible assumption) | assumption)
            obtain ⟨ad129, e129, hx129_0⟩ := Kd.at_int HR0.out x5_1 p129 q129
            cases e129
            replace p129 := eq_true p129
            replace q129 := eq_true q129
            go_wp2
            go_roundg k1
            case measure => have := HK1.out; omega
            case rel => exact ⟨(wrap64 (x1_1 + 1)), (wrap64 (x5_1 + 1)), (by first | rfl | (simp; done) | (simp [*]; done)), (by first | rfl | (simp; done) | (simp [*]; done)), H', ⟨by have := HK1.out; omega⟩, by repeat (first | exact Drawn0.refl _ | apply Drawn0.step)⟩
          · rw [if_neg c5] at H
            have c5b0 : ((rd l0 x5_1) == x1_1) = false := beq_eq_false_iff_ne.mpr c5
            have c5b1 : ((rd l0 x5_1) != x1_1) = true := bne_iff_ne.mpr c5
            obtain rfl := Option.some.inj H
            have p129 : 0 ≤ (x5_1 : Int) := of_decide_eq_true (by first | (with_reducible assumption) | assumption)
            have q129 : x5_1 < (l0.length : Int) := of_decide_eq_true (by first | (with_reducible assumption) | assumption)
            obtain ⟨ad129, e129, hx129_0⟩ := Kd.at_int HR0.out x5_1 p129 q129
            cases e129
            replace p129 := eq_true p129
            replace q129 := eq_true q129
            go_wp2
            go_ret
            exact ⟨by first | rfl | (simp; done) | (simp [*]; done), by repeat (first | exact Drawn0.refl _ | apply Drawn0.step)⟩
        · rw [if_neg c4] at H
          exact absurd H (by simp)
      · rw [if_neg c3] at H
        have c3b0 : decide (x5_1 < (l0.length : Int)) = false := decide_eq_false c3
        clear c3
        obtain rfl := Option.some.inj H
        go_wp2
        go_ret
        exact ⟨by first | rfl | (simp; done) | (simp [*]; done), by repeat (first | exact Drawn0.refl _ | apply Drawn0.step)⟩

/-! ### laws_heldIntSS: function 52 -/
def laws_heldIntSS.l0 : Nat → List (List Int) → Int → Int → Option (Int)
  | 0, _, _, _ => none
  | k + 1, x0, x1, x5 => if x5 < (x0.length : Int) then (if 0 ≤ x5 then ((laws_heldIntS.f k (rd_L1 x0 x5) x1).bind fun t131 => (if t131 < 0 then (some (-1)) else (laws_heldIntSS.l0 k x0 t131 (wrap64 (x5 + 1))))) else (none)) else (some x1)
def laws_heldIntSS.f (k : Nat) (l0 : List (List Int)) (a1 : Int) : Option (Int) := laws_heldIntSS.l0 k l0 a1 0
theorem laws_heldIntSS.mono_l : ∀ k, (∀ y0 y1 y2, LeO (laws_heldIntSS.l0 k y0 y1 y2) (laws_heldIntSS.l0 (k + 1) y0 y1 y2))
  | 0 => fun _ _ _ r h => by simp [laws_heldIntSS.l0] at h
  | k + 1 => by
    have ih0 := laws_heldIntSS.mono_l k
    · intro y0 y1 y2
      unfold laws_heldIntSS.l0
      repeat' first
      | (with_reducible exact ih0 _ _ _)
      | (with_reducible exact laws_heldIntS.mono _ _ _)
      | (with_reducible exact LeO.refl _)
      | (with_reducible exact LeO.none _)
      | (with_reducible refine LeO.ite ?_ ?_)
      | (with_reducible refine LeO.bind ?_ (fun _ => ?_))
      | exact ih0 _ _ _
      | exact laws_heldIntS.mono _ _ _
      | exact LeO.none _
      | refine LeO.ite ?_ ?_
      | refine LeO.bind ?_ (fun _ => ?_)
theorem laws_heldIntSS.mono : ∀ a0 a1 k, LeO (laws_heldIntSS.f k a0 a1) (laws_heldIntSS.f (k + 1) a0 a1) := by
  intro a0 a1 k
  have ih0 := laws_heldIntSS.mono_l k
  unfold laws_heldIntSS.f
  repeat' first
      | (with_reducible exact ih0 _ _ _)
      | (with_reducible exact laws_heldIntS.mono _ _ _)
      | (with_reducible exact LeO.refl _)
      | (with_reducible exact LeO.none _)
      | (with_reducible refine LeO.ite ?_ ?_)
      | (with_reducible refine LeO.bind ?_ (fun _ => ?_))
      | exact ih0 _ _ _
      | exact laws_heldIntS.mono _ _ _
      | exact LeO.none _
      | refine LeO.ite ?_ ?_
      | refine LeO.bind ?_ (fun _ => ?_)
set_option maxHeartbeats 8000000 in
set_option maxRecDepth 100000 in
theorem laws_heldIntSS.calls (k : Nat) (A0 : Option Addr) (c0 : Nat) (l0 : List (List Int)) (a1 : Int) (r : Int) (w : World) (hr0 : Kd.C (Kd.slice 3 (Kd.int .i64)) w A0 l0.length l0) (hc0 : l0.length ≤ c0) (h : laws_heldIntSS.f k l0 a1 = some r) :
    Calls Try.prog 52 #[.slice A0 l0.length c0, .int .i64 a1] w fun e w' => e = .returned (.int .i64 r) ∧ Drawn0 w w' := by
  have HR0 := Aside0.mk hr0
  have HC0 := Aside0.mk hc0
  clear hr0 hc0
  have H : (laws_heldIntSS.l0 k l0 a1 0) = some r := h
  clear h
  have H' := Aside0.mk H
  clear H
  go_enter Try.func52, Try.ntmps52
  go_wp2
  go_loopg [1, 5] k (fun kq v1 v5 w' => ∃ (x1_1 : Int) (x5_1 : Int), v1 = .int .i64 x1_1 ∧ v5 = .int .i64 x5_1 ∧ Aside0 (laws_heldIntSS.l0 kq l0 x1_1 x5_1 = some r) ∧ Aside0 (kq ≤ k) ∧ Drawn0 w w')
  case atStart => exact ⟨(a1), (0), (by first | rfl | (simp; done) | (simp [*]; done)), (by first | rfl | (simp; done) | (simp [*]; done)), H', ⟨Nat.le_refl _⟩, by repeat (first | exact Drawn0.refl _ | apply Drawn0.step)⟩
  case round =>
    clear H'
    try clear p2
    obtain ⟨x1_1, x5_1, rfl, rfl, HA, HK1, ⟨m1, rfl⟩⟩ := hrel
    cases gk with
    | zero => exact absurd HA.out (by simp [laws_heldIntSS.l0])
    | succ k1 =>
      have H := HA.out
      clear HA
      simp only [laws_heldIntSS.l0] at H
      by_cases c3 : x5_1 < (l0.length : Int)
      · rw [if_pos c3] at H
        have c3b0 : decide (x5_1 < (l0.length : Int)) = true := decide_eq_true c3
        clear c3
        by_cases c4 : 0 ≤ x5_1
        · rw [if_pos c4] at H
          have c4b0 : decide (0 ≤ x5_1) = true := decide_eq_true c4
          clear c4
          replace H := Option.bind_eq_some_iff.mp H
          obtain ⟨t131, A50, H⟩ := H
          replace H : (if t131 < 0 then (some (-1)) else (laws_heldIntSS.l0 k1 l0 t131 (wrap64 (x5_1 + 1)))) = some r := H
          have A5 := Aside0.mk A50
          clear A50
          by_cases c6 : t131 < 0
          · rw [if_pos c6] at H
            have c6b0 : decide (t131 < 0) = true := decide_eq_true c6
            clear c6
            obtain rfl := Option.some.inj H
            have p130 : 0 ≤ (x5_1 : Int) := of_decide_eq_true (by first | (with_reducible assumption) | assumption)
            have q130 : x5_1 < (l0.length : Int) := of_decide_eq_true (by first | (with_reducible assumption) | assumption)
            obtain ⟨ad130, A130_0, c130_0, e130, hx130_0, hl130_0, hi130_0⟩ := at_L1 HR0.out x5_1 p130 q130
            cases e130
            have HR130_0 := Aside0.mk hi130_0
            have HC130_0 := Aside0.mk hl130_0
            clear hi130_0 hl130_0
            replace p130 := eq_true p130
            replace q130 := eq_true q130
            go_wp2_with (first | ((with_reducible refine gate_callee (f := 32) rfl ?_); refine goesL_ (some 17) rfl rfl Try.func32 (by kernel_rfl) rfl #[.slice A130_0 (rd_L1 l0 x5_1).length c130_0, .int .i64 x1_1] rfl (by (try simp only [List.map_toArray, List.map_cons, List.map_nil]); first | done | rfl | (simp only [List.length_drop, List.length_take]; rfl)) ?_; (with_reducible refine (laws_heldIntS.calls k1 _ _ (rd_L1 l0 x5_1) x1_1 t131 _ ?side1 ?side2 A5.out).mono ?_); (case side1 => repeat (first | exact HR130_0.out | (with_reducible refine Kd.C_alloc ?_ _) | (with_reducible refine Kd.C_drewN ?_ _) | (with_reducible refine Kd.C_drew ?_))); (case side2 => exact HC130_0.out); rintro e w' ⟨rfl, ⟨nd, rfl⟩⟩; refine ⟨_, rfl, ?_⟩))
            go_ret
            exact ⟨by first | rfl | (simp; done) | (simp [*]; done), by repeat (first | exact Drawn0.refl _ | apply Drawn0.step)⟩
          · rw [if_neg c6] at H
            have c6b0 : decide (t131 < 0) = false := decide_eq_false c6
            clear c6
            have H' := Aside0.mk H
            clear H
            have p130 : 0 ≤ (x5_1 : Int) := of_decide_eq_true (by first | (with_reducible assumption) | assumption)
            have q130 : x5_1 < (l0.length : Int) := of_decide_eq_true (by first | (with_reducible assumption) | assumption)
            obtain ⟨ad130, A130_0, c130_0, e130, hx130_0, hl130_0, hi130_0⟩ := at_L1 HR0.out x5_1 p130 q130
            cases e130
            have HR130_0 := Aside0.mk hi130_0
            have HC130_0 := Aside0.mk hl130_0
            clear hi130_0 hl130_0
            replace p130 := eq_true p130
            replace q130 := eq_true q130
            go_wp2_with (first | ((with_reducible refine gate_callee (f := 32) rfl ?_); refine goesL_ (some 17) rfl rfl Try.func32 (by kernel_rfl) rfl #[.slice A130_0 (rd_L1 l0 x5_1).length c130_0, .int .i64 x1_1] rfl (by (try simp only [List.map_toArray, List.map_cons, List.map_nil]); first | done | rfl | (simp only [List.length_drop, List.length_take]; rfl)) ?_; (with_reducible refine (laws_heldIntS.calls k1 _ _ (rd_L1 l0 x5_1) x1_1 t131 _ ?side1 ?side2 A5.out).mono ?_); (case side1 => repeat (first | exact HR130_0.out | (with_reducible refine Kd.C_alloc ?_ _) | (with_reducible refine Kd.C_drewN ?_ _) | (with_reducible refine Kd.C_drew ?_))); (case side2 => exact HC130_0.out); rintro e w' ⟨rfl, ⟨nd, rfl⟩⟩; refine ⟨_, rfl, ?_⟩))
            go_roundg k1
            case measure => have := HK1.out; omega
            case rel => exact ⟨(t131), (wrap64 (x5_1 + 1)), (by first | rfl | (simp; done) | (simp [*]; done)), (by first | rfl | (simp; done) | (simp [*]; done)), H', ⟨by have := HK1.out; omega⟩, by repeat (first | exact Drawn0.refl _ | apply Drawn0.step)⟩
        · rw [if_neg c4] at H
          exact absurd H (by simp)
      · rw [if_neg c3] at H
        have c3b0 : decide (x5_1 < (l0.length : Int)) = false := decide_eq_false c3
        clear c3
        obtain rfl := Option.some.inj H
        go_wp2
        go_ret
        exact ⟨by first | rfl | (simp; done) | (simp [*]; done), by repeat (first | exact Drawn0.refl _ | apply Drawn0.step)⟩

/-! ### laws_heldLearner: function 18 -/
def laws_heldLearner.f (k : Nat) (a0_0 : Int) (l0_1 : List (List Int)) (a0_2 : Int) (a1 : Int) : Option (Int) := (laws_heldIntSS.f k l0_1 a1).bind fun t133 => (if t133 < 0 then (some (-1)) else (some t133))
theorem laws_heldLearner.mono : ∀ a0 a1 a2 a3 k, LeO (laws_heldLearner.f k a0 a1 a2 a3) (laws_heldLearner.f (k + 1) a0 a1 a2 a3) := by
  intro a0 a1 a2 a3 k
  unfold laws_heldLearner.f
  repeat' first
      | (with_reducible exact laws_heldIntSS.mono _ _ _)
      | (with_reducible exact LeO.refl _)
      | (with_reducible exact LeO.none _)
      | (with_reducible refine LeO.ite ?_ ?_)
      | (with_reducible refine LeO.bind ?_ (fun _ => ?_))
      | exact laws_heldIntSS.mono _ _ _
      | exact LeO.none _
      | refine LeO.ite ?_ ?_
      | refine LeO.bind ?_ (fun _ => ?_)
set_option maxHeartbeats 8000000 in
set_option maxRecDepth 100000 in
theorem laws_heldLearner.calls (k : Nat) (a0_0 : Int) (A0_1 : Option Addr) (c0_1 : Nat) (l0_1 : List (List Int)) (a0_2 : Int) (a1 : Int) (r : Int) (w : World) (hr0_1 : Kd.C (Kd.slice 3 (Kd.int .i64)) w A0_1 l0_1.length l0_1) (hc0_1 : l0_1.length ≤ c0_1) (h : laws_heldLearner.f k a0_0 l0_1 a0_2 a1 = some r) :
    Calls Try.prog 18 #[.agg #[.int .i64 a0_0, .slice A0_1 l0_1.length c0_1, .int .i64 a0_2], .int .i64 a1] w fun e w' => e = .returned (.int .i64 r) ∧ Below w.heap.size w w' := by
  have hu24 := Try.underlying24
  have HR0_1 := Aside0.mk hr0_1
  have HC0_1 := Aside0.mk hc0_1
  clear hr0_1 hc0_1
  have HB := Aside0.mk (Below.refl w.heap.size w)
  have H : ((laws_heldIntSS.f k l0_1 a1).bind fun t133 => (if t133 < 0 then (some (-1)) else (some t133))) = some r := h
  clear h
  replace H := Option.bind_eq_some_iff.mp H
  obtain ⟨t133, A30, H⟩ := H
  replace H : (if t133 < 0 then (some (-1)) else (some t133)) = some r := H
  have A3 := Aside0.mk A30
  clear A30
  by_cases c4 : t133 < 0
  · rw [if_pos c4] at H
    have c4b0 : decide (t133 < 0) = true := decide_eq_true c4
    clear c4
    obtain rfl := Option.some.inj H
    go_enter Try.func18, Try.ntmps18
    go_wp2_with (first | ((with_reducible refine gate_dst (N := 2) rfl ?_); refine box_event ?hg (N := 2) ?hd (cs := #[.int .i64 a0_0, .slice A0_1 l0_1.length c0_1, .int .i64 a0_2]) (t := 24) ?hr ?_; (case hd => rfl); (case hg => rfl); (case hr => first | (go_simp; done) | (go_simp; rfl)); intro gb132 hg w5 hbox hb; have n0_ := Aside0.mk (below_step (by repeat (first | (with_reducible first | exact HB.out | apply below_alloc | apply pw_below_drewN | apply below_drew1) | exact HB.out)) hb); have n1_ := Aside0.mk (hbox); have n2_ := Aside0.mk ((by rw [hg]; exact (below_size (by repeat (first | (with_reducible first | exact HB.out | apply below_alloc | apply pw_below_drewN | apply below_drew1) | exact HB.out))) : w.heap.size ≤ gb132)); have n3_ := Aside0.mk ((by rw [hg]; exact (below_size (by repeat (first | (with_reducible first | exact HB.out | apply below_alloc | apply pw_below_drewN | apply below_drew1) | exact HB.out))) : w.heap.size ≤ gb132)); clear HB; have HB := n0_; have BK132 := n1_; have GW132 := n2_; have GE132 := n3_; clear n0_ n1_ n2_ n3_; clear hb hbox hg; have hcz6_0 : w5.cell? ⟨gb132, 0, none⟩ = some (.int .i64 a0_0) := (blk_cell BK132.out 0).trans rfl; have hcz6_1 : w5.cell? ⟨gb132, 1, none⟩ = some (.slice A0_1 l0_1.length c0_1) := (blk_cell BK132.out 1).trans rfl; have hcz6_2 : w5.cell? ⟨gb132, 2, none⟩ = some (.int .i64 a0_2) := (blk_cell BK132.out 2).trans rfl; have hfz6_0 := blk_frozen BK132.out 0; have hfz6_1 := blk_frozen BK132.out 1; have hfz6_2 := blk_frozen BK132.out 2) | ((with_reducible refine gate_callee (f := 52) rfl ?_); refine goesL_ (some 8) rfl rfl Try.func52 (by kernel_rfl) rfl #[.slice A0_1 l0_1.length c0_1, .int .i64 a1] rfl (by (try simp only [List.map_toArray, List.map_cons, List.map_nil]); first | done | rfl | (simp only [List.length_drop, List.length_take]; rfl)) ?_; (with_reducible refine (laws_heldIntSS.calls k _ _ l0_1 a1 t133 _ ?side1 ?side2 A3.out).mono ?_); (case side1 => repeat (first | exact (Kd.C_below HR0_1.out HB.out) | (with_reducible refine Kd.C_alloc ?_ _) | (with_reducible refine Kd.C_drewN ?_ _) | (with_reducible refine Kd.C_drew ?_))); (case side2 => exact HC0_1.out); rintro e w' ⟨rfl, ⟨nd, rfl⟩⟩; refine ⟨_, rfl, ?_⟩))
    go_ret
    exact ⟨by first | rfl | (simp [errW_none, errW_some] <;> rfl) | (simp [*, errW_none, errW_some] <;> rfl), by repeat (first | (with_reducible first | exact HB.out | apply below_alloc | apply pw_below_drewN | apply below_drew1 | refine below_set ?_ GE132.out) | exact HB.out)⟩
  · rw [if_neg c4] at H
    have c4b0 : decide (t133 < 0) = false := decide_eq_false c4
    clear c4
    obtain rfl := Option.some.inj H
    go_enter Try.func18, Try.ntmps18
    go_wp2_with (first | ((with_reducible refine gate_dst (N := 2) rfl ?_); refine box_event ?hg (N := 2) ?hd (cs := #[.int .i64 a0_0, .slice A0_1 l0_1.length c0_1, .int .i64 a0_2]) (t := 24) ?hr ?_; (case hd => rfl); (case hg => rfl); (case hr => first | (go_simp; done) | (go_simp; rfl)); intro gb132 hg w7 hbox hb; have n0_ := Aside0.mk (below_step (by repeat (first | (with_reducible first | exact HB.out | apply below_alloc | apply pw_below_drewN | apply below_drew1) | exact HB.out)) hb); have n1_ := Aside0.mk (hbox); have n2_ := Aside0.mk ((by rw [hg]; exact (below_size (by repeat (first | (with_reducible first | exact HB.out | apply below_alloc | apply pw_below_drewN | apply below_drew1) | exact HB.out))) : w.heap.size ≤ gb132)); have n3_ := Aside0.mk ((by rw [hg]; exact (below_size (by repeat (first | (with_reducible first | exact HB.out | apply below_alloc | apply pw_below_drewN | apply below_drew1) | exact HB.out))) : w.heap.size ≤ gb132)); clear HB; have HB := n0_; have BK132 := n1_; have GW132 := n2_; have GE132 := n3_; clear n0_ n1_ n2_ n3_; clear hb hbox hg; have hcz8_0 : w7.cell? ⟨gb132, 0, none⟩ = some (.int .i64 a0_0) := (blk_cell BK132.out 0).trans rfl; have hcz8_1 : w7.cell? ⟨gb132, 1, none⟩ = some (.slice A0_1 l0_1.length c0_1) := (blk_cell BK132.out 1).trans rfl; have hcz8_2 : w7.cell? ⟨gb132, 2, none⟩ = some (.int .i64 a0_2) := (blk_cell BK132.out 2).trans rfl; have hfz8_0 := blk_frozen BK132.out 0; have hfz8_1 := blk_frozen BK132.out 1; have hfz8_2 := blk_frozen BK132.out 2) | ((with_reducible refine gate_callee (f := 52) rfl ?_); refine goesL_ (some 8) rfl rfl Try.func52 (by kernel_rfl) rfl #[.slice A0_1 l0_1.length c0_1, .int .i64 a1] rfl (by (try simp only [List.map_toArray, List.map_cons, List.map_nil]); first | done | rfl | (simp only [List.length_drop, List.length_take]; rfl)) ?_; (with_reducible refine (laws_heldIntSS.calls k _ _ l0_1 a1 t133 _ ?side1 ?side2 A3.out).mono ?_); (case side1 => repeat (first | exact (Kd.C_below HR0_1.out HB.out) | (with_reducible refine Kd.C_alloc ?_ _) | (with_reducible refine Kd.C_drewN ?_ _) | (with_reducible refine Kd.C_drew ?_))); (case side2 => exact HC0_1.out); rintro e w' ⟨rfl, ⟨nd, rfl⟩⟩; refine ⟨_, rfl, ?_⟩))
    go_ret
    exact ⟨by first | rfl | (simp [errW_none, errW_some] <;> rfl) | (simp [*, errW_none, errW_some] <;> rfl), by repeat (first | (with_reducible first | exact HB.out | apply below_alloc | apply pw_below_drewN | apply below_drew1 | refine below_set ?_ GE132.out) | exact HB.out)⟩

/-! ### laws_FnExactNewLearner: function 3 -/
def laws_FnExactNewLearner.f (k : Nat) (a0 : Int) : Option (Bool) := (spec_NewLearner.f k a0).bind fun bt134 => ((impl_NewLearner.f k a0).bind fun bt141 => ((laws_eqLearner.f k bt141.1 bt141.2.1 bt141.2.2.1 bt134.1 bt134.2.1 bt134.2.2.1).bind fun t148 => (if t148 = true then (if (bt141.2.2.2 != bt134.2.2.2) = true then (some false) else ((laws_markLearner.f k bt141.1 bt141.2.1 bt141.2.2.1 1).bind fun bt149 => ((laws_heldLearner.f k bt141.1 bt149.2 bt141.2.2.1 1).bind fun t151 => (if t151 < 0 then (some false) else (if t151 = bt149.1 then ((impl_NewLearner.f k a0).bind fun bt152 => ((laws_eqLearner.f k bt152.1 bt152.2.1 bt152.2.2.1 bt134.1 bt134.2.1 bt134.2.2.1).bind fun t159 => (if t159 = true then (if (bt152.2.2.2 != bt134.2.2.2) = true then (some false) else ((laws_heldLearner.f k bt141.1 bt149.2 bt141.2.2.1 1).bind fun t160 => (if t160 < 0 then (some false) else (if t160 = bt149.1 then (some true) else (some false))))) else (some false)))) else (some false)))))) else (some false))))
set_option maxHeartbeats 16000000 in
set_option maxRecDepth 100000 in
theorem laws_FnExactNewLearner.calls (k : Nat) (a0 : Int) (r : Bool) (w : World) (hr_ : r = true) (h : laws_FnExactNewLearner.f k a0 = some r) :
    Calls Try.prog 3 #[.int .i64 a0] w fun e w' => e = .returned (.bool r) ∧ Below w.heap.size w w' := by
  have HB := Aside0.mk (Below.refl w.heap.size w)
  have H : ((spec_NewLearner.f k a0).bind fun bt134 => ((impl_NewLearner.f k a0).bind fun bt141 => ((laws_eqLearner.f k bt141.1 bt141.2.1 bt141.2.2.1 bt134.1 bt134.2.1 bt134.2.2.1).bind fun t148 => (if t148 = true then (if (bt141.2.2.2 != bt134.2.2.2) = true then (some false) else ((laws_markLearner.f k bt141.1 bt141.2.1 bt141.2.2.1 1).bind fun bt149 => ((laws_heldLearner.f k bt141.1 bt149.2 bt141.2.2.1 1).bind fun t151 => (if t151 < 0 then (some false) else (if t151 = bt149.1 then ((impl_NewLearner.f k a0).bind fun bt152 => ((laws_eqLearner.f k bt152.1 bt152.2.1 bt152.2.2.1 bt134.1 bt134.2.1 bt134.2.2.1).bind fun t159 => (if t159 = true then (if (bt152.2.2.2 != bt134.2.2.2) = true then (some false) else ((laws_heldLearner.f k bt141.1 bt149.2 bt141.2.2.1 1).bind fun t160 => (if t160 < 0 then (some false) else (if t160 = bt149.1 then (some true) else (some false))))) else (some false)))) else (some false)))))) else (some false))))) = some r := h
  clear h
  replace H := Option.bind_eq_some_iff.mp H
  obtain ⟨⟨t134, t135, t138, t139⟩, E10, H⟩ := H
  replace H : ((impl_NewLearner.f k a0).bind fun bt141 => ((laws_eqLearner.f k bt141.1 bt141.2.1 bt141.2.2.1 t134 t135 t138).bind fun t148 => (if t148 = true then (if (bt141.2.2.2 != t139) = true then (some false) else ((laws_markLearner.f k bt141.1 bt141.2.1 bt141.2.2.1 1).bind fun bt149 => ((laws_heldLearner.f k bt141.1 bt149.2 bt141.2.2.1 1).bind fun t151 => (if t151 < 0 then (some false) else (if t151 = bt149.1 then ((impl_NewLearner.f k a0).bind fun bt152 => ((laws_eqLearner.f k bt152.1 bt152.2.1 bt152.2.2.1 t134 t135 t138).bind fun t159 => (if t159 = true then (if (bt152.2.2.2 != t139) = true then (some false) else ((laws_heldLearner.f k bt141.1 bt149.2 bt141.2.2.1 1).bind fun t160 => (if t160 < 0 then (some false) else (if t160 = bt149.1 then (some true) else (some false))))) else (some false)))) else (some false)))))) else (some false)))) = some r := H
  have E1 := Aside0.mk E10
  clear E10
  replace H := Option.bind_eq_some_iff.mp H
  obtain ⟨⟨t141, t142, t145, t146⟩, E20, H⟩ := H
  replace H : ((laws_eqLearner.f k t141 t142 t145 t134 t135 t138).bind fun t148 => (if t148 = true then (if (t146 != t139) = true then (some false) else ((laws_markLearner.f k t141 t142 t145 1).bind fun bt149 => ((laws_heldLearner.f k t141 bt149.2 t145 1).bind fun t151 => (if t151 < 0 then (some false) else (if t151 = bt149.1 then ((impl_NewLearner.f k a0).bind fun bt152 => ((laws_eqLearner.f k bt152.1 bt152.2.1 bt152.2.2.1 t134 t135 t138).bind fun t159 => (if t159 = true then (if (bt152.2.2.2 != t139) = true then (some false) else ((laws_heldLearner.f k t141 bt149.2 t145 1).bind fun t160 => (if t160 < 0 then (some false) else (if t160 = bt149.1 then (some true) else (some false))))) else (some false)))) else (some false)))))) else (some false))) = some r := H
  have E2 := Aside0.mk E20
  clear E20
  replace H := Option.bind_eq_some_iff.mp H
  obtain ⟨t148, E30, H⟩ := H
  replace H : (if t148 = true then (if (t146 != t139) = true then (some false) else ((laws_markLearner.f k t141 t142 t145 1).bind fun bt149 => ((laws_heldLearner.f k t141 bt149.2 t145 1).bind fun t151 => (if t151 < 0 then (some false) else (if t151 = bt149.1 then ((impl_NewLearner.f k a0).bind fun bt152 => ((laws_eqLearner.f k bt152.1 bt152.2.1 bt152.2.2.1 t134 t135 t138).bind fun t159 => (if t159 = true then (if (bt152.2.2.2 != t139) = true then (some false) else ((laws_heldLearner.f k t141 bt149.2 t145 1).bind fun t160 => (if t160 < 0 then (some false) else (if t160 = bt149.1 then (some true) else (some false))))) else (some false)))) else (some false)))))) else (some false)) = some r := H
  have E3 := Aside0.mk E30
  clear E30
  by_cases c4 : t148 = true
  · subst c4
    replace H : (if (t146 != t139) = true then (some false) else ((laws_markLearner.f k t141 t142 t145 1).bind fun bt149 => ((laws_heldLearner.f k t141 bt149.2 t145 1).bind fun t151 => (if t151 < 0 then (some false) else (if t151 = bt149.1 then ((impl_NewLearner.f k a0).bind fun bt152 => ((laws_eqLearner.f k bt152.1 bt152.2.1 bt152.2.2.1 t134 t135 t138).bind fun t159 => (if t159 = true then (if (bt152.2.2.2 != t139) = true then (some false) else ((laws_heldLearner.f k t141 bt149.2 t145 1).bind fun t160 => (if t160 < 0 then (some false) else (if t160 = bt149.1 then (some true) else (some false))))) else (some false)))) else (some false)))))) = some r := by rw [if_pos rfl] at H; exact H
    by_cases c5 : (t146 != t139) = true
    · rw [if_pos c5] at H
      exact absurd (Option.some.inj H) (by rw [hr_]; decide)
    · rw [if_neg c5] at H
      have c5b0 : (t146 != t139) = false := by simpa using c5
      (try (have c5b1 : decide (t146 = t139) = true := by simpa using c5))
      (try (have c5b2 : (t146 == t139) = true := by simpa using c5))
      clear c5
      replace H := Option.bind_eq_some_iff.mp H
      obtain ⟨⟨t149, t150⟩, E60, H⟩ := H
      replace H : ((laws_heldLearner.f k t141 t150 t145 1).bind fun t151 => (if t151 < 0 then (some false) else (if t151 = t149 then ((impl_NewLearner.f k a0).bind fun bt152 => ((laws_eqLearner.f k bt152.1 bt152.2.1 bt152.2.2.1 t134 t135 t138).bind fun t159 => (if t159 = true then (if (bt152.2.2.2 != t139) = true then (some false) else ((laws_heldLearner.f k t141 t150 t145 1).bind fun t160 => (if t160 < 0 then (some false) else (if t160 = t149 then (some true) else (some false))))) else (some false)))) else (some false)))) = some r := H
      have E6 := Aside0.mk E60
      clear E60
      replace H := Option.bind_eq_some_iff.mp H
      obtain ⟨t151, E70, H⟩ := H
      replace H : (if t151 < 0 then (some false) else (if t151 = t149 then ((impl_NewLearner.f k a0).bind fun bt152 => ((laws_eqLearner.f k bt152.1 bt152.2.1 bt152.2.2.1 t134 t135 t138).bind fun t159 => (if t159 = true then (if (bt152.2.2.2 != t139) = true then (some false) else ((laws_heldLearner.f k t141 t150 t145 1).bind fun t160 => (if t160 < 0 then (some false) else (if t160 = t149 then (some true) else (some false))))) else (some false)))) else (some false))) = some r := H
      have E7 := Aside0.mk E70
      clear E70
      by_cases c8 : t151 < 0
      · rw [if_pos c8] at H
        exact absurd (Option.some.inj H) (by rw [hr_]; decide)
      · rw [if_neg c8] at H
        have c8b0 : decide (t151 < 0) = false := decide_eq_false c8
        clear c8
        by_cases c9 : t151 = t149
        · rw [if_pos c9] at H
          have c9b0 : (t151 == t149) = true := beq_iff_eq.mpr c9
          have c9b1 : (t151 != t149) = false := bne_eq_false_iff_eq.mpr c9
          clear c9
          replace H := Option.bind_eq_some_iff.mp H
          obtain ⟨⟨t152, t153, t156, t157⟩, E100, H⟩ := H
          replace H : ((laws_eqLearner.f k t152 t153 t156 t134 t135 t138).bind fun t159 => (if t159 = true then (if (t157 != t139) = true then (some false) else ((laws_heldLearner.f k t141 t150 t145 1).bind fun t160 => (if t160 < 0 then (some false) else (if t160 = t149 then (some true) else (some false))))) else (some false))) = some r := H
          have E10 := Aside0.mk E100
          clear E100
          replace H := Option.bind_eq_some_iff.mp H
          obtain ⟨t159, E110, H⟩ := H
          replace H : (if t159 = true then (if (t157 != t139) = true then (some false) else ((laws_heldLearner.f k t141 t150 t145 1).bind fun t160 => (if t160 < 0 then (some false) else (if t160 = t149 then (some true) else (some false))))) else (some false)) = some r := H
          have E11 := Aside0.mk E110
          clear E110
          by_cases c12 : t159 = true
          · subst c12
            replace H : (if (t157 != t139) = true then (some false) else ((laws_heldLearner.f k t141 t150 t145 1).bind fun t160 => (if t160 < 0 then (some false) else (if t160 = t149 then (some true) else (some false))))) = some r := by rw [if_pos rfl] at H; exact H
            by_cases c13 : (t157 != t139) = true
            · rw [if_pos c13] at H
              exact absurd (Option.some.inj H) (by rw [hr_]; decide)
            · rw [if_neg c13] at H
              have c13b0 : (t157 != t139) = false := by simpa using c13
              (try (have c13b1 : decide (t157 = t139) = true := by simpa using c13))
              (try (have c13b2 : (t157 == t139) = true := by simpa using c13))
              clear c13
              replace H := Option.bind_eq_some_iff.mp H
              obtain ⟨t160, E140, H⟩ := H
              replace H : (if t160 < 0 then (some false) else (if t160 = t149 then (some true) else (some false))) = some r := H
              have E14 := Aside0.mk E140
              clear E140
              by_cases c15 : t160 < 0
              · rw [if_pos c15] at H
                exact absurd (Option.some.inj H) (by rw [hr_]; decide)
              · rw [if_neg c15] at H
                have c15b0 : decide (t160 < 0) = false := decide_eq_false c15
                clear c15
                by_cases c16 : t160 = t149
                · rw [if_pos c16] at H
                  have c16b0 : (t160 == t149) = true := beq_iff_eq.mpr c16
                  have c16b1 : (t160 != t149) = false := bne_eq_false_iff_eq.mpr c16
                  clear c16
                  obtain rfl := Option.some.inj H
                  go_enter Try.func3, Try.ntmps3
                  go_wp2_with (first | ((with_reducible refine gate_callee (f := 14) rfl ?_); refine goesL_ (some 13) rfl rfl Try.func14 (by kernel_rfl) rfl #[.int .i64 a0] rfl (by (try simp only [List.map_toArray, List.map_cons, List.map_nil]); first | done | rfl) ?_; (with_reducible refine (spec_NewLearner.calls k a0 t134 t135 t138 t139 _ E1.out).mono ?_); rintro e w17 ⟨v136, rfl, ho0, hb⟩; refine ⟨_, rfl, ?_⟩; have hs_ := Go.Proofs.Ytndcgckgkkhbpaa.Law.adv (wl := w) (by repeat (first | exact Below.refl _ _ | apply below_alloc | apply pw_below_drewN | apply below_drew1)) hb; obtain ⟨P19, hp_, hq_⟩ := Go.Proofs.Ytndcgckgkkhbpaa.Law.made_N (wl := w) (base := w.heap.size) (by repeat (first | exact Below.refl _ _ | apply below_alloc | apply pw_below_drewN | apply below_drew1)) (below_size HB.out) ho0 (fun k_ hk_ => by first | exact hk_ | exact hk_.1); have HP19 := Aside0.mk hp_; have zHO137 := Aside0.mk hq_; clear hp_ hq_ ho0; have z_ := Aside0.mk (Go.Proofs.Ytndcgckgkkhbpaa.Law.advB HB.out hs_); clear HB; have HB := z_; clear z_; have HZ18 := Aside0.mk (below_size hs_); clear hs_ hb; have HO137 := zHO137; clear zHO137; obtain ⟨Ao20, co21, eo22⟩ := Go.Proofs.Ytndcgckgkkhbpaa.Law.slice_N HO137.out; subst eo22) | ((with_reducible refine gate_dst (N := 3) rfl ?_); refine box_event ?hg (N := 3) ?hd (cs := #[.int .i64 0, .slice none 0 0, .int .i64 0]) (t := 24) ?hr ?_; (case hd => rfl); (case hg => rfl); (case hr => first | (go_simp; done) | (go_simp; rfl)); intro gb140 hg_ w23 hbox_ hb; have hs_ := Go.Proofs.Ytndcgckgkkhbpaa.Law.adv (wl := w17) (by repeat (first | exact Below.refl _ _ | apply below_alloc | apply pw_below_drewN | apply below_drew1)) hb; have BK140 := Aside0.mk hbox_; have HPB140 := Aside0.mk (Go.Proofs.Ytndcgckgkkhbpaa.Law.boxIn (wl := w17) (by repeat (first | exact Below.refl _ _ | apply below_alloc | apply pw_below_drewN | apply below_drew1)) hg_ hbox_); have z_ := Aside0.mk (Kd.N_below HO137.out hs_); clear HO137; have HO137 := z_; clear z_; have z_ := Aside0.mk (Go.Proofs.Ytndcgckgkkhbpaa.Law.advB HB.out hs_); clear HB; have HB := z_; clear z_; have HZ24 := Aside0.mk (below_size hs_); clear hs_ hb hg_ hbox_; have hcz140_0 : w23.cell? ⟨gb140, 0, none⟩ = some (.int .i64 0) := (blk_cell BK140.out 0).trans rfl; have hcz140_1 : w23.cell? ⟨gb140, 1, none⟩ = some (.slice none 0 0) := (blk_cell BK140.out 1).trans rfl; have hcz140_2 : w23.cell? ⟨gb140, 2, none⟩ = some (.int .i64 0) := (blk_cell BK140.out 2).trans rfl; have hfz140_0 := blk_frozen BK140.out 0; have hfz140_1 := blk_frozen BK140.out 1; have hfz140_2 := blk_frozen BK140.out 2) | ((with_reducible refine gate_store (t := 24) (p := 3) rfl ?_); refine store_event (t := 24) (p := 3) (v := ?vo_w25) (w1 := (((w23.setCell ⟨gb140, 0, none⟩ (.int .i64 t134)).setCell ⟨gb140, 1, none⟩ (.slice Ao20 t135.length co21)).setCell ⟨gb140, 2, none⟩ (.int .i64 t138))) ?hg ?ho ?hn ?hr ?_; (case ho => rfl); (case hg => rfl); (case hn => rfl); (case hr => first | (go_simp; done) | (go_simp; rfl)); intro w25 hw_; have hk_ : Kept w23 w25 (fun k => k = gb140) := Go.Proofs.Ytndcgckgkkhbpaa.Law.keq (Go.Proofs.Ytndcgckgkkhbpaa.Law.kset (Go.Proofs.Ytndcgckgkkhbpaa.Law.kset (Go.Proofs.Ytndcgckgkkhbpaa.Law.kset (Kept.refl w23 (fun k => k = gb140)) gb140 0 (.int .i64 t134) rfl) gb140 1 (.slice Ao20 t135.length co21) rfl) gb140 2 (.int .i64 t138) rfl) hw_; (try clear hcz140_0); (try clear hcz140_1); (try clear hcz140_2); (try clear hfz140_0); (try clear hfz140_1); (try clear hfz140_2); have z_ := Aside0.mk (Kd.N_kept HO137.out hk_ (fun k_ h1_ h2_ => Go.Proofs.Ytndcgckgkkhbpaa.Law.apart_ (by have := HZ18.out; have := HZ24.out; omega) (HP19.out k_ h1_).2.1 (HPB140.out k_ h2_).1)); clear HO137; have HO137 := z_; clear z_; have z_ := Aside0.mk (show w25.heap[gb140]? = some (.cells #[.int .i64 t134, .slice Ao20 t135.length co21, .int .i64 t138] 24 (0, 0)) from (by rw [hw_]; exact (blk_put (cs' := #[.int .i64 t134, .slice Ao20 t135.length co21, .int .i64 t138]) ((blk_put (cs' := #[.int .i64 t134, .slice Ao20 t135.length co21, .int .i64 0]) ((blk_put (cs' := #[.int .i64 t134, .slice none 0 0, .int .i64 0]) (BK140.out) 0 (.int .i64 t134) rfl)) 1 (.slice Ao20 t135.length co21) rfl)) 2 (.int .i64 t138) rfl))); clear BK140; have BK140 := z_; clear z_; have z_ := Aside0.mk (show Below w.heap.size w w25 from (by rw [hw_]; exact Go.Proofs.Ytndcgckgkkhbpaa.Law.bset (Go.Proofs.Ytndcgckgkkhbpaa.Law.bset (Go.Proofs.Ytndcgckgkkhbpaa.Law.bset (HB.out) gb140 0 (.int .i64 t134) (by have := HZ18.out; have := HZ24.out; have := (HPB140.out gb140 rfl).1; omega)) gb140 1 (.slice Ao20 t135.length co21) (by have := HZ18.out; have := HZ24.out; have := (HPB140.out gb140 rfl).1; omega)) gb140 2 (.int .i64 t138) (by have := HZ18.out; have := HZ24.out; have := (HPB140.out gb140 rfl).1; omega))); clear HB; have HB := z_; clear z_; have HZ26 := Aside0.mk hk_.1; clear hk_ hw_) | ((with_reducible refine gate_callee (f := 15) rfl ?_); refine goesL_ (some 18) rfl rfl Try.func15 (by kernel_rfl) rfl #[.int .i64 a0] rfl (by (try simp only [List.map_toArray, List.map_cons, List.map_nil]); first | done | rfl) ?_; (with_reducible refine (impl_NewLearner.calls k a0 t141 t142 t145 t146 _ E2.out).mono ?_); rintro e w27 ⟨v143, rfl, ho0, hb⟩; refine ⟨_, rfl, ?_⟩; have hs_ := Go.Proofs.Ytndcgckgkkhbpaa.Law.adv (wl := w25) (by repeat (first | exact Below.refl _ _ | apply below_alloc | apply pw_below_drewN | apply below_drew1)) hb; obtain ⟨P29, hp_, hq_⟩ := Go.Proofs.Ytndcgckgkkhbpaa.Law.made_S (wl := w25) (base := w.heap.size) (by repeat (first | exact Below.refl _ _ | apply below_alloc | apply pw_below_drewN | apply below_drew1)) (below_size HB.out) ho0; have HP29 := Aside0.mk hp_; have zHO144 := Aside0.mk hq_; clear hp_ hq_ ho0; have z_ := Aside0.mk (Kd.N_below HO137.out hs_); clear HO137; have HO137 := z_; clear z_; have z_ := Aside0.mk (blk_below BK140.out hs_); clear BK140; have BK140 := z_; clear z_; (try clear hcz140_0); (try clear hcz140_1); (try clear hcz140_2); have z_ := Aside0.mk (Go.Proofs.Ytndcgckgkkhbpaa.Law.advB HB.out hs_); clear HB; have HB := z_; clear z_; have HZ28 := Aside0.mk (below_size hs_); clear hs_ hb; have HO144 := zHO144; clear zHO144; obtain ⟨Ao30, co31, eo32⟩ := Go.Proofs.Ytndcgckgkkhbpaa.Law.slice_S HO144.out; subst eo32) | ((with_reducible refine gate_dst (N := 5) rfl ?_); refine box_event ?hg (N := 5) ?hd (cs := #[.int .i64 0, .slice none 0 0, .int .i64 0]) (t := 24) ?hr ?_; (case hd => rfl); (case hg => rfl); (case hr => first | (go_simp; done) | (go_simp; rfl)); intro gb147 hg_ w33 hbox_ hb; have hs_ := Go.Proofs.Ytndcgckgkkhbpaa.Law.adv (wl := w27) (by repeat (first | exact Below.refl _ _ | apply below_alloc | apply pw_below_drewN | apply below_drew1)) hb; have BK147 := Aside0.mk hbox_; have HPB147 := Aside0.mk (Go.Proofs.Ytndcgckgkkhbpaa.Law.boxIn (wl := w27) (by repeat (first | exact Below.refl _ _ | apply below_alloc | apply pw_below_drewN | apply below_drew1)) hg_ hbox_); (try clear hcz140_0); (try clear hcz140_1); (try clear hcz140_2); have z_ := Aside0.mk (Kd.N_below HO137.out hs_); clear HO137; have HO137 := z_; clear z_; have z_ := Aside0.mk (Kd.S_below HO144.out hs_); clear HO144; have HO144 := z_; clear z_; have z_ := Aside0.mk (blk_below BK140.out hs_); clear BK140; have BK140 := z_; clear z_; have z_ := Aside0.mk (Go.Proofs.Ytndcgckgkkhbpaa.Law.advB HB.out hs_); clear HB; have HB := z_; clear z_; have HZ34 := Aside0.mk (below_size hs_); clear hs_ hb hg_ hbox_; have hcz147_0 : w33.cell? ⟨gb147, 0, none⟩ = some (.int .i64 0) := (blk_cell BK147.out 0).trans rfl; have hcz147_1 : w33.cell? ⟨gb147, 1, none⟩ = some (.slice none 0 0) := (blk_cell BK147.out 1).trans rfl; have hcz147_2 : w33.cell? ⟨gb147, 2, none⟩ = some (.int .i64 0) := (blk_cell BK147.out 2).trans rfl; have hfz147_0 := blk_frozen BK147.out 0; have hfz147_1 := blk_frozen BK147.out 1; have hfz147_2 := blk_frozen BK147.out 2) | ((with_reducible refine gate_store (t := 24) (p := 5) rfl ?_); refine store_event (t := 24) (p := 5) (v := ?vo_w35) (w1 := (((w33.setCell ⟨gb147, 0, none⟩ (.int .i64 t141)).setCell ⟨gb147, 1, none⟩ (.slice Ao30 t142.length co31)).setCell ⟨gb147, 2, none⟩ (.int .i64 t145))) ?hg ?ho ?hn ?hr ?_; (case ho => rfl); (case hg => rfl); (case hn => rfl); (case hr => first | (go_simp; done) | (go_simp; rfl)); intro w35 hw_; have hk_ : Kept w33 w35 (fun k => k = gb147) := Go.Proofs.Ytndcgckgkkhbpaa.Law.keq (Go.Proofs.Ytndcgckgkkhbpaa.Law.kset (Go.Proofs.Ytndcgckgkkhbpaa.Law.kset (Go.Proofs.Ytndcgckgkkhbpaa.Law.kset (Kept.refl w33 (fun k => k = gb147)) gb147 0 (.int .i64 t141) rfl) gb147 1 (.slice Ao30 t142.length co31) rfl) gb147 2 (.int .i64 t145) rfl) hw_; (try clear hcz140_0); (try clear hcz140_1); (try clear hcz140_2); (try clear hcz147_0); (try clear hcz147_1); (try clear hcz147_2); (try clear hfz147_0); (try clear hfz147_1); (try clear hfz147_2); have z_ := Aside0.mk (Kd.N_kept HO137.out hk_ (fun k_ h1_ h2_ => Go.Proofs.Ytndcgckgkkhbpaa.Law.apart_ (by have := HZ18.out; have := HZ24.out; have := HZ26.out; have := HZ28.out; have := HZ34.out; omega) (HP19.out k_ h1_).2.1 (HPB147.out k_ h2_).1)); clear HO137; have HO137 := z_; clear z_; have z_ := Aside0.mk (Kd.S_kept HO144.out hk_ (fun k_ h1_ h2_ => Go.Proofs.Ytndcgckgkkhbpaa.Law.apart_ (by have := HZ18.out; have := HZ24.out; have := HZ26.out; have := HZ28.out; have := HZ34.out; omega) (HP29.out k_ h1_).2.1 (HPB147.out k_ h2_).1)); clear HO144; have HO144 := z_; clear z_; have z_ := Aside0.mk (blk_kept BK140.out hk_ (fun he_ => (fun k_ h1_ h2_ => Go.Proofs.Ytndcgckgkkhbpaa.Law.apart_ (by have := HZ18.out; have := HZ24.out; have := HZ26.out; have := HZ28.out; have := HZ34.out; omega) (HPB140.out k_ h1_).2.1 (HPB147.out k_ h2_).1) gb140 rfl he_)); clear BK140; have BK140 := z_; clear z_; have z_ := Aside0.mk (show w35.heap[gb147]? = some (.cells #[.int .i64 t141, .slice Ao30 t142.length co31, .int .i64 t145] 24 (0, 0)) from (by rw [hw_]; exact (blk_put (cs' := #[.int .i64 t141, .slice Ao30 t142.length co31, .int .i64 t145]) ((blk_put (cs' := #[.int .i64 t141, .slice Ao30 t142.length co31, .int .i64 0]) ((blk_put (cs' := #[.int .i64 t141, .slice none 0 0, .int .i64 0]) (BK147.out) 0 (.int .i64 t141) rfl)) 1 (.slice Ao30 t142.length co31) rfl)) 2 (.int .i64 t145) rfl))); clear BK147; have BK147 := z_; clear z_; have z_ := Aside0.mk (show Below w.heap.size w w35 from (by rw [hw_]; exact Go.Proofs.Ytndcgckgkkhbpaa.Law.bset (Go.Proofs.Ytndcgckgkkhbpaa.Law.bset (Go.Proofs.Ytndcgckgkkhbpaa.Law.bset (HB.out) gb147 0 (.int .i64 t141) (by have := HZ18.out; have := HZ24.out; have := HZ26.out; have := HZ28.out; have := HZ34.out; have := (HPB147.out gb147 rfl).1; omega)) gb147 1 (.slice Ao30 t142.length co31) (by have := HZ18.out; have := HZ24.out; have := HZ26.out; have := HZ28.out; have := HZ34.out; have := (HPB147.out gb147 rfl).1; omega)) gb147 2 (.int .i64 t145) (by have := HZ18.out; have := HZ24.out; have := HZ26.out; have := HZ28.out; have := HZ34.out; have := (HPB147.out gb147 rfl).1; omega))); clear HB; have HB := z_; clear z_; have HZ36 := Aside0.mk hk_.1; clear hk_ hw_; have hcz147_0 : w35.cell? ⟨gb147, 0, none⟩ = some (.int .i64 t141) := (blk_cell BK147.out 0).trans rfl; have hcz147_1 : w35.cell? ⟨gb147, 1, none⟩ = some (.slice Ao30 t142.length co31) := (blk_cell BK147.out 1).trans rfl; have hcz147_2 : w35.cell? ⟨gb147, 2, none⟩ = some (.int .i64 t145) := (blk_cell BK147.out 2).trans rfl; have hcz140_0 : w35.cell? ⟨gb140, 0, none⟩ = some (.int .i64 t134) := (blk_cell BK140.out 0).trans rfl; have hcz140_1 : w35.cell? ⟨gb140, 1, none⟩ = some (.slice Ao20 t135.length co21) := (blk_cell BK140.out 1).trans rfl; have hcz140_2 : w35.cell? ⟨gb140, 2, none⟩ = some (.int .i64 t138) := (blk_cell BK140.out 2).trans rfl) | ((with_reducible refine gate_callee (f := 16) rfl ?_); refine goesL_ (some 23) rfl rfl Try.func16 (by kernel_rfl) rfl #[.agg #[.int .i64 t141, .slice Ao30 t142.length co31, .int .i64 t145], .agg #[.int .i64 t134, .slice Ao20 t135.length co21, .int .i64 t138]] rfl (by (try simp only [List.map_toArray, List.map_cons, List.map_nil]); first | done | rfl) ?_; (with_reducible refine (laws_eqLearner.calls k t141 _ _ t142 t145 t134 _ _ t135 t138 true _ ?side1 ?side2 ?side3 ?side4 E3.out).mono ?_); (case side1 => repeat (first | exact (Kd.S_reads' HO144.out).2.2 | (with_reducible refine Kd.C_alloc ?_ _) | (with_reducible refine Kd.C_drewN ?_ _) | (with_reducible refine Kd.C_drew ?_))); (case side2 => exact (Kd.S_reads' HO144.out).2.1); (case side3 => repeat (first | exact (Kd.N_reads' HO137.out).2.2 | (with_reducible refine Kd.C_alloc ?_ _) | (with_reducible refine Kd.C_drewN ?_ _) | (with_reducible refine Kd.C_drew ?_))); (case side4 => exact (Kd.N_reads' HO137.out).2.1); rintro e w37 ⟨rfl, hb⟩; refine ⟨_, rfl, ?_⟩; have hs_ := Go.Proofs.Ytndcgckgkkhbpaa.Law.adv (wl := w35) (by repeat (first | exact Below.refl _ _ | apply below_alloc | apply pw_below_drewN | apply below_drew1)) hb; have z_ := Aside0.mk (Kd.N_below HO137.out hs_); clear HO137; have HO137 := z_; clear z_; have z_ := Aside0.mk (Kd.S_below HO144.out hs_); clear HO144; have HO144 := z_; clear z_; have z_ := Aside0.mk (blk_below BK140.out hs_); clear BK140; have BK140 := z_; clear z_; have z_ := Aside0.mk (blk_below BK147.out hs_); clear BK147; have BK147 := z_; clear z_; (try clear hcz140_0); (try clear hcz140_1); (try clear hcz140_2); (try clear hcz147_0); (try clear hcz147_1); (try clear hcz147_2); have z_ := Aside0.mk (Go.Proofs.Ytndcgckgkkhbpaa.Law.advB HB.out hs_); clear HB; have HB := z_; clear z_; have HZ38 := Aside0.mk (below_size hs_); clear hs_ hb; have hcz147_0 : w37.cell? ⟨gb147, 0, none⟩ = some (.int .i64 t141) := (blk_cell BK147.out 0).trans rfl; have hcz147_1 : w37.cell? ⟨gb147, 1, none⟩ = some (.slice Ao30 t142.length co31) := (blk_cell BK147.out 1).trans rfl; have hcz147_2 : w37.cell? ⟨gb147, 2, none⟩ = some (.int .i64 t145) := (blk_cell BK147.out 2).trans rfl) | ((with_reducible refine gate_callee (f := 17) rfl ?_); refine goesL_ (some 32) rfl rfl Try.func17 (by kernel_rfl) rfl #[.agg #[.int .i64 t141, .slice Ao30 t142.length co31, .int .i64 t145], .int .i64 1] rfl (by (try simp only [List.map_toArray, List.map_cons, List.map_nil]); first | done | rfl) ?_; (with_reducible refine (laws_markLearner.calls k t141 P29 _ t142 t145 1 t149 t150 w _ ?side1 ?side2 E6.out).mono ?_); (case side1 => exact Go.Proofs.Ytndcgckgkkhbpaa.Law.advB HB.out (by repeat (first | exact Below.refl _ _ | apply below_alloc | apply pw_below_drewN | apply below_drew1))); (case side2 => exact Kd.S_below HO144.out (by repeat (first | exact Below.refl _ _ | apply below_alloc | apply pw_below_drewN | apply below_drew1))); rintro e w39 ⟨rfl, hm_, hb2, hk⟩; refine ⟨_, rfl, ?_⟩; have hz_ := Aside0.mk (Go.Proofs.Ytndcgckgkkhbpaa.Law.kept_le (wl := w37) (by repeat (first | exact Below.refl _ _ | apply below_alloc | apply pw_below_drewN | apply below_drew1)) hk); have z_ := Aside0.mk (Kd.N_kept (Kd.N_below HO137.out (by repeat (first | exact Below.refl _ _ | apply below_alloc | apply pw_below_drewN | apply below_drew1))) hk (fun k_ h1_ h2_ => Go.Proofs.Ytndcgckgkkhbpaa.Law.apart_ (by have := HZ18.out; have := HZ24.out; have := HZ26.out; have := HZ28.out; have := HZ34.out; have := HZ36.out; have := HZ38.out; omega) (HP19.out k_ h1_).2.1 (HP29.out k_ h2_).1)); clear HO137; have HO137 := z_; clear z_; have z_ := Aside0.mk (blk_kept (blk_below BK140.out (by repeat (first | exact Below.refl _ _ | apply below_alloc | apply pw_below_drewN | apply below_drew1))) hk (fun hP_ => (fun k_ h1_ h2_ => Go.Proofs.Ytndcgckgkkhbpaa.Law.apart_ (by have := HZ18.out; have := HZ24.out; have := HZ26.out; have := HZ28.out; have := HZ34.out; have := HZ36.out; have := HZ38.out; omega) (HPB140.out k_ h1_).2.1 (HP29.out k_ h2_).1) gb140 rfl hP_)); clear BK140; have BK140 := z_; clear z_; have z_ := Aside0.mk (blk_kept (blk_below BK147.out (by repeat (first | exact Below.refl _ _ | apply below_alloc | apply pw_below_drewN | apply below_drew1))) hk (fun hP_ => (fun k_ h1_ h2_ => Go.Proofs.Ytndcgckgkkhbpaa.Law.apart_ (by have := HZ18.out; have := HZ24.out; have := HZ26.out; have := HZ28.out; have := HZ34.out; have := HZ36.out; have := HZ38.out; omega) (HP29.out k_ h2_).2.1 (HPB147.out k_ h1_).1) gb147 rfl hP_)); clear BK147; have BK147 := z_; clear z_; (try clear hcz140_0); (try clear hcz140_1); (try clear hcz140_2); (try clear hcz147_0); (try clear hcz147_1); (try clear hcz147_2); have HZ40 := hz_; clear hz_; obtain ⟨P41, hp_, hq_⟩ := Go.Proofs.Ytndcgckgkkhbpaa.Law.marked_S (lo := w25) (wl := w37) (by repeat (first | exact Below.refl _ _ | apply below_alloc | apply pw_below_drewN | apply below_drew1)) (fun k_ hk_ => (HP29.out k_ hk_).1) (by have := HZ18.out; have := HZ24.out; have := HZ26.out; have := HZ28.out; have := HZ34.out; have := HZ36.out; have := HZ38.out; have := HZ40.out; omega) hm_; have HP41 := Aside0.mk hp_; clear HO144; have HO144 := Aside0.mk hq_; clear hm_ hk hp_ hq_; have hl_ := (Kd.S_reads' HO144.out).1; rw [hl_] at HO144; (try rw [hl_]); (try rw [hl_] at BK147); clear hl_; clear HB; have HB := Aside0.mk hb2; clear hb2; have hcz147_0 : w39.cell? ⟨gb147, 0, none⟩ = some (.int .i64 t141) := (blk_cell BK147.out 0).trans rfl; have hcz147_1 : w39.cell? ⟨gb147, 1, none⟩ = some (.slice Ao30 t150.length co31) := (blk_cell BK147.out 1).trans rfl; have hcz147_2 : w39.cell? ⟨gb147, 2, none⟩ = some (.int .i64 t145) := (blk_cell BK147.out 2).trans rfl) | ((with_reducible refine gate_callee (f := 18) rfl ?_); refine goesL_ (some 35) rfl rfl Try.func18 (by kernel_rfl) rfl #[.agg #[.int .i64 t141, .slice Ao30 t150.length co31, .int .i64 t145], .int .i64 1] rfl (by (try simp only [List.map_toArray, List.map_cons, List.map_nil]); first | done | rfl) ?_; (with_reducible refine (laws_heldLearner.calls k t141 _ _ t150 t145 1 t151 _ ?side1 ?side2 E7.out).mono ?_); (case side1 => repeat (first | exact (Kd.S_reads' HO144.out).2.2 | (with_reducible refine Kd.C_alloc ?_ _) | (with_reducible refine Kd.C_drewN ?_ _) | (with_reducible refine Kd.C_drew ?_))); (case side2 => exact (Kd.S_reads' HO144.out).2.1); rintro e w42 ⟨rfl, hb⟩; refine ⟨_, rfl, ?_⟩; have hs_ := Go.Proofs.Ytndcgckgkkhbpaa.Law.adv (wl := w39) (by repeat (first | exact Below.refl _ _ | apply below_alloc | apply pw_below_drewN | apply below_drew1)) hb; have z_ := Aside0.mk (Kd.N_below HO137.out hs_); clear HO137; have HO137 := z_; clear z_; have z_ := Aside0.mk (Kd.S_below HO144.out hs_); clear HO144; have HO144 := z_; clear z_; have z_ := Aside0.mk (blk_below BK140.out hs_); clear BK140; have BK140 := z_; clear z_; have z_ := Aside0.mk (blk_below BK147.out hs_); clear BK147; have BK147 := z_; clear z_; (try clear hcz140_0); (try clear hcz140_1); (try clear hcz140_2); (try clear hcz147_0); (try clear hcz147_1); (try clear hcz147_2); have z_ := Aside0.mk (Go.Proofs.Ytndcgckgkkhbpaa.Law.advB HB.out hs_); clear HB; have HB := z_; clear z_; have HZ43 := Aside0.mk (below_size hs_); clear hs_ hb) | ((with_reducible refine gate_callee (f := 15) rfl ?_); refine goesL_ (some 43) rfl rfl Try.func15 (by kernel_rfl) rfl #[.int .i64 a0] rfl (by (try simp only [List.map_toArray, List.map_cons, List.map_nil]); first | done | rfl) ?_; (with_reducible refine (impl_NewLearner.calls k a0 t152 t153 t156 t157 _ E10.out).mono ?_); rintro e w44 ⟨v154, rfl, ho0, hb⟩; refine ⟨_, rfl, ?_⟩; have hs_ := Go.Proofs.Ytndcgckgkkhbpaa.Law.adv (wl := w42) (by repeat (first | exact Below.refl _ _ | apply below_alloc | apply pw_below_drewN | apply below_drew1)) hb; obtain ⟨P46, hp_, hq_⟩ := Go.Proofs.Ytndcgckgkkhbpaa.Law.made_S (wl := w42) (base := w.heap.size) (by repeat (first | exact Below.refl _ _ | apply below_alloc | apply pw_below_drewN | apply below_drew1)) (below_size HB.out) ho0; have HP46 := Aside0.mk hp_; have zHO155 := Aside0.mk hq_; clear hp_ hq_ ho0; have z_ := Aside0.mk (Kd.N_below HO137.out hs_); clear HO137; have HO137 := z_; clear z_; have z_ := Aside0.mk (Kd.S_below HO144.out hs_); clear HO144; have HO144 := z_; clear z_; have z_ := Aside0.mk (blk_below BK140.out hs_); clear BK140; have BK140 := z_; clear z_; have z_ := Aside0.mk (blk_below BK147.out hs_); clear BK147; have BK147 := z_; clear z_; (try clear hcz140_0); (try clear hcz140_1); (try clear hcz140_2); (try clear hcz147_0); (try clear hcz147_1); (try clear hcz147_2); have z_ := Aside0.mk (Go.Proofs.Ytndcgckgkkhbpaa.Law.advB HB.out hs_); clear HB; have HB := z_; clear z_; have HZ45 := Aside0.mk (below_size hs_); clear hs_ hb; have HO155 := zHO155; clear zHO155; obtain ⟨Ao47, co48, eo49⟩ := Go.Proofs.Ytndcgckgkkhbpaa.Law.slice_S HO155.out; subst eo49) | ((with_reducible refine gate_dst (N := 9) rfl ?_); refine box_event ?hg (N := 9) ?hd (cs := #[.int .i64 0, .slice none 0 0, .int .i64 0]) (t := 24) ?hr ?_; (case hd => rfl); (case hg => rfl); (case hr => first | (go_simp; done) | (go_simp; rfl)); intro gb158 hg_ w50 hbox_ hb; have hs_ := Go.Proofs.Ytndcgckgkkhbpaa.Law.adv (wl := w44) (by repeat (first | exact Below.refl _ _ | apply below_alloc | apply pw_below_drewN | apply below_drew1)) hb; have BK158 := Aside0.mk hbox_; have HPB158 := Aside0.mk (Go.Proofs.Ytndcgckgkkhbpaa.Law.boxIn (wl := w44) (by repeat (first | exact Below.refl _ _ | apply below_alloc | apply pw_below_drewN | apply below_drew1)) hg_ hbox_); (try clear hcz140_0); (try clear hcz140_1); (try clear hcz140_2); (try clear hcz147_0); (try clear hcz147_1); (try clear hcz147_2); have z_ := Aside0.mk (Kd.N_below HO137.out hs_); clear HO137; have HO137 := z_; clear z_; have z_ := Aside0.mk (Kd.S_below HO144.out hs_); clear HO144; have HO144 := z_; clear z_; have z_ := Aside0.mk (Kd.S_below HO155.out hs_); clear HO155; have HO155 := z_; clear z_; have z_ := Aside0.mk (blk_below BK140.out hs_); clear BK140; have BK140 := z_; clear z_; have z_ := Aside0.mk (blk_below BK147.out hs_); clear BK147; have BK147 := z_; clear z_; have z_ := Aside0.mk (Go.Proofs.Ytndcgckgkkhbpaa.Law.advB HB.out hs_); clear HB; have HB := z_; clear z_; have HZ51 := Aside0.mk (below_size hs_); clear hs_ hb hg_ hbox_; have hcz158_0 : w50.cell? ⟨gb158, 0, none⟩ = some (.int .i64 0) := (blk_cell BK158.out 0).trans rfl; have hcz158_1 : w50.cell? ⟨gb158, 1, none⟩ = some (.slice none 0 0) := (blk_cell BK158.out 1).trans rfl; have hcz158_2 : w50.cell? ⟨gb158, 2, none⟩ = some (.int .i64 0) := (blk_cell BK158.out 2).trans rfl; have hfz158_0 := blk_frozen BK158.out 0; have hfz158_1 := blk_frozen BK158.out 1; have hfz158_2 := blk_frozen BK158.out 2) | ((with_reducible refine gate_store (t := 24) (p := 9) rfl ?_); refine store_event (t := 24) (p := 9) (v := ?vo_w52) (w1 := (((w50.setCell ⟨gb158, 0, none⟩ (.int .i64 t152)).setCell ⟨gb158, 1, none⟩ (.slice Ao47 t153.length co48)).setCell ⟨gb158, 2, none⟩ (.int .i64 t156))) ?hg ?ho ?hn ?hr ?_; (case ho => rfl); (case hg => rfl); (case hn => rfl); (case hr => first | (go_simp; done) | (go_simp; rfl)); intro w52 hw_; have hk_ : Kept w50 w52 (fun k => k = gb158) := Go.Proofs.Ytndcgckgkkhbpaa.Law.keq (Go.Proofs.Ytndcgckgkkhbpaa.Law.kset (Go.Proofs.Ytndcgckgkkhbpaa.Law.kset (Go.Proofs.Ytndcgckgkkhbpaa.Law.kset (Kept.refl w50 (fun k => k = gb158)) gb158 0 (.int .i64 t152) rfl) gb158 1 (.slice Ao47 t153.length co48) rfl) gb158 2 (.int .i64 t156) rfl) hw_; (try clear hcz140_0); (try clear hcz140_1); (try clear hcz140_2); (try clear hcz147_0); (try clear hcz147_1); (try clear hcz147_2); (try clear hcz158_0); (try clear hcz158_1); (try clear hcz158_2); (try clear hfz158_0); (try clear hfz158_1); (try clear hfz158_2); have z_ := Aside0.mk (Kd.N_kept HO137.out hk_ (fun k_ h1_ h2_ => Go.Proofs.Ytndcgckgkkhbpaa.Law.apart_ (by have := HZ18.out; have := HZ24.out; have := HZ26.out; have := HZ28.out; have := HZ34.out; have := HZ36.out; have := HZ38.out; have := HZ40.out; have := HZ43.out; have := HZ45.out; have := HZ51.out; omega) (HP19.out k_ h1_).2.1 (HPB158.out k_ h2_).1)); clear HO137; have HO137 := z_; clear z_; have z_ := Aside0.mk (Kd.S_kept HO144.out hk_ (fun k_ h1_ h2_ => Go.Proofs.Ytndcgckgkkhbpaa.Law.apart_ (by have := HZ18.out; have := HZ24.out; have := HZ26.out; have := HZ28.out; have := HZ34.out; have := HZ36.out; have := HZ38.out; have := HZ40.out; have := HZ43.out; have := HZ45.out; have := HZ51.out; omega) (HP41.out k_ h1_).2.1 (HPB158.out k_ h2_).1)); clear HO144; have HO144 := z_; clear z_; have z_ := Aside0.mk (Kd.S_kept HO155.out hk_ (fun k_ h1_ h2_ => Go.Proofs.Ytndcgckgkkhbpaa.Law.apart_ (by have := HZ18.out; have := HZ24.out; have := HZ26.out; have := HZ28.out; have := HZ34.out; have := HZ36.out; have := HZ38.out; have := HZ40.out; have := HZ43.out; have := HZ45.out; have := HZ51.out; omega) (HP46.out k_ h1_).2.1 (HPB158.out k_ h2_).1)); clear HO155; have HO155 := z_; clear z_; have z_ := Aside0.mk (blk_kept BK140.out hk_ (fun he_ => (fun k_ h1_ h2_ => Go.Proofs.Ytndcgckgkkhbpaa.Law.apart_ (by have := HZ18.out; have := HZ24.out; have := HZ26.out; have := HZ28.out; have := HZ34.out; have := HZ36.out; have := HZ38.out; have := HZ40.out; have := HZ43.out; have := HZ45.out; have := HZ51.out; omega) (HPB140.out k_ h1_).2.1 (HPB158.out k_ h2_).1) gb140 rfl he_)); clear BK140; have BK140 := z_; clear z_; have z_ := Aside0.mk (blk_kept BK147.out hk_ (fun he_ => (fun k_ h1_ h2_ => Go.Proofs.Ytndcgckgkkhbpaa.Law.apart_ (by have := HZ18.out; have := HZ24.out; have := HZ26.out; have := HZ28.out; have := HZ34.out; have := HZ36.out; have := HZ38.out; have := HZ40.out; have := HZ43.out; have := HZ45.out; have := HZ51.out; omega) (HPB147.out k_ h1_).2.1 (HPB158.out k_ h2_).1) gb147 rfl he_)); clear BK147; have BK147 := z_; clear z_; have z_ := Aside0.mk (show w52.heap[gb158]? = some (.cells #[.int .i64 t152, .slice Ao47 t153.length co48, .int .i64 t156] 24 (0, 0)) from (by rw [hw_]; exact (blk_put (cs' := #[.int .i64 t152, .slice Ao47 t153.length co48, .int .i64 t156]) ((blk_put (cs' := #[.int .i64 t152, .slice Ao47 t153.length co48, .int .i64 0]) ((blk_put (cs' := #[.int .i64 t152, .slice none 0 0, .int .i64 0]) (BK158.out) 0 (.int .i64 t152) rfl)) 1 (.slice Ao47 t153.length co48) rfl)) 2 (.int .i64 t156) rfl))); clear BK158; have BK158 := z_; clear z_; have z_ := Aside0.mk (show Below w.heap.size w w52 from (by rw [hw_]; exact Go.Proofs.Ytndcgckgkkhbpaa.Law.bset (Go.Proofs.Ytndcgckgkkhbpaa.Law.bset (Go.Proofs.Ytndcgckgkkhbpaa.Law.bset (HB.out) gb158 0 (.int .i64 t152) (by have := HZ18.out; have := HZ24.out; have := HZ26.out; have := HZ28.out; have := HZ34.out; have := HZ36.out; have := HZ38.out; have := HZ40.out; have := HZ43.out; have := HZ45.out; have := HZ51.out; have := (HPB158.out gb158 rfl).1; omega)) gb158 1 (.slice Ao47 t153.length co48) (by have := HZ18.out; have := HZ24.out; have := HZ26.out; have := HZ28.out; have := HZ34.out; have := HZ36.out; have := HZ38.out; have := HZ40.out; have := HZ43.out; have := HZ45.out; have := HZ51.out; have := (HPB158.out gb158 rfl).1; omega)) gb158 2 (.int .i64 t156) (by have := HZ18.out; have := HZ24.out; have := HZ26.out; have := HZ28.out; have := HZ34.out; have := HZ36.out; have := HZ38.out; have := HZ40.out; have := HZ43.out; have := HZ45.out; have := HZ51.out; have := (HPB158.out gb158 rfl).1; omega))); clear HB; have HB := z_; clear z_; have HZ53 := Aside0.mk hk_.1; clear hk_ hw_; have hcz158_0 : w52.cell? ⟨gb158, 0, none⟩ = some (.int .i64 t152) := (blk_cell BK158.out 0).trans rfl; have hcz158_1 : w52.cell? ⟨gb158, 1, none⟩ = some (.slice Ao47 t153.length co48) := (blk_cell BK158.out 1).trans rfl; have hcz158_2 : w52.cell? ⟨gb158, 2, none⟩ = some (.int .i64 t156) := (blk_cell BK158.out 2).trans rfl; have hcz140_0 : w52.cell? ⟨gb140, 0, none⟩ = some (.int .i64 t134) := (blk_cell BK140.out 0).trans rfl; have hcz140_1 : w52.cell? ⟨gb140, 1, none⟩ = some (.slice Ao20 t135.length co21) := (blk_cell BK140.out 1).trans rfl; have hcz140_2 : w52.cell? ⟨gb140, 2, none⟩ = some (.int .i64 t138) := (blk_cell BK140.out 2).trans rfl) | ((with_reducible refine gate_callee (f := 16) rfl ?_); refine goesL_ (some 48) rfl rfl Try.func16 (by kernel_rfl) rfl #[.agg #[.int .i64 t152, .slice Ao47 t153.length co48, .int .i64 t156], .agg #[.int .i64 t134, .slice Ao20 t135.length co21, .int .i64 t138]] rfl (by (try simp only [List.map_toArray, List.map_cons, List.map_nil]); first | done | rfl) ?_; (with_reducible refine (laws_eqLearner.calls k t152 _ _ t153 t156 t134 _ _ t135 t138 true _ ?side1 ?side2 ?side3 ?side4 E11.out).mono ?_); (case side1 => repeat (first | exact (Kd.S_reads' HO155.out).2.2 | (with_reducible refine Kd.C_alloc ?_ _) | (with_reducible refine Kd.C_drewN ?_ _) | (with_reducible refine Kd.C_drew ?_))); (case side2 => exact (Kd.S_reads' HO155.out).2.1); (case side3 => repeat (first | exact (Kd.N_reads' HO137.out).2.2 | (with_reducible refine Kd.C_alloc ?_ _) | (with_reducible refine Kd.C_drewN ?_ _) | (with_reducible refine Kd.C_drew ?_))); (case side4 => exact (Kd.N_reads' HO137.out).2.1); rintro e w54 ⟨rfl, hb⟩; refine ⟨_, rfl, ?_⟩; have hs_ := Go.Proofs.Ytndcgckgkkhbpaa.Law.adv (wl := w52) (by repeat (first | exact Below.refl _ _ | apply below_alloc | apply pw_below_drewN | apply below_drew1)) hb; have z_ := Aside0.mk (Kd.N_below HO137.out hs_); clear HO137; have HO137 := z_; clear z_; have z_ := Aside0.mk (Kd.S_below HO144.out hs_); clear HO144; have HO144 := z_; clear z_; have z_ := Aside0.mk (Kd.S_below HO155.out hs_); clear HO155; have HO155 := z_; clear z_; have z_ := Aside0.mk (blk_below BK140.out hs_); clear BK140; have BK140 := z_; clear z_; have z_ := Aside0.mk (blk_below BK147.out hs_); clear BK147; have BK147 := z_; clear z_; have z_ := Aside0.mk (blk_below BK158.out hs_); clear BK158; have BK158 := z_; clear z_; (try clear hcz140_0); (try clear hcz140_1); (try clear hcz140_2); (try clear hcz147_0); (try clear hcz147_1); (try clear hcz147_2); (try clear hcz158_0); (try clear hcz158_1); (try clear hcz158_2); have z_ := Aside0.mk (Go.Proofs.Ytndcgckgkkhbpaa.Law.advB HB.out hs_); clear HB; have HB := z_; clear z_; have HZ55 := Aside0.mk (below_size hs_); clear hs_ hb; have hcz147_0 : w54.cell? ⟨gb147, 0, none⟩ = some (.int .i64 t141) := (blk_cell BK147.out 0).trans rfl; have hcz147_1 : w54.cell? ⟨gb147, 1, none⟩ = some (.slice Ao30 t150.length co31) := (blk_cell BK147.out 1).trans rfl; have hcz147_2 : w54.cell? ⟨gb147, 2, none⟩ = some (.int .i64 t145) := (blk_cell BK147.out 2).trans rfl) | ((with_reducible refine gate_callee (f := 18) rfl ?_); refine goesL_ (some 57) rfl rfl Try.func18 (by kernel_rfl) rfl #[.agg #[.int .i64 t141, .slice Ao30 t150.length co31, .int .i64 t145], .int .i64 1] rfl (by (try simp only [List.map_toArray, List.map_cons, List.map_nil]); first | done | rfl) ?_; (with_reducible refine (laws_heldLearner.calls k t141 _ _ t150 t145 1 t160 _ ?side1 ?side2 E14.out).mono ?_); (case side1 => repeat (first | exact (Kd.S_reads' HO144.out).2.2 | (with_reducible refine Kd.C_alloc ?_ _) | (with_reducible refine Kd.C_drewN ?_ _) | (with_reducible refine Kd.C_drew ?_))); (case side2 => exact (Kd.S_reads' HO144.out).2.1); rintro e w56 ⟨rfl, hb⟩; refine ⟨_, rfl, ?_⟩; have hs_ := Go.Proofs.Ytndcgckgkkhbpaa.Law.adv (wl := w54) (by repeat (first | exact Below.refl _ _ | apply below_alloc | apply pw_below_drewN | apply below_drew1)) hb; have z_ := Aside0.mk (Kd.N_below HO137.out hs_); clear HO137; have HO137 := z_; clear z_; have z_ := Aside0.mk (Kd.S_below HO144.out hs_); clear HO144; have HO144 := z_; clear z_; have z_ := Aside0.mk (Kd.S_below HO155.out hs_); clear HO155; have HO155 := z_; clear z_; have z_ := Aside0.mk (blk_below BK140.out hs_); clear BK140; have BK140 := z_; clear z_; have z_ := Aside0.mk (blk_below BK147.out hs_); clear BK147; have BK147 := z_; clear z_; have z_ := Aside0.mk (blk_below BK158.out hs_); clear BK158; have BK158 := z_; clear z_; (try clear hcz140_0); (try clear hcz140_1); (try clear hcz140_2); (try clear hcz147_0); (try clear hcz147_1); (try clear hcz147_2); (try clear hcz158_0); (try clear hcz158_1); (try clear hcz158_2); have z_ := Aside0.mk (Go.Proofs.Ytndcgckgkkhbpaa.Law.advB HB.out hs_); clear HB; have HB := z_; clear z_; have HZ57 := Aside0.mk (below_size hs_); clear hs_ hb))
                  go_ret
                  exact ⟨by first | rfl | (simp; done) | (simp [*]; done), Go.Proofs.Ytndcgckgkkhbpaa.Law.advB HB.out (by repeat (first | exact Below.refl _ _ | apply below_alloc | apply pw_below_drewN | apply below_drew1))⟩
                · rw [if_neg c16] at H
                  exact absurd (Option.some.inj H) (by rw [hr_]; decide)
          · replace c12 := Bool.eq_false_iff.mpr c12
            subst c12
            replace H : (some false) = some r := by rw [if_neg (show ¬ (false = true) by decide)] at H; exact H
            exact absurd (Option.some.inj H) (by rw [hr_]; decide)
        · rw [if_neg c9] at H
          exact absurd (Option.some.inj H) (by rw [hr_]; decide)
  · replace c4 := Bool.eq_false_iff.mpr c4
    subst c4
    replace H : (some false) = some r := by rw [if_neg (show ¬ (false = true) by decide)] at H; exact H
    exact absurd (Option.some.inj H) (by rw [hr_]; decide)

end Go.Proofs.Ytndcgckgkkhbpaa.PFnExactNewLearner
