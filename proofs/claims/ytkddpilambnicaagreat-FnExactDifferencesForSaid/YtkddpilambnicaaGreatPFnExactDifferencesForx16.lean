/- Walks of Go functions that the law FnExactDifferencesFor uses: written by this session's program out of the kit's printer; each shows that a call comes to the answers of the Lean function beside it. Conditions: each contract's own. -/
import Derived.Test.YtkddpilambnicaaGreatPFnExactDifferencesForx0
import Derived.Test.YtkddpilambnicaaGreatPFnExactDifferencesForx12
import Derived.Test.YtkddpilambnicaaGreatPFnExactDifferencesForx13
import Derived.Test.YtkddpilambnicaaGreatPFnExactDifferencesForx15
namespace Go.Proofs.YtkddpilambnicaaGreat.PFnExactDifferencesFor
open Go.RowKit Go.Proofs.YtkddpilambnicaaGreatW.PrintWords Go.Proofs.YtkddpilambnicaaGreatW.PrintLast Go.Proofs.YtkddpilambnicaaGreatW.PrintMore Go.Proofs.YtkddpilambnicaaGreat.Mac Go.Proofs.YtkddpilambnicaaGreat.Law
attribute [local go_sem] max2_int min2_int max_two min_two max_three min_three max_four min_four   -- for this text's walks alone
set_option linter.unusedVariables false
set_option linter.unusedSimpArgs false

/-! ### v_impl_places__CountFinalVoiced_1: function 137 -/
mutual
def v_impl_places__CountFinalVoiced_1.l0 : Nat → ByteArray → Int → Int → Int → Option (Int)
 | 0, _, _, _, _ => none
 | k + 1, x0, x5, x10, x11 => if x11 < x10 then (if x11 > 0 then (if 0 ≤ (wrap64 (x11 - 1)) then (if (wrap64 (x11 - 1)) < (x0.size : Int) then (v_impl_places__CountFinalVoiced_1.j1 k x0 x5 x11 (bt x0 (wrap64 (x11 - 1))) 0 x10 x11) else (none)) else (none)) else (v_impl_places__CountFinalVoiced_1.j1 k x0 x5 x11 0 0 x10 x11)) else (some x5)
def v_impl_places__CountFinalVoiced_1.j1 : Nat → ByteArray → Int → Int → Int → Int → Int → Int → Option (Int)
 | 0, _, _, _, _, _, _, _ => none
 | k + 1, x0, x5, x6, x7, x8, x10, x11 => if (wrap64 (x6 + 1)) < (x0.size : Int) then (if 0 ≤ (wrap64 (x6 + 1)) then (v_impl_places__CountFinalVoiced_1.j2 k x0 x5 x6 x7 (bt x0 (wrap64 (x6 + 1))) x10 x11) else (none)) else (v_impl_places__CountFinalVoiced_1.j2 k x0 x5 x6 x7 x8 x10 x11)
def v_impl_places__CountFinalVoiced_1.j2 : Nat → ByteArray → Int → Int → Int → Int → Int → Int → Option (Int)
 | 0, _, _, _, _, _, _, _ => none
 | k + 1, x0, x5, x6, x7, x8, x10, x11 => (impl_IsForm.f k x0).bind fun t401 => (if t401 = true then (if 0 ≤ x6 then (if x6 < (x0.size : Int) then ((impl_CountFinalVoiced_1.f x7 (bt x0 x6) x8).bind fun t402 => (if t402 = true then (v_impl_places__CountFinalVoiced_1.l0 k x0 (wrap64 (x5 + 1)) x10 (wrap64 (x11 + 1))) else (v_impl_places__CountFinalVoiced_1.l0 k x0 x5 x10 (wrap64 (x11 + 1))))) else (none)) else (none)) else (v_impl_places__CountFinalVoiced_1.l0 k x0 x5 x10 (wrap64 (x11 + 1))))
end
def v_impl_places__CountFinalVoiced_1.f (k : Nat) (a0 : ByteArray) : Option (Int) := v_impl_places__CountFinalVoiced_1.l0 k a0 0 (a0.size : Int) 0
set_option maxHeartbeats 8000000 in
set_option maxRecDepth 100000 in
theorem v_impl_places__CountFinalVoiced_1.calls (k : Nat) (a0 : ByteArray) (r : Int) (w : World) (h : v_impl_places__CountFinalVoiced_1.f k a0 = some r) :
  Calls Tryz.prog 137 #[.string a0, .func (.func 145) #[] #[]] w fun e w' => e = .returned (.int .i64 r) ∧ Below w.heap.size w w' := by
 have HB := Aside0.mk (Below.refl w.heap.size w)
 have H : (v_impl_places__CountFinalVoiced_1.l0 k a0 0 (a0.size : Int) 0) = some r := h
 clear h
 have H' := Aside0.mk H
 clear H
 go_enter Tryz.func137, Tryz.ntmps137
 go_wp2
 go_loopg [5, 11] k (fun kq v5 v11 w' => ∃ (x5_1 : Int) (x11_1 : Int), v5 = .int .i64 x5_1 ∧ v11 = .int .i64 x11_1 ∧ Aside0 (v_impl_places__CountFinalVoiced_1.l0 kq a0 x5_1 (a0.size : Int) x11_1 = some r) ∧ Aside0 (kq ≤ k) ∧ Aside0 (Below w.heap.size w w'))
 case atStart => exact ⟨(0), (0), rs_, rs_, H', ⟨Nat.le_refl _⟩, ⟨up_ HB.out⟩⟩
 case round =>
  clear H'
  obtain ⟨x5_1, x11_1, rfl, rfl, HA, HK1, HB⟩ := hrel
  cases gk with
  | zero => exact absurd HA.out (by simp [v_impl_places__CountFinalVoiced_1.l0])
  | succ k1 =>
   have H := HA.out
   clear HA
   simp only [v_impl_places__CountFinalVoiced_1.l0] at H
   replace H := its_ H; rcases H with ⟨c2b0, H⟩ | ⟨c2b0, H⟩
   ·have HC3 := Aside0.mk H
    clear H
    go_upto_if 15 with (fail)
    go_cut [7] (fun v7 wc => ∃ (kq : Nat) (x7_2 : Int), v7 = .int .u8 x7_2 ∧ Aside0 (v_impl_places__CountFinalVoiced_1.j1 kq a0 x5_1 x11_1 x7_2 0 (a0.size : Int) x11_1 = some r) ∧ Aside0 (kq ≤ k1) ∧ Aside0 (Below w.heap.size w wc))
    case first =>
     have H := HC3.out
     clear HC3
     by_cases c4 : x11_1 > 0
     ·rw [if_pos c4] at H
      have c4b0 : decide (0 < x11_1) = true := decide_eq_true c4
      clear c4
      (first | rw [c4b0] | (simp only [i64_w, i32_w]; rw [c4b0]) | skip)
      obtain ⟨ji5, hji5⟩ : ∃ j_ : Int, (wrap64 (x11_1 - 1)) = j_ := ⟨_, rfl⟩
      replace H : (if 0 ≤ (ji5) then (if (ji5) < (a0.size : Int) then (v_impl_places__CountFinalVoiced_1.j1 k1 a0 x5_1 x11_1 (bt a0 (ji5)) 0 (a0.size : Int) x11_1) else (none)) else (none)) = some r := by first | (rw [hji5] at H; exact H) | (simp only [hji5] at H ⊢; exact H)
      have hji5w : (IntKind.i64.wrap (x11_1 - 1)) = ji5 := (i64_w _).trans hji5
      replace H := its_ H; rcases H with ⟨c6b0, H⟩ | ⟨_, ⟨⟩⟩
      replace H := its_ H; rcases H with ⟨c7b0, H⟩ | ⟨_, ⟨⟩⟩
      have H' := Aside0.mk H
      clear H
      have p8 : 0 ≤ ((ji5) : Int) := od_
      have q8 : (ji5) < (a0.size : Int) := od_
      have hx8 := bt_at a0 (ji5)
      replace p8 := eq_true p8
      replace q8 := eq_true q8
      go_wp2
      go_meet
      case rel => exact ⟨_, (bt a0 (ji5)), (by first | rfl | (simp; done) | (simp only [← hji5] <;> (first | rfl | simp)) | (simp [*]; done)), H', ⟨by have := HK1.out; first | omega | exact Nat.le_refl _⟩, ⟨up_ HB.out⟩⟩
     ·rw [if_neg c4] at H
      have c4b0 : decide (0 < x11_1) = false := decide_eq_false c4
      clear c4
      (first | rw [c4b0] | (simp only [i64_w, i32_w]; rw [c4b0]) | skip)
      have H' := Aside0.mk H
      clear H
      go_wp2
      go_meet
      case rel => exact ⟨_, (0), rs_, H', ⟨by have := HK1.out; first | omega | exact Nat.le_refl _⟩, ⟨up_ HB.out⟩⟩
    case rest =>
     clear HC3
     try clear c2
     try clear c2b0
     try clear p2
     try clear c4
     try clear c4b0
     try clear c6
     try clear c6b0
     try clear p6
     try clear c7
     try clear c7b0
     try clear p8
     try clear q8
     try clear hx8
     try clear p8
     try clear q8
     obtain ⟨kq, x7_2, rfl, HA, HJ2, HB⟩ := hcut
     cases kq with
     | zero => exact absurd HA.out (by simp [v_impl_places__CountFinalVoiced_1.j1])
     | succ kj2 =>
      have H := HA.out
      clear HA
      simp only [v_impl_places__CountFinalVoiced_1.j1] at H
      have HC9 := Aside0.mk H
      clear H
      go_upto_if 24 with (fail)
      go_cut [8] (fun v8 wc => ∃ (kq : Nat) (x8_8 : Int), v8 = .int .u8 x8_8 ∧ Aside0 (v_impl_places__CountFinalVoiced_1.j2 kq a0 x5_1 x11_1 x7_2 x8_8 (a0.size : Int) x11_1 = some r) ∧ Aside0 (kq ≤ kj2) ∧ Aside0 (Below w.heap.size w wc))
      case first =>
       have H := HC9.out
       clear HC9
       replace H := its_ H; rcases H with ⟨c10b0, H⟩ | ⟨c10b0, H⟩
       ·(first | rw [c10b0] | (simp only [i64_w, i32_w]; rw [c10b0]) | skip)
        obtain ⟨ji11, hji11⟩ : ∃ j_ : Int, (wrap64 (x11_1 + 1)) = j_ := ⟨_, rfl⟩
        replace H : (if 0 ≤ (ji11) then (v_impl_places__CountFinalVoiced_1.j2 kj2 a0 x5_1 x11_1 x7_2 (bt a0 (ji11)) (a0.size : Int) x11_1) else (none)) = some r := by first | (rw [hji11] at H; exact H) | (simp only [hji11] at H ⊢; exact H)
        (try rw [hji11] at c10b0)
        have hji11w : (IntKind.i64.wrap (x11_1 + 1)) = ji11 := (i64_w _).trans hji11
        replace H := its_ H; rcases H with ⟨c12b0, H⟩ | ⟨_, ⟨⟩⟩
        have H' := Aside0.mk H
        clear H
        have p13 : 0 ≤ ((ji11) : Int) := od_
        have q13 : (ji11) < (a0.size : Int) := od_
        have hx13 := bt_at a0 (ji11)
        replace p13 := eq_true p13
        replace q13 := eq_true q13
        go_wp2
        go_meet
        case rel => exact ⟨_, (bt a0 (ji11)), (by first | rfl | (simp; done) | (simp only [← hji11] <;> (first | rfl | simp)) | (simp [*]; done)), H', ⟨by have := HK1.out; have := HJ2.out; first | omega | exact Nat.le_refl _⟩, ⟨up_ HB.out⟩⟩
       ·(first | rw [c10b0] | (simp only [i64_w, i32_w]; rw [c10b0]) | skip)
        have H' := Aside0.mk H
        clear H
        go_wp2
        go_meet
        case rel => exact ⟨_, (0), rs_, H', ⟨by have := HK1.out; have := HJ2.out; first | omega | exact Nat.le_refl _⟩, ⟨up_ HB.out⟩⟩
      case rest =>
       clear HC9
       try clear c1
       try clear p1
       try clear q1
       try clear hx1
       try clear c2
       try clear c2b0
       try clear p2
       try clear c4
       try clear c4b0
       try clear c6
       try clear c6b0
       try clear p6
       try clear c7
       try clear c7b0
       try clear p8
       try clear q8
       try clear hx8
       try clear c10
       try clear c10b0
       try clear c12
       try clear c12b0
       try clear p13
       try clear q13
       try clear hx13
       try clear p13
       try clear p2
       try clear p6
       try clear p8
       try clear q13
       try clear q8
       obtain ⟨kq, x8_8, rfl, HA, HJ8, HB⟩ := hcut
       cases kq with
       | zero => exact absurd HA.out (by simp [v_impl_places__CountFinalVoiced_1.j2])
       | succ kj8 =>
        have H := HA.out
        clear HA
        simp only [v_impl_places__CountFinalVoiced_1.j2] at H
        replace H := bnd_ H; obtain ⟨t401, A14, H⟩ := H
        replace H := itb_ H; rcases H with ⟨rfl, H⟩ | ⟨rfl, H⟩
        ·replace H := its_ H; rcases H with ⟨c16b0, H⟩ | ⟨_, ⟨⟩⟩
         replace H := its_ H; rcases H with ⟨c17b0, H⟩ | ⟨_, ⟨⟩⟩
         replace H := bnd_ H; obtain ⟨t402, A19, H⟩ := H
         replace H := itb_ H; rcases H with ⟨rfl, H⟩ | ⟨rfl, H⟩
         ·have H' := Aside0.mk H
          clear H
          go_wp2_with (first | ((refine gc_ 69 ?_); refine gq_ (some 30) Tryz.func69 (impl_IsForm.calls kj8 a0 true _ A14.out) (fun nd => ?_); have p18 : 0 ≤ (x11_1 : Int) := od_; have q18 : x11_1 < (a0.size : Int) := od_; have hx18 := bt_at a0 x11_1; replace p18 := eq_true p18; replace q18 := eq_true q18) | (go_at_call 145; (with_reducible refine (impl_CountFinalVoiced_1.calls x7_2 (bt a0 x11_1) x8_8 true _ A19.out).mono ?_); rintro e w21 ⟨rfl, hb⟩; replace HB := bs_ HB hb; (try clear hb); (try clear hb2); (try clear hk); (try clear hi)))
          go_roundg kj8
          case measure => have := HK1.out; have := HJ2.out; have := HJ8.out; omega
          case rel => exact ⟨(wrap64 (x5_1 + 1)), (wrap64 (x11_1 + 1)), rs_, rs_, H', ⟨by have := HK1.out; have := HJ2.out; have := HJ8.out; omega⟩, ⟨up_ HB.out⟩⟩
         ·have H' := Aside0.mk H
          clear H
          go_wp2_with (first | ((refine gc_ 69 ?_); refine gq_ (some 30) Tryz.func69 (impl_IsForm.calls kj8 a0 true _ A14.out) (fun nd => ?_); have p18 : 0 ≤ (x11_1 : Int) := od_; have q18 : x11_1 < (a0.size : Int) := od_; have hx18 := bt_at a0 x11_1; replace p18 := eq_true p18; replace q18 := eq_true q18) | (go_at_call 145; (with_reducible refine (impl_CountFinalVoiced_1.calls x7_2 (bt a0 x11_1) x8_8 false _ A19.out).mono ?_); rintro e w22 ⟨rfl, hb⟩; replace HB := bs_ HB hb; (try clear hb); (try clear hb2); (try clear hk); (try clear hi)))
          go_roundg kj8
          case measure => have := HK1.out; have := HJ2.out; have := HJ8.out; omega
          case rel => exact ⟨(x5_1), (wrap64 (x11_1 + 1)), rs_, rs_, H', ⟨by have := HK1.out; have := HJ2.out; have := HJ8.out; omega⟩, ⟨up_ HB.out⟩⟩
        ·have H' := Aside0.mk H
         clear H
         go_wp2_with (first | ((refine gc_ 69 ?_); refine gq_ (some 30) Tryz.func69 (impl_IsForm.calls kj8 a0 false _ A14.out) (fun nd => ?_)))
         go_roundg kj8
         case measure => have := HK1.out; have := HJ2.out; have := HJ8.out; omega
         case rel => exact ⟨(x5_1), (wrap64 (x11_1 + 1)), rs_, rs_, H', ⟨by have := HK1.out; have := HJ2.out; have := HJ8.out; omega⟩, ⟨up_ HB.out⟩⟩
   ·obtain rfl := Option.some.inj H
    go_wp2
    go_ret
    exact ⟨re_, up_ HB.out⟩

/-! ### impl_CountFinalVoiced: function 122 -/
def impl_CountFinalVoiced.f (k : Nat) (a0 : ByteArray) : Option (Int) := (v_impl_places__CountFinalVoiced_1.f k a0).bind fun t403 => (some t403)
set_option maxHeartbeats 8000000 in
set_option maxRecDepth 100000 in
theorem impl_CountFinalVoiced.calls (k : Nat) (a0 : ByteArray) (r : Int) (w : World) (h : impl_CountFinalVoiced.f k a0 = some r) :
  Calls Tryz.prog 122 #[.string a0] w fun e w' => e = .returned (.int .i64 r) ∧ Below w.heap.size w w' := by
 have HB := Aside0.mk (Below.refl w.heap.size w)
 have H : ((v_impl_places__CountFinalVoiced_1.f k a0).bind fun t403 => (some t403)) = some r := h
 clear h
 replace H := bnd_ H; obtain ⟨t403, A2, H⟩ := H
 obtain rfl := Option.some.inj H
 go_enter Tryz.func122, Tryz.ntmps122
 go_wp2_with (first | ((refine gc_ 137 ?_); refine gl_ (some 4) Tryz.func137 (v_impl_places__CountFinalVoiced_1.calls k a0 t403 _ A2.out) ?_; rintro e w3 ⟨rfl, hb⟩; refine ⟨_, rfl, ?_⟩; replace HB := bs_ HB hb; (try clear hb); (try clear hb2); (try clear hk); (try clear hi)))
 go_ret
 exact ⟨re_, up_ HB.out⟩

/-! ### impl_isVoiceless: function 148 -/
def impl_isVoiceless.f (a0 : Int) : Option (Bool) := (impl_IsObstruent.f a0).bind fun t404 => (if t404 = true then ((impl_HasFeature.f a0 1).bind fun t405 => (some (!t405))) else (some false))
set_option maxHeartbeats 8000000 in
set_option maxRecDepth 100000 in
theorem impl_isVoiceless.calls (a0 : Int) (r : Bool) (w : World) (h : impl_isVoiceless.f a0 = some r) :
  Calls Tryz.prog 148 #[.int .u8 a0] w fun e w' => e = .returned (.bool r) ∧ Below w.heap.size w w' := by
 have HB := Aside0.mk (Below.refl w.heap.size w)
 have H : ((impl_IsObstruent.f a0).bind fun t404 => (if t404 = true then ((impl_HasFeature.f a0 1).bind fun t405 => (some (!t405))) else (some false))) = some r := h
 clear h
 replace H := bnd_ H; obtain ⟨t404, A2, H⟩ := H
 replace H := itb_ H; rcases H with ⟨rfl, H⟩ | ⟨rfl, H⟩
 ·replace H := bnd_ H; obtain ⟨t405, A4, H⟩ := H
  obtain rfl := Option.some.inj H
  go_enter Tryz.func148, Tryz.ntmps148
  go_wp2_with (first | ((refine gc_ 157 ?_); refine gq_ (some 4) Tryz.func157 (impl_IsObstruent.calls a0 true _ A2.out) (fun nd => ?_)) | (go_at_call 147; (with_reducible refine (impl_HasFeature.calls a0 1 t405 _ A4.out).mono ?_); rintro e w5 ⟨rfl, hb⟩; replace HB := bs_ HB hb; (try clear hb); (try clear hb2); (try clear hk); (try clear hi)))
  go_ret
  exact ⟨re_, up_ HB.out⟩
 ·obtain rfl := Option.some.inj H
  go_enter Tryz.func148, Tryz.ntmps148
  go_wp2_with (first | ((refine gc_ 157 ?_); refine gq_ (some 4) Tryz.func157 (impl_IsObstruent.calls a0 false _ A2.out) (fun nd => ?_)))
  go_ret
  exact ⟨re_, up_ HB.out⟩

/-! ### impl_CountNasalVoiceless_1: function 146 -/
def impl_CountNasalVoiceless_1.f (a0 : Int) (a1 : Int) (a2 : Int) : Option (Bool) := (impl_HasFeature.f a0 2).bind fun t406 => (if t406 = true then ((impl_isVoiceless.f a1).bind fun t407 => (some t407)) else (some false))
set_option maxHeartbeats 8000000 in
set_option maxRecDepth 100000 in
theorem impl_CountNasalVoiceless_1.calls (a0 : Int) (a1 : Int) (a2 : Int) (r : Bool) (w : World) (h : impl_CountNasalVoiceless_1.f a0 a1 a2 = some r) :
  Calls Tryz.prog 146 #[.int .u8 a0, .int .u8 a1, .int .u8 a2] w fun e w' => e = .returned (.bool r) ∧ Below w.heap.size w w' := by
 have HB := Aside0.mk (Below.refl w.heap.size w)
 have H : ((impl_HasFeature.f a0 2).bind fun t406 => (if t406 = true then ((impl_isVoiceless.f a1).bind fun t407 => (some t407)) else (some false))) = some r := h
 clear h
 replace H := bnd_ H; obtain ⟨t406, A4, H⟩ := H
 replace H := itb_ H; rcases H with ⟨rfl, H⟩ | ⟨rfl, H⟩
 ·replace H := bnd_ H; obtain ⟨t407, A6, H⟩ := H
  obtain rfl := Option.some.inj H
  go_enter Tryz.func146, Tryz.ntmps146
  go_wp2_with (first | ((refine gc_ 147 ?_); refine gl_ (some 8) Tryz.func147 (impl_HasFeature.calls a0 2 true _ A4.out) ?_; rintro e w7 ⟨rfl, hb⟩; refine ⟨_, rfl, ?_⟩; replace HB := bs_ HB hb; (try clear hb); (try clear hb2); (try clear hk); (try clear hi)) | (go_at_call 148; (with_reducible refine (impl_isVoiceless.calls a1 t407 _ A6.out).mono ?_); rintro e w8 ⟨rfl, hb⟩; replace HB := bs_ HB hb; (try clear hb); (try clear hb2); (try clear hk); (try clear hi)))
  go_ret
  exact ⟨re_, up_ HB.out⟩
 ·obtain rfl := Option.some.inj H
  go_enter Tryz.func146, Tryz.ntmps146
  go_wp2_with (first | ((refine gc_ 147 ?_); refine gl_ (some 8) Tryz.func147 (impl_HasFeature.calls a0 2 false _ A4.out) ?_; rintro e w9 ⟨rfl, hb⟩; refine ⟨_, rfl, ?_⟩; replace HB := bs_ HB hb; (try clear hb); (try clear hb2); (try clear hk); (try clear hi)))
  go_ret
  exact ⟨re_, up_ HB.out⟩

/-! ### v_impl_places__CountNasalVoiceless_1: function 137 -/
mutual
def v_impl_places__CountNasalVoiceless_1.l0 : Nat → ByteArray → Int → Int → Int → Option (Int)
 | 0, _, _, _, _ => none
 | k + 1, x0, x5, x10, x11 => if x11 < x10 then (if x11 > 0 then (if 0 ≤ (wrap64 (x11 - 1)) then (if (wrap64 (x11 - 1)) < (x0.size : Int) then (v_impl_places__CountNasalVoiceless_1.j1 k x0 x5 x11 (bt x0 (wrap64 (x11 - 1))) 0 x10 x11) else (none)) else (none)) else (v_impl_places__CountNasalVoiceless_1.j1 k x0 x5 x11 0 0 x10 x11)) else (some x5)
def v_impl_places__CountNasalVoiceless_1.j1 : Nat → ByteArray → Int → Int → Int → Int → Int → Int → Option (Int)
 | 0, _, _, _, _, _, _, _ => none
 | k + 1, x0, x5, x6, x7, x8, x10, x11 => if (wrap64 (x6 + 1)) < (x0.size : Int) then (if 0 ≤ (wrap64 (x6 + 1)) then (v_impl_places__CountNasalVoiceless_1.j2 k x0 x5 x6 x7 (bt x0 (wrap64 (x6 + 1))) x10 x11) else (none)) else (v_impl_places__CountNasalVoiceless_1.j2 k x0 x5 x6 x7 x8 x10 x11)
def v_impl_places__CountNasalVoiceless_1.j2 : Nat → ByteArray → Int → Int → Int → Int → Int → Int → Option (Int)
 | 0, _, _, _, _, _, _, _ => none
 | k + 1, x0, x5, x6, x7, x8, x10, x11 => (impl_IsForm.f k x0).bind fun t408 => (if t408 = true then (if 0 ≤ x6 then (if x6 < (x0.size : Int) then ((impl_CountNasalVoiceless_1.f x7 (bt x0 x6) x8).bind fun t409 => (if t409 = true then (v_impl_places__CountNasalVoiceless_1.l0 k x0 (wrap64 (x5 + 1)) x10 (wrap64 (x11 + 1))) else (v_impl_places__CountNasalVoiceless_1.l0 k x0 x5 x10 (wrap64 (x11 + 1))))) else (none)) else (none)) else (v_impl_places__CountNasalVoiceless_1.l0 k x0 x5 x10 (wrap64 (x11 + 1))))
end
def v_impl_places__CountNasalVoiceless_1.f (k : Nat) (a0 : ByteArray) : Option (Int) := v_impl_places__CountNasalVoiceless_1.l0 k a0 0 (a0.size : Int) 0
set_option maxHeartbeats 8000000 in
set_option maxRecDepth 100000 in
theorem v_impl_places__CountNasalVoiceless_1.calls (k : Nat) (a0 : ByteArray) (r : Int) (w : World) (h : v_impl_places__CountNasalVoiceless_1.f k a0 = some r) :
  Calls Tryz.prog 137 #[.string a0, .func (.func 146) #[] #[]] w fun e w' => e = .returned (.int .i64 r) ∧ Below w.heap.size w w' := by
 have HB := Aside0.mk (Below.refl w.heap.size w)
 have H : (v_impl_places__CountNasalVoiceless_1.l0 k a0 0 (a0.size : Int) 0) = some r := h
 clear h
 have H' := Aside0.mk H
 clear H
 go_enter Tryz.func137, Tryz.ntmps137
 go_wp2
 go_loopg [5, 11] k (fun kq v5 v11 w' => ∃ (x5_1 : Int) (x11_1 : Int), v5 = .int .i64 x5_1 ∧ v11 = .int .i64 x11_1 ∧ Aside0 (v_impl_places__CountNasalVoiceless_1.l0 kq a0 x5_1 (a0.size : Int) x11_1 = some r) ∧ Aside0 (kq ≤ k) ∧ Aside0 (Below w.heap.size w w'))
 case atStart => exact ⟨(0), (0), rs_, rs_, H', ⟨Nat.le_refl _⟩, ⟨up_ HB.out⟩⟩
 case round =>
  clear H'
  obtain ⟨x5_1, x11_1, rfl, rfl, HA, HK1, HB⟩ := hrel
  cases gk with
  | zero => exact absurd HA.out (by simp [v_impl_places__CountNasalVoiceless_1.l0])
  | succ k1 =>
   have H := HA.out
   clear HA
   simp only [v_impl_places__CountNasalVoiceless_1.l0] at H
   replace H := its_ H; rcases H with ⟨c2b0, H⟩ | ⟨c2b0, H⟩
   ·have HC3 := Aside0.mk H
    clear H
    go_upto_if 15 with (fail)
    go_cut [7] (fun v7 wc => ∃ (kq : Nat) (x7_2 : Int), v7 = .int .u8 x7_2 ∧ Aside0 (v_impl_places__CountNasalVoiceless_1.j1 kq a0 x5_1 x11_1 x7_2 0 (a0.size : Int) x11_1 = some r) ∧ Aside0 (kq ≤ k1) ∧ Aside0 (Below w.heap.size w wc))
    case first =>
     have H := HC3.out
     clear HC3
     by_cases c4 : x11_1 > 0
     ·rw [if_pos c4] at H
      have c4b0 : decide (0 < x11_1) = true := decide_eq_true c4
      clear c4
      (first | rw [c4b0] | (simp only [i64_w, i32_w]; rw [c4b0]) | skip)
      obtain ⟨ji5, hji5⟩ : ∃ j_ : Int, (wrap64 (x11_1 - 1)) = j_ := ⟨_, rfl⟩
      replace H : (if 0 ≤ (ji5) then (if (ji5) < (a0.size : Int) then (v_impl_places__CountNasalVoiceless_1.j1 k1 a0 x5_1 x11_1 (bt a0 (ji5)) 0 (a0.size : Int) x11_1) else (none)) else (none)) = some r := by first | (rw [hji5] at H; exact H) | (simp only [hji5] at H ⊢; exact H)
      have hji5w : (IntKind.i64.wrap (x11_1 - 1)) = ji5 := (i64_w _).trans hji5
      replace H := its_ H; rcases H with ⟨c6b0, H⟩ | ⟨_, ⟨⟩⟩
      replace H := its_ H; rcases H with ⟨c7b0, H⟩ | ⟨_, ⟨⟩⟩
      have H' := Aside0.mk H
      clear H
      have p8 : 0 ≤ ((ji5) : Int) := od_
      have q8 : (ji5) < (a0.size : Int) := od_
      have hx8 := bt_at a0 (ji5)
      replace p8 := eq_true p8
      replace q8 := eq_true q8
      go_wp2
      go_meet
      case rel => exact ⟨_, (bt a0 (ji5)), (by first | rfl | (simp; done) | (simp only [← hji5] <;> (first | rfl | simp)) | (simp [*]; done)), H', ⟨by have := HK1.out; first | omega | exact Nat.le_refl _⟩, ⟨up_ HB.out⟩⟩
     ·rw [if_neg c4] at H
      have c4b0 : decide (0 < x11_1) = false := decide_eq_false c4
      clear c4
      (first | rw [c4b0] | (simp only [i64_w, i32_w]; rw [c4b0]) | skip)
      have H' := Aside0.mk H
      clear H
      go_wp2
      go_meet
      case rel => exact ⟨_, (0), rs_, H', ⟨by have := HK1.out; first | omega | exact Nat.le_refl _⟩, ⟨up_ HB.out⟩⟩
    case rest =>
     clear HC3
     try clear c2
     try clear c2b0
     try clear p2
     try clear c4
     try clear c4b0
     try clear c6
     try clear c6b0
     try clear p6
     try clear c7
     try clear c7b0
     try clear p8
     try clear q8
     try clear hx8
     try clear p8
     try clear q8
     obtain ⟨kq, x7_2, rfl, HA, HJ2, HB⟩ := hcut
     cases kq with
     | zero => exact absurd HA.out (by simp [v_impl_places__CountNasalVoiceless_1.j1])
     | succ kj2 =>
      have H := HA.out
      clear HA
      simp only [v_impl_places__CountNasalVoiceless_1.j1] at H
      have HC9 := Aside0.mk H
      clear H
      go_upto_if 24 with (fail)
      go_cut [8] (fun v8 wc => ∃ (kq : Nat) (x8_8 : Int), v8 = .int .u8 x8_8 ∧ Aside0 (v_impl_places__CountNasalVoiceless_1.j2 kq a0 x5_1 x11_1 x7_2 x8_8 (a0.size : Int) x11_1 = some r) ∧ Aside0 (kq ≤ kj2) ∧ Aside0 (Below w.heap.size w wc))
      case first =>
       have H := HC9.out
       clear HC9
       replace H := its_ H; rcases H with ⟨c10b0, H⟩ | ⟨c10b0, H⟩
       ·(first | rw [c10b0] | (simp only [i64_w, i32_w]; rw [c10b0]) | skip)
        obtain ⟨ji11, hji11⟩ : ∃ j_ : Int, (wrap64 (x11_1 + 1)) = j_ := ⟨_, rfl⟩
        replace H : (if 0 ≤ (ji11) then (v_impl_places__CountNasalVoiceless_1.j2 kj2 a0 x5_1 x11_1 x7_2 (bt a0 (ji11)) (a0.size : Int) x11_1) else (none)) = some r := by first | (rw [hji11] at H; exact H) | (simp only [hji11] at H ⊢; exact H)
        (try rw [hji11] at c10b0)
        have hji11w : (IntKind.i64.wrap (x11_1 + 1)) = ji11 := (i64_w _).trans hji11
        replace H := its_ H; rcases H with ⟨c12b0, H⟩ | ⟨_, ⟨⟩⟩
        have H' := Aside0.mk H
        clear H
        have p13 : 0 ≤ ((ji11) : Int) := od_
        have q13 : (ji11) < (a0.size : Int) := od_
        have hx13 := bt_at a0 (ji11)
        replace p13 := eq_true p13
        replace q13 := eq_true q13
        go_wp2
        go_meet
        case rel => exact ⟨_, (bt a0 (ji11)), (by first | rfl | (simp; done) | (simp only [← hji11] <;> (first | rfl | simp)) | (simp [*]; done)), H', ⟨by have := HK1.out; have := HJ2.out; first | omega | exact Nat.le_refl _⟩, ⟨up_ HB.out⟩⟩
       ·(first | rw [c10b0] | (simp only [i64_w, i32_w]; rw [c10b0]) | skip)
        have H' := Aside0.mk H
        clear H
        go_wp2
        go_meet
        case rel => exact ⟨_, (0), rs_, H', ⟨by have := HK1.out; have := HJ2.out; first | omega | exact Nat.le_refl _⟩, ⟨up_ HB.out⟩⟩
      case rest =>
       clear HC9
       try clear c1
       try clear p1
       try clear q1
       try clear hx1
       try clear c2
       try clear c2b0
       try clear p2
       try clear c4
       try clear c4b0
       try clear c6
       try clear c6b0
       try clear p6
       try clear c7
       try clear c7b0
       try clear p8
       try clear q8
       try clear hx8
       try clear c10
       try clear c10b0
       try clear c12
       try clear c12b0
       try clear p13
       try clear q13
       try clear hx13
       try clear p13
       try clear p2
       try clear p6
       try clear p8
       try clear q13
       try clear q8
       obtain ⟨kq, x8_8, rfl, HA, HJ8, HB⟩ := hcut
       cases kq with
       | zero => exact absurd HA.out (by simp [v_impl_places__CountNasalVoiceless_1.j2])
       | succ kj8 =>
        have H := HA.out
        clear HA
        simp only [v_impl_places__CountNasalVoiceless_1.j2] at H
        replace H := bnd_ H; obtain ⟨t408, A14, H⟩ := H
        replace H := itb_ H; rcases H with ⟨rfl, H⟩ | ⟨rfl, H⟩
        ·replace H := its_ H; rcases H with ⟨c16b0, H⟩ | ⟨_, ⟨⟩⟩
         replace H := its_ H; rcases H with ⟨c17b0, H⟩ | ⟨_, ⟨⟩⟩
         replace H := bnd_ H; obtain ⟨t409, A19, H⟩ := H
         replace H := itb_ H; rcases H with ⟨rfl, H⟩ | ⟨rfl, H⟩
         ·have H' := Aside0.mk H
          clear H
          go_wp2_with (first | ((refine gc_ 69 ?_); refine gq_ (some 30) Tryz.func69 (impl_IsForm.calls kj8 a0 true _ A14.out) (fun nd => ?_); have p18 : 0 ≤ (x11_1 : Int) := od_; have q18 : x11_1 < (a0.size : Int) := od_; have hx18 := bt_at a0 x11_1; replace p18 := eq_true p18; replace q18 := eq_true q18) | (go_at_call 146; (with_reducible refine (impl_CountNasalVoiceless_1.calls x7_2 (bt a0 x11_1) x8_8 true _ A19.out).mono ?_); rintro e w21 ⟨rfl, hb⟩; replace HB := bs_ HB hb; (try clear hb); (try clear hb2); (try clear hk); (try clear hi)))
          go_roundg kj8
          case measure => have := HK1.out; have := HJ2.out; have := HJ8.out; omega
          case rel => exact ⟨(wrap64 (x5_1 + 1)), (wrap64 (x11_1 + 1)), rs_, rs_, H', ⟨by have := HK1.out; have := HJ2.out; have := HJ8.out; omega⟩, ⟨up_ HB.out⟩⟩
         ·have H' := Aside0.mk H
          clear H
          go_wp2_with (first | ((refine gc_ 69 ?_); refine gq_ (some 30) Tryz.func69 (impl_IsForm.calls kj8 a0 true _ A14.out) (fun nd => ?_); have p18 : 0 ≤ (x11_1 : Int) := od_; have q18 : x11_1 < (a0.size : Int) := od_; have hx18 := bt_at a0 x11_1; replace p18 := eq_true p18; replace q18 := eq_true q18) | (go_at_call 146; (with_reducible refine (impl_CountNasalVoiceless_1.calls x7_2 (bt a0 x11_1) x8_8 false _ A19.out).mono ?_); rintro e w22 ⟨rfl, hb⟩; replace HB := bs_ HB hb; (try clear hb); (try clear hb2); (try clear hk); (try clear hi)))
          go_roundg kj8
          case measure => have := HK1.out; have := HJ2.out; have := HJ8.out; omega
          case rel => exact ⟨(x5_1), (wrap64 (x11_1 + 1)), rs_, rs_, H', ⟨by have := HK1.out; have := HJ2.out; have := HJ8.out; omega⟩, ⟨up_ HB.out⟩⟩
        ·have H' := Aside0.mk H
         clear H
         go_wp2_with (first | ((refine gc_ 69 ?_); refine gq_ (some 30) Tryz.func69 (impl_IsForm.calls kj8 a0 false _ A14.out) (fun nd => ?_)))
         go_roundg kj8
         case measure => have := HK1.out; have := HJ2.out; have := HJ8.out; omega
         case rel => exact ⟨(x5_1), (wrap64 (x11_1 + 1)), rs_, rs_, H', ⟨by have := HK1.out; have := HJ2.out; have := HJ8.out; omega⟩, ⟨up_ HB.out⟩⟩
   ·obtain rfl := Option.some.inj H
    go_wp2
    go_ret
    exact ⟨re_, up_ HB.out⟩

/-! ### impl_CountNasalVoiceless: function 123 -/
def impl_CountNasalVoiceless.f (k : Nat) (a0 : ByteArray) : Option (Int) := (v_impl_places__CountNasalVoiceless_1.f k a0).bind fun t410 => (some t410)
set_option maxHeartbeats 8000000 in
set_option maxRecDepth 100000 in
theorem impl_CountNasalVoiceless.calls (k : Nat) (a0 : ByteArray) (r : Int) (w : World) (h : impl_CountNasalVoiceless.f k a0 = some r) :
  Calls Tryz.prog 123 #[.string a0] w fun e w' => e = .returned (.int .i64 r) ∧ Below w.heap.size w w' := by
 have HB := Aside0.mk (Below.refl w.heap.size w)
 have H : ((v_impl_places__CountNasalVoiceless_1.f k a0).bind fun t410 => (some t410)) = some r := h
 clear h
 replace H := bnd_ H; obtain ⟨t410, A2, H⟩ := H
 obtain rfl := Option.some.inj H
 go_enter Tryz.func123, Tryz.ntmps123
 go_wp2_with (first | ((refine gc_ 137 ?_); refine gl_ (some 4) Tryz.func137 (v_impl_places__CountNasalVoiceless_1.calls k a0 t410 _ A2.out) ?_; rintro e w3 ⟨rfl, hb⟩; refine ⟨_, rfl, ?_⟩; replace HB := bs_ HB hb; (try clear hb); (try clear hb2); (try clear hk); (try clear hi)))
 go_ret
 exact ⟨re_, up_ HB.out⟩

/-! ### impl_CountDeleted_1: function 150 -/
def impl_CountDeleted_1.f (a0_0 : Int) (a0_1 : Int) : Option (Bool) := some (a0_1 == 0)
set_option maxHeartbeats 8000000 in
set_option maxRecDepth 100000 in
theorem impl_CountDeleted_1.calls (a0_0 : Int) (a0_1 : Int) (r : Bool) (w : World) (h : impl_CountDeleted_1.f a0_0 a0_1 = some r) :
  Calls Tryz.prog 150 #[.agg #[.int .u8 a0_0, .int .u8 a0_1]] w fun e w' => e = .returned (.bool r) ∧ Below w.heap.size w w' := by
 have hu70 := Tryz.underlying70
 have HB := Aside0.mk (Below.refl w.heap.size w)
 have H : (some (a0_1 == 0)) = some r := h
 clear h
 obtain rfl := Option.some.inj H
 go_enter Tryz.func150, Tryz.ntmps150
 go_wp2_with (first | ((refine gd_ 1 ?_); refine bx_ 1 #[.int .u8 a0_0, .int .u8 a0_1] 70 ?_; intro gb411 hg w2 hbox hb; have BK411 := Aside0.mk (hbox); have GW411 := gw_ HB hg; have GE411 := gw_ HB hg; replace HB := bs_ HB hb; clear hb hbox hg; obtain ⟨hcz3_0, hcz3_1⟩ := c2_ BK411; have hfz3_0 := blk_frozen BK411.out 0; have hfz3_1 := blk_frozen BK411.out 1))
 go_ret
 exact ⟨re_, up_ HB.out⟩

end Go.Proofs.YtkddpilambnicaaGreat.PFnExactDifferencesFor
