/- Walks of Go functions that the law FnExactDifferencesFor uses: written by this session's program out of the kit's printer; each shows that a call comes to the answers of the Lean function beside it. Conditions: each contract's own. -/
import Derived.Test.YtkddpilambnicaaGreatPFnExactDifferencesForx0
import Derived.Test.YtkddpilambnicaaGreatPFnExactDifferencesForx3
import Derived.Test.YtkddpilambnicaaGreatPFnExactDifferencesForx4
namespace Go.Proofs.YtkddpilambnicaaGreat.PFnExactDifferencesFor
open Go.RowKit Go.Proofs.YtkddpilambnicaaGreatW.PrintWords Go.Proofs.YtkddpilambnicaaGreatW.PrintLast Go.Proofs.YtkddpilambnicaaGreatW.PrintMore Go.Proofs.YtkddpilambnicaaGreat.Mac Go.Proofs.YtkddpilambnicaaGreat.Law
attribute [local go_sem] max2_int min2_int max_two min_two max_three min_three max_four min_four   -- for this text's walks alone
set_option linter.unusedVariables false
set_option linter.unusedSimpArgs false

/-! ### spec_CountOnsetless: function 98 -/
mutual
def spec_CountOnsetless.l0 : Nat → ByteArray → Int → Int → Option (Int)
 | 0, _, _, _ => none
 | k + 1, x0, x3, x4 => if x4 < (x0.size : Int) then ((spec_IsForm.f k x0).bind fun t161 => (spec_CountOnsetless.j1 k x0 x3 x4 t161)) else (spec_CountOnsetless.j1 k x0 x3 x4 false)
def spec_CountOnsetless.j1 : Nat → ByteArray → Int → Int → Bool → Option (Int)
 | 0, _, _, _, _ => none
 | k + 1, x0, x3, x4, x12 => if x12 = true then ((spec_IsVowelAt.f x0 x4).bind fun t162 => (if t162 = true then (if x4 = 0 then (spec_CountOnsetless.l0 k x0 (wrap64 (x3 + 1)) (wrap64 (x4 + 1))) else ((spec_IsVowelAt.f x0 (wrap64 (x4 - 1))).bind fun t163 => (if t163 = true then (spec_CountOnsetless.l0 k x0 (wrap64 (x3 + 1)) (wrap64 (x4 + 1))) else (spec_CountOnsetless.l0 k x0 x3 (wrap64 (x4 + 1)))))) else (spec_CountOnsetless.l0 k x0 x3 (wrap64 (x4 + 1))))) else (some x3)
end
def spec_CountOnsetless.f (k : Nat) (a0 : ByteArray) : Option (Int) := spec_CountOnsetless.l0 k a0 0 0
set_option maxHeartbeats 8000000 in
set_option maxRecDepth 100000 in
theorem spec_CountOnsetless.calls (k : Nat) (a0 : ByteArray) (r : Int) (w : World) (h : spec_CountOnsetless.f k a0 = some r) :
  Calls Tryz.prog 98 #[.string a0] w fun e w' => e = .returned (.int .i64 r) ∧ Drawn0 w w' := by
 have H : (spec_CountOnsetless.l0 k a0 0 0) = some r := h
 clear h
 have H' := Aside0.mk H
 clear H
 go_enter Tryz.func98, Tryz.ntmps98
 go_wp2
 go_loopg [3, 4] k (fun kq v3 v4 w' => ∃ (x3_1 : Int) (x4_1 : Int), v3 = .int .i64 x3_1 ∧ v4 = .int .i64 x4_1 ∧ Aside0 (spec_CountOnsetless.l0 kq a0 x3_1 x4_1 = some r) ∧ Aside0 (kq ≤ k) ∧ Drawn0 w w')
 case atStart => exact ⟨(0), (0), rs_, rs_, H', ⟨Nat.le_refl _⟩, dn_⟩
 case round =>
  clear H'
  obtain ⟨x3_1, x4_1, rfl, rfl, HA, HK1, ⟨m1, rfl⟩⟩ := hrel
  cases gk with
  | zero => exact absurd HA.out (by simp [spec_CountOnsetless.l0])
  | succ k1 =>
   have H := HA.out
   clear HA
   simp only [spec_CountOnsetless.l0] at H
   have HC2 := Aside0.mk H
   clear H
   go_upto_region 3 with (fail)
   go_cut [12] (fun v12 wc => ∃ (kq : Nat) (x12_1 : Bool), v12 = .bool x12_1 ∧ Aside0 (spec_CountOnsetless.j1 kq a0 x3_1 x4_1 x12_1 = some r) ∧ Aside0 (kq ≤ k1) ∧ Drawn0 w wc)
   case first =>
    have H := HC2.out
    clear HC2
    replace H := its_ H; rcases H with ⟨c3b0, H⟩ | ⟨c3b0, H⟩
    ·(first | rw [c3b0] | (simp only [i64_w, i32_w]; rw [c3b0]) | skip)
     replace H := bnd_ H; obtain ⟨t161, A4, H⟩ := H
     have H' := Aside0.mk H
     clear H
     go_wp2_with (first | (go_at_call 57; (with_reducible refine (spec_IsForm.calls k1 a0 t161 _ A4.out).mono ?_); rintro e w' ⟨rfl, ⟨nd, rfl⟩⟩))
     go_meet
     case rel => exact ⟨_, (t161), rs_, H', ⟨by have := HK1.out; first | omega | exact Nat.le_refl _⟩, dn_⟩
    ·(first | rw [c3b0] | (simp only [i64_w, i32_w]; rw [c3b0]) | skip)
     have H' := Aside0.mk H
     clear H
     go_wp2
     go_meet
     case rel => exact ⟨_, (false), rs_, H', ⟨by have := HK1.out; first | omega | exact Nat.le_refl _⟩, dn_⟩
   case rest =>
    clear HC2
    try clear p2
    try clear c3
    try clear c3b0
    obtain ⟨kq, x12_1, rfl, HA, HJ1, ⟨mc1, rfl⟩⟩ := hcut
    cases kq with
    | zero => exact absurd HA.out (by simp [spec_CountOnsetless.j1])
    | succ kj1 =>
     have H := HA.out
     clear HA
     simp only [spec_CountOnsetless.j1] at H
     replace H := itb_ H; rcases H with ⟨rfl, H⟩ | ⟨rfl, H⟩
     ·replace H := bnd_ H; obtain ⟨t162, A6, H⟩ := H
      replace H := itb_ H; rcases H with ⟨rfl, H⟩ | ⟨rfl, H⟩
      ·replace H := ieq_ H; rcases H with ⟨-, c8b0, c8b1, H⟩ | ⟨c8, c8b0, c8b1, H⟩
       ·have H' := Aside0.mk H
        clear H
        go_wp2_with (first | ((refine gc_ 128 ?_); refine gq_ (some 17) Tryz.func128 (spec_IsVowelAt.calls a0 x4_1 true _ A6.out) (fun nd => ?_)))
        go_roundg kj1
        case measure => have := HK1.out; have := HJ1.out; omega
        case rel => exact ⟨(wrap64 (x3_1 + 1)), (wrap64 (x4_1 + 1)), rs_, rs_, H', ⟨by have := HK1.out; have := HJ1.out; omega⟩, dn_⟩
       ·replace H := bnd_ H; obtain ⟨t163, A9, H⟩ := H
        replace H := itb_ H; rcases H with ⟨rfl, H⟩ | ⟨rfl, H⟩
        ·have H' := Aside0.mk H
         clear H
         go_wp2_with (first | ((refine gc_ 128 ?_); refine gq_ (some 17) Tryz.func128 (spec_IsVowelAt.calls a0 x4_1 true _ A6.out) (fun nd => ?_)) | (go_at_call 128; (with_reducible refine (spec_IsVowelAt.calls a0 (wrap64 (x4_1 - 1)) true _ A9.out).mono ?_); rintro e w' ⟨rfl, ⟨nd, rfl⟩⟩))
         go_roundg kj1
         case measure => have := HK1.out; have := HJ1.out; omega
         case rel => exact ⟨(wrap64 (x3_1 + 1)), (wrap64 (x4_1 + 1)), rs_, rs_, H', ⟨by have := HK1.out; have := HJ1.out; omega⟩, dn_⟩
        ·have H' := Aside0.mk H
         clear H
         go_wp2_with (first | ((refine gc_ 128 ?_); refine gq_ (some 17) Tryz.func128 (spec_IsVowelAt.calls a0 x4_1 true _ A6.out) (fun nd => ?_)) | (go_at_call 128; (with_reducible refine (spec_IsVowelAt.calls a0 (wrap64 (x4_1 - 1)) false _ A9.out).mono ?_); rintro e w' ⟨rfl, ⟨nd, rfl⟩⟩))
         go_roundg kj1
         case measure => have := HK1.out; have := HJ1.out; omega
         case rel => exact ⟨(x3_1), (wrap64 (x4_1 + 1)), rs_, rs_, H', ⟨by have := HK1.out; have := HJ1.out; omega⟩, dn_⟩
      ·have H' := Aside0.mk H
       clear H
       go_wp2_with (first | ((refine gc_ 128 ?_); refine gq_ (some 17) Tryz.func128 (spec_IsVowelAt.calls a0 x4_1 false _ A6.out) (fun nd => ?_)))
       go_roundg kj1
       case measure => have := HK1.out; have := HJ1.out; omega
       case rel => exact ⟨(x3_1), (wrap64 (x4_1 + 1)), rs_, rs_, H', ⟨by have := HK1.out; have := HJ1.out; omega⟩, dn_⟩
     ·obtain rfl := Option.some.inj H
      go_wp2
      go_ret
      exact ⟨rs_, dn_⟩

/-! ### spec_CountCodas: function 99 -/
mutual
def spec_CountCodas.l0 : Nat → ByteArray → Int → Int → Option (Int)
 | 0, _, _, _ => none
 | k + 1, x0, x3, x4 => if x4 < (x0.size : Int) then ((spec_IsForm.f k x0).bind fun t164 => (spec_CountCodas.j1 k x0 x3 x4 t164)) else (spec_CountCodas.j1 k x0 x3 x4 false)
def spec_CountCodas.j1 : Nat → ByteArray → Int → Int → Bool → Option (Int)
 | 0, _, _, _, _ => none
 | k + 1, x0, x3, x4, x12 => if x12 = true then ((spec_IsVowelAt.f x0 x4).bind fun t165 => (if t165 = true then (spec_CountCodas.l0 k x0 x3 (wrap64 (x4 + 1))) else ((spec_IsVowelAt.f x0 (wrap64 (x4 + 1))).bind fun t166 => (if t166 = true then (spec_CountCodas.l0 k x0 x3 (wrap64 (x4 + 1))) else (spec_CountCodas.l0 k x0 (wrap64 (x3 + 1)) (wrap64 (x4 + 1))))))) else (some x3)
end
def spec_CountCodas.f (k : Nat) (a0 : ByteArray) : Option (Int) := spec_CountCodas.l0 k a0 0 0
set_option maxHeartbeats 8000000 in
set_option maxRecDepth 100000 in
theorem spec_CountCodas.calls (k : Nat) (a0 : ByteArray) (r : Int) (w : World) (h : spec_CountCodas.f k a0 = some r) :
  Calls Tryz.prog 99 #[.string a0] w fun e w' => e = .returned (.int .i64 r) ∧ Drawn0 w w' := by
 have H : (spec_CountCodas.l0 k a0 0 0) = some r := h
 clear h
 have H' := Aside0.mk H
 clear H
 go_enter Tryz.func99, Tryz.ntmps99
 go_wp2
 go_loopg [3, 4] k (fun kq v3 v4 w' => ∃ (x3_1 : Int) (x4_1 : Int), v3 = .int .i64 x3_1 ∧ v4 = .int .i64 x4_1 ∧ Aside0 (spec_CountCodas.l0 kq a0 x3_1 x4_1 = some r) ∧ Aside0 (kq ≤ k) ∧ Drawn0 w w')
 case atStart => exact ⟨(0), (0), rs_, rs_, H', ⟨Nat.le_refl _⟩, dn_⟩
 case round =>
  clear H'
  obtain ⟨x3_1, x4_1, rfl, rfl, HA, HK1, ⟨m1, rfl⟩⟩ := hrel
  cases gk with
  | zero => exact absurd HA.out (by simp [spec_CountCodas.l0])
  | succ k1 =>
   have H := HA.out
   clear HA
   simp only [spec_CountCodas.l0] at H
   have HC2 := Aside0.mk H
   clear H
   go_upto_region 3 with (fail)
   go_cut [12] (fun v12 wc => ∃ (kq : Nat) (x12_1 : Bool), v12 = .bool x12_1 ∧ Aside0 (spec_CountCodas.j1 kq a0 x3_1 x4_1 x12_1 = some r) ∧ Aside0 (kq ≤ k1) ∧ Drawn0 w wc)
   case first =>
    have H := HC2.out
    clear HC2
    replace H := its_ H; rcases H with ⟨c3b0, H⟩ | ⟨c3b0, H⟩
    ·(first | rw [c3b0] | (simp only [i64_w, i32_w]; rw [c3b0]) | skip)
     replace H := bnd_ H; obtain ⟨t164, A4, H⟩ := H
     have H' := Aside0.mk H
     clear H
     go_wp2_with (first | (go_at_call 57; (with_reducible refine (spec_IsForm.calls k1 a0 t164 _ A4.out).mono ?_); rintro e w' ⟨rfl, ⟨nd, rfl⟩⟩))
     go_meet
     case rel => exact ⟨_, (t164), rs_, H', ⟨by have := HK1.out; first | omega | exact Nat.le_refl _⟩, dn_⟩
    ·(first | rw [c3b0] | (simp only [i64_w, i32_w]; rw [c3b0]) | skip)
     have H' := Aside0.mk H
     clear H
     go_wp2
     go_meet
     case rel => exact ⟨_, (false), rs_, H', ⟨by have := HK1.out; first | omega | exact Nat.le_refl _⟩, dn_⟩
   case rest =>
    clear HC2
    try clear p2
    try clear c3
    try clear c3b0
    obtain ⟨kq, x12_1, rfl, HA, HJ1, ⟨mc1, rfl⟩⟩ := hcut
    cases kq with
    | zero => exact absurd HA.out (by simp [spec_CountCodas.j1])
    | succ kj1 =>
     have H := HA.out
     clear HA
     simp only [spec_CountCodas.j1] at H
     replace H := itb_ H; rcases H with ⟨rfl, H⟩ | ⟨rfl, H⟩
     ·replace H := bnd_ H; obtain ⟨t165, A6, H⟩ := H
      replace H := itb_ H; rcases H with ⟨rfl, H⟩ | ⟨rfl, H⟩
      ·have H' := Aside0.mk H
       clear H
       go_wp2_with (first | ((refine gc_ 128 ?_); refine gq_ (some 17) Tryz.func128 (spec_IsVowelAt.calls a0 x4_1 true _ A6.out) (fun nd => ?_)))
       go_roundg kj1
       case measure => have := HK1.out; have := HJ1.out; omega
       case rel => exact ⟨(x3_1), (wrap64 (x4_1 + 1)), rs_, rs_, H', ⟨by have := HK1.out; have := HJ1.out; omega⟩, dn_⟩
      ·replace H := bnd_ H; obtain ⟨t166, A8, H⟩ := H
       replace H := itb_ H; rcases H with ⟨rfl, H⟩ | ⟨rfl, H⟩
       ·have H' := Aside0.mk H
        clear H
        go_wp2_with (first | ((refine gc_ 128 ?_); refine gq_ (some 17) Tryz.func128 (spec_IsVowelAt.calls a0 x4_1 false _ A6.out) (fun nd => ?_)) | (go_at_call 128; (with_reducible refine (spec_IsVowelAt.calls a0 (wrap64 (x4_1 + 1)) true _ A8.out).mono ?_); rintro e w' ⟨rfl, ⟨nd, rfl⟩⟩))
        go_roundg kj1
        case measure => have := HK1.out; have := HJ1.out; omega
        case rel => exact ⟨(x3_1), (wrap64 (x4_1 + 1)), rs_, rs_, H', ⟨by have := HK1.out; have := HJ1.out; omega⟩, dn_⟩
       ·have H' := Aside0.mk H
        clear H
        go_wp2_with (first | ((refine gc_ 128 ?_); refine gq_ (some 17) Tryz.func128 (spec_IsVowelAt.calls a0 x4_1 false _ A6.out) (fun nd => ?_)) | (go_at_call 128; (with_reducible refine (spec_IsVowelAt.calls a0 (wrap64 (x4_1 + 1)) false _ A8.out).mono ?_); rintro e w' ⟨rfl, ⟨nd, rfl⟩⟩))
        go_roundg kj1
        case measure => have := HK1.out; have := HJ1.out; omega
        case rel => exact ⟨(wrap64 (x3_1 + 1)), (wrap64 (x4_1 + 1)), rs_, rs_, H', ⟨by have := HK1.out; have := HJ1.out; omega⟩, dn_⟩
     ·obtain rfl := Option.some.inj H
      go_wp2
      go_ret
      exact ⟨rs_, dn_⟩

/-! ### spec_CountClusters: function 100 -/
mutual
def spec_CountClusters.l0 : Nat → ByteArray → Int → Int → Option (Int)
 | 0, _, _, _ => none
 | k + 1, x0, x3, x4 => if x4 < (x0.size : Int) then ((spec_IsForm.f k x0).bind fun t167 => (spec_CountClusters.j1 k x0 x3 x4 t167)) else (spec_CountClusters.j1 k x0 x3 x4 false)
def spec_CountClusters.j1 : Nat → ByteArray → Int → Int → Bool → Option (Int)
 | 0, _, _, _, _ => none
 | k + 1, x0, x3, x4, x12 => if x12 = true then ((spec_IsVowelAt.f x0 (wrap64 (x4 - 1))).bind fun t168 => (if t168 = true then (spec_CountClusters.l0 k x0 x3 (wrap64 (x4 + 1))) else ((spec_IsVowelAt.f x0 x4).bind fun t169 => (if t169 = true then (spec_CountClusters.l0 k x0 x3 (wrap64 (x4 + 1))) else (spec_CountClusters.l0 k x0 (wrap64 (x3 + 1)) (wrap64 (x4 + 1))))))) else (some x3)
end
def spec_CountClusters.f (k : Nat) (a0 : ByteArray) : Option (Int) := spec_CountClusters.l0 k a0 0 1
set_option maxHeartbeats 8000000 in
set_option maxRecDepth 100000 in
theorem spec_CountClusters.calls (k : Nat) (a0 : ByteArray) (r : Int) (w : World) (h : spec_CountClusters.f k a0 = some r) :
  Calls Tryz.prog 100 #[.string a0] w fun e w' => e = .returned (.int .i64 r) ∧ Drawn0 w w' := by
 have H : (spec_CountClusters.l0 k a0 0 1) = some r := h
 clear h
 have H' := Aside0.mk H
 clear H
 go_enter Tryz.func100, Tryz.ntmps100
 go_wp2
 go_loopg [3, 4] k (fun kq v3 v4 w' => ∃ (x3_1 : Int) (x4_1 : Int), v3 = .int .i64 x3_1 ∧ v4 = .int .i64 x4_1 ∧ Aside0 (spec_CountClusters.l0 kq a0 x3_1 x4_1 = some r) ∧ Aside0 (kq ≤ k) ∧ Drawn0 w w')
 case atStart => exact ⟨(0), (1), rs_, rs_, H', ⟨Nat.le_refl _⟩, dn_⟩
 case round =>
  clear H'
  try clear c1
  obtain ⟨x3_1, x4_1, rfl, rfl, HA, HK1, ⟨m1, rfl⟩⟩ := hrel
  cases gk with
  | zero => exact absurd HA.out (by simp [spec_CountClusters.l0])
  | succ k1 =>
   have H := HA.out
   clear HA
   simp only [spec_CountClusters.l0] at H
   have HC2 := Aside0.mk H
   clear H
   go_upto_region 3 with (fail)
   go_cut [12] (fun v12 wc => ∃ (kq : Nat) (x12_1 : Bool), v12 = .bool x12_1 ∧ Aside0 (spec_CountClusters.j1 kq a0 x3_1 x4_1 x12_1 = some r) ∧ Aside0 (kq ≤ k1) ∧ Drawn0 w wc)
   case first =>
    have H := HC2.out
    clear HC2
    replace H := its_ H; rcases H with ⟨c3b0, H⟩ | ⟨c3b0, H⟩
    ·(first | rw [c3b0] | (simp only [i64_w, i32_w]; rw [c3b0]) | skip)
     replace H := bnd_ H; obtain ⟨t167, A4, H⟩ := H
     have H' := Aside0.mk H
     clear H
     go_wp2_with (first | (go_at_call 57; (with_reducible refine (spec_IsForm.calls k1 a0 t167 _ A4.out).mono ?_); rintro e w' ⟨rfl, ⟨nd, rfl⟩⟩))
     go_meet
     case rel => exact ⟨_, (t167), rs_, H', ⟨by have := HK1.out; first | omega | exact Nat.le_refl _⟩, dn_⟩
    ·(first | rw [c3b0] | (simp only [i64_w, i32_w]; rw [c3b0]) | skip)
     have H' := Aside0.mk H
     clear H
     go_wp2
     go_meet
     case rel => exact ⟨_, (false), rs_, H', ⟨by have := HK1.out; first | omega | exact Nat.le_refl _⟩, dn_⟩
   case rest =>
    clear HC2
    try clear c1
    try clear p2
    try clear c3
    try clear c3b0
    obtain ⟨kq, x12_1, rfl, HA, HJ1, ⟨mc1, rfl⟩⟩ := hcut
    cases kq with
    | zero => exact absurd HA.out (by simp [spec_CountClusters.j1])
    | succ kj1 =>
     have H := HA.out
     clear HA
     simp only [spec_CountClusters.j1] at H
     replace H := itb_ H; rcases H with ⟨rfl, H⟩ | ⟨rfl, H⟩
     ·replace H := bnd_ H; obtain ⟨t168, A6, H⟩ := H
      replace H := itb_ H; rcases H with ⟨rfl, H⟩ | ⟨rfl, H⟩
      ·have H' := Aside0.mk H
       clear H
       go_wp2_with (first | ((refine gc_ 128 ?_); refine gq_ (some 18) Tryz.func128 (spec_IsVowelAt.calls a0 (wrap64 (x4_1 - 1)) true _ A6.out) (fun nd => ?_)))
       go_roundg kj1
       case measure => have := HK1.out; have := HJ1.out; omega
       case rel => exact ⟨(x3_1), (wrap64 (x4_1 + 1)), rs_, rs_, H', ⟨by have := HK1.out; have := HJ1.out; omega⟩, dn_⟩
      ·replace H := bnd_ H; obtain ⟨t169, A8, H⟩ := H
       replace H := itb_ H; rcases H with ⟨rfl, H⟩ | ⟨rfl, H⟩
       ·have H' := Aside0.mk H
        clear H
        go_wp2_with (first | ((refine gc_ 128 ?_); refine gq_ (some 18) Tryz.func128 (spec_IsVowelAt.calls a0 (wrap64 (x4_1 - 1)) false _ A6.out) (fun nd => ?_)) | (go_at_call 128; (with_reducible refine (spec_IsVowelAt.calls a0 x4_1 true _ A8.out).mono ?_); rintro e w' ⟨rfl, ⟨nd, rfl⟩⟩))
        go_roundg kj1
        case measure => have := HK1.out; have := HJ1.out; omega
        case rel => exact ⟨(x3_1), (wrap64 (x4_1 + 1)), rs_, rs_, H', ⟨by have := HK1.out; have := HJ1.out; omega⟩, dn_⟩
       ·have H' := Aside0.mk H
        clear H
        go_wp2_with (first | ((refine gc_ 128 ?_); refine gq_ (some 18) Tryz.func128 (spec_IsVowelAt.calls a0 (wrap64 (x4_1 - 1)) false _ A6.out) (fun nd => ?_)) | (go_at_call 128; (with_reducible refine (spec_IsVowelAt.calls a0 x4_1 false _ A8.out).mono ?_); rintro e w' ⟨rfl, ⟨nd, rfl⟩⟩))
        go_roundg kj1
        case measure => have := HK1.out; have := HJ1.out; omega
        case rel => exact ⟨(wrap64 (x3_1 + 1)), (wrap64 (x4_1 + 1)), rs_, rs_, H', ⟨by have := HK1.out; have := HJ1.out; omega⟩, dn_⟩
     ·obtain rfl := Option.some.inj H
      go_wp2
      go_ret
      exact ⟨rs_, dn_⟩

/-! ### spec_IsObstruent: function 131 -/
def spec_IsObstruent.f (a0 : Int) : Option (Bool) := if a0 = 112 then (some true) else (if a0 = 116 then (some true) else (if a0 = 98 then (some true) else (some (a0 == 100))))
set_option maxHeartbeats 8000000 in
set_option maxRecDepth 100000 in
theorem spec_IsObstruent.calls (a0 : Int) (r : Bool) (w : World) (h : spec_IsObstruent.f a0 = some r) :
  Calls Tryz.prog 131 #[.int .u8 a0] w fun e w' => e = .returned (.bool r) ∧ Drawn0 w w' := by
 have H : (if a0 = 112 then (some true) else (if a0 = 116 then (some true) else (if a0 = 98 then (some true) else (some (a0 == 100))))) = some r := h
 clear h
 replace H := ieq_ H; rcases H with ⟨-, c2b0, c2b1, H⟩ | ⟨c2, c2b0, c2b1, H⟩
 ·obtain rfl := Option.some.inj H
  go_enter Tryz.func131, Tryz.ntmps131
  go_wp2
  go_ret
  exact ⟨rs_, dn_⟩
 ·replace H := ieq_ H; rcases H with ⟨-, c3b0, c3b1, H⟩ | ⟨c3, c3b0, c3b1, H⟩
  ·obtain rfl := Option.some.inj H
   go_enter Tryz.func131, Tryz.ntmps131
   go_wp2
   go_ret
   exact ⟨rs_, dn_⟩
  ·replace H := ieq_ H; rcases H with ⟨-, c4b0, c4b1, H⟩ | ⟨c4, c4b0, c4b1, H⟩
   ·obtain rfl := Option.some.inj H
    go_enter Tryz.func131, Tryz.ntmps131
    go_wp2
    go_ret
    exact ⟨rs_, dn_⟩
   ·obtain rfl := Option.some.inj H
    go_enter Tryz.func131, Tryz.ntmps131
    go_wp2
    go_ret
    exact ⟨rs_, dn_⟩

/-! ### spec_l8Voiced: function 129 -/
def spec_l8Voiced.f (a0 : Int) : Option (Bool) := (spec_IsObstruent.f a0).bind fun t170 => (if t170 = true then ((spec_HasFeature.f a0 1).bind fun t171 => (some t171)) else (some false))
set_option maxHeartbeats 8000000 in
set_option maxRecDepth 100000 in
theorem spec_l8Voiced.calls (a0 : Int) (r : Bool) (w : World) (h : spec_l8Voiced.f a0 = some r) :
  Calls Tryz.prog 129 #[.int .u8 a0] w fun e w' => e = .returned (.bool r) ∧ Drawn0 w w' := by
 have H : ((spec_IsObstruent.f a0).bind fun t170 => (if t170 = true then ((spec_HasFeature.f a0 1).bind fun t171 => (some t171)) else (some false))) = some r := h
 clear h
 replace H := bnd_ H; obtain ⟨t170, A2, H⟩ := H
 replace H := itb_ H; rcases H with ⟨rfl, H⟩ | ⟨rfl, H⟩
 ·replace H := bnd_ H; obtain ⟨t171, A4, H⟩ := H
  obtain rfl := Option.some.inj H
  go_enter Tryz.func129, Tryz.ntmps129
  go_wp2_with (first | ((refine gc_ 131 ?_); refine gq_ (some 4) Tryz.func131 (spec_IsObstruent.calls a0 true _ A2.out) (fun nd => ?_)) | (go_at_call 130; (with_reducible refine (spec_HasFeature.calls a0 1 t171 _ A4.out).mono ?_); rintro e w' ⟨rfl, ⟨nd, rfl⟩⟩))
  go_ret
  exact ⟨rs_, dn_⟩
 ·obtain rfl := Option.some.inj H
  go_enter Tryz.func129, Tryz.ntmps129
  go_wp2_with (first | ((refine gc_ 131 ?_); refine gq_ (some 4) Tryz.func131 (spec_IsObstruent.calls a0 false _ A2.out) (fun nd => ?_)))
  go_ret
  exact ⟨rs_, dn_⟩

/-! ### spec_CountVoiced: function 101 -/
mutual
def spec_CountVoiced.l0 : Nat → ByteArray → Int → Int → Option (Int)
 | 0, _, _, _ => none
 | k + 1, x0, x3, x4 => if x4 < (x0.size : Int) then ((spec_IsForm.f k x0).bind fun t172 => (spec_CountVoiced.j1 k x0 x3 x4 t172)) else (spec_CountVoiced.j1 k x0 x3 x4 false)
def spec_CountVoiced.j1 : Nat → ByteArray → Int → Int → Bool → Option (Int)
 | 0, _, _, _, _ => none
 | k + 1, x0, x3, x4, x12 => if x12 = true then (if 0 ≤ x4 then (if x4 < (x0.size : Int) then ((spec_l8Voiced.f (bt x0 x4)).bind fun t173 => (if t173 = true then (spec_CountVoiced.l0 k x0 (wrap64 (x3 + 1)) (wrap64 (x4 + 1))) else (spec_CountVoiced.l0 k x0 x3 (wrap64 (x4 + 1))))) else (none)) else (none)) else (some x3)
end
def spec_CountVoiced.f (k : Nat) (a0 : ByteArray) : Option (Int) := spec_CountVoiced.l0 k a0 0 0
set_option maxHeartbeats 8000000 in
set_option maxRecDepth 100000 in
theorem spec_CountVoiced.calls (k : Nat) (a0 : ByteArray) (r : Int) (w : World) (h : spec_CountVoiced.f k a0 = some r) :
  Calls Tryz.prog 101 #[.string a0] w fun e w' => e = .returned (.int .i64 r) ∧ Drawn0 w w' := by
 have H : (spec_CountVoiced.l0 k a0 0 0) = some r := h
 clear h
 have H' := Aside0.mk H
 clear H
 go_enter Tryz.func101, Tryz.ntmps101
 go_wp2
 go_loopg [3, 4] k (fun kq v3 v4 w' => ∃ (x3_1 : Int) (x4_1 : Int), v3 = .int .i64 x3_1 ∧ v4 = .int .i64 x4_1 ∧ Aside0 (spec_CountVoiced.l0 kq a0 x3_1 x4_1 = some r) ∧ Aside0 (kq ≤ k) ∧ Drawn0 w w')
 case atStart => exact ⟨(0), (0), rs_, rs_, H', ⟨Nat.le_refl _⟩, dn_⟩
 case round =>
  clear H'
  try clear c1
  obtain ⟨x3_1, x4_1, rfl, rfl, HA, HK1, ⟨m1, rfl⟩⟩ := hrel
  cases gk with
  | zero => exact absurd HA.out (by simp [spec_CountVoiced.l0])
  | succ k1 =>
   have H := HA.out
   clear HA
   simp only [spec_CountVoiced.l0] at H
   have HC2 := Aside0.mk H
   clear H
   go_upto_region 3 with (fail)
   go_cut [12] (fun v12 wc => ∃ (kq : Nat) (x12_1 : Bool), v12 = .bool x12_1 ∧ Aside0 (spec_CountVoiced.j1 kq a0 x3_1 x4_1 x12_1 = some r) ∧ Aside0 (kq ≤ k1) ∧ Drawn0 w wc)
   case first =>
    have H := HC2.out
    clear HC2
    replace H := its_ H; rcases H with ⟨c3b0, H⟩ | ⟨c3b0, H⟩
    ·(first | rw [c3b0] | (simp only [i64_w, i32_w]; rw [c3b0]) | skip)
     replace H := bnd_ H; obtain ⟨t172, A4, H⟩ := H
     have H' := Aside0.mk H
     clear H
     go_wp2_with (first | (go_at_call 57; (with_reducible refine (spec_IsForm.calls k1 a0 t172 _ A4.out).mono ?_); rintro e w' ⟨rfl, ⟨nd, rfl⟩⟩))
     go_meet
     case rel => exact ⟨_, (t172), rs_, H', ⟨by have := HK1.out; first | omega | exact Nat.le_refl _⟩, dn_⟩
    ·(first | rw [c3b0] | (simp only [i64_w, i32_w]; rw [c3b0]) | skip)
     have H' := Aside0.mk H
     clear H
     go_wp2
     go_meet
     case rel => exact ⟨_, (false), rs_, H', ⟨by have := HK1.out; first | omega | exact Nat.le_refl _⟩, dn_⟩
   case rest =>
    clear HC2
    try clear c1
    try clear p2
    try clear c3
    try clear c3b0
    obtain ⟨kq, x12_1, rfl, HA, HJ1, ⟨mc1, rfl⟩⟩ := hcut
    cases kq with
    | zero => exact absurd HA.out (by simp [spec_CountVoiced.j1])
    | succ kj1 =>
     have H := HA.out
     clear HA
     simp only [spec_CountVoiced.j1] at H
     replace H := itb_ H; rcases H with ⟨rfl, H⟩ | ⟨rfl, H⟩
     ·replace H := its_ H; rcases H with ⟨c6b0, H⟩ | ⟨_, ⟨⟩⟩
      replace H := its_ H; rcases H with ⟨c7b0, H⟩ | ⟨_, ⟨⟩⟩
      replace H := bnd_ H; obtain ⟨t173, A9, H⟩ := H
      replace H := itb_ H; rcases H with ⟨rfl, H⟩ | ⟨rfl, H⟩
      ·have H' := Aside0.mk H
       clear H
       have p8 : 0 ≤ (x4_1 : Int) := od_
       have q8 : x4_1 < (a0.size : Int) := od_
       have hx8 := bt_at a0 x4_1
       replace p8 := eq_true p8
       replace q8 := eq_true q8
       go_wp2_with (first | ((refine gc_ 129 ?_); refine gq_ (some 18) Tryz.func129 (spec_l8Voiced.calls (bt a0 x4_1) true _ A9.out) (fun nd => ?_)))
       go_roundg kj1
       case measure => have := HK1.out; have := HJ1.out; omega
       case rel => exact ⟨(wrap64 (x3_1 + 1)), (wrap64 (x4_1 + 1)), rs_, rs_, H', ⟨by have := HK1.out; have := HJ1.out; omega⟩, dn_⟩
      ·have H' := Aside0.mk H
       clear H
       have p8 : 0 ≤ (x4_1 : Int) := od_
       have q8 : x4_1 < (a0.size : Int) := od_
       have hx8 := bt_at a0 x4_1
       replace p8 := eq_true p8
       replace q8 := eq_true q8
       go_wp2_with (first | ((refine gc_ 129 ?_); refine gq_ (some 18) Tryz.func129 (spec_l8Voiced.calls (bt a0 x4_1) false _ A9.out) (fun nd => ?_)))
       go_roundg kj1
       case measure => have := HK1.out; have := HJ1.out; omega
       case rel => exact ⟨(x3_1), (wrap64 (x4_1 + 1)), rs_, rs_, H', ⟨by have := HK1.out; have := HJ1.out; omega⟩, dn_⟩
     ·obtain rfl := Option.some.inj H
      go_wp2
      go_ret
      exact ⟨rs_, dn_⟩

end Go.Proofs.YtkddpilambnicaaGreat.PFnExactDifferencesFor
