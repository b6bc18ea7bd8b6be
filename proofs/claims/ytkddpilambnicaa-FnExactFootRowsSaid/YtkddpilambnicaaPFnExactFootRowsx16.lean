/- Walks of Go functions that the law FnExactFootRows uses: written by this session's program out of the kit's printer; each shows that a call comes to the answers of the Lean function beside it. Conditions: each contract's own. -/
import Derived.Test.YtkddpilambnicaaPFnExactFootRowsx0
import Derived.Test.YtkddpilambnicaaPFnExactFootRowsx15
namespace Go.Proofs.Ytkddpilambnicaa.PFnExactFootRows
open Go.RowKit Go.Proofs.YtkddpilambnicaaW.PrintWords Go.Proofs.YtkddpilambnicaaW.PrintLast Go.Proofs.YtkddpilambnicaaW.PrintMore Go.Proofs.Ytkddpilambnicaa.Mac Go.Proofs.Ytkddpilambnicaa.Law
attribute [local go_sem] max2_int min2_int max_two min_two max_three min_three max_four min_four   -- for this text's walks alone
set_option linter.unusedVariables false
set_option linter.unusedSimpArgs false

/-! ### laws_heldRowS: function 64 -/
def laws_heldRowS.l0 : Nat → List (S34) → Int → Int → Option (Int)
 | 0, _, _, _ => none
 | k + 1, x0, x1, x5 => if x5 < (x0.length : Int) then (if 0 ≤ x5 then ((laws_heldIntS.f k ((rd_T34 x0 x5).f0) x1).bind fun t453 => (if t453 < 0 then (some (-1)) else (laws_heldRowS.l0 k x0 t453 (wrap64 (x5 + 1))))) else (none)) else (some x1)
def laws_heldRowS.f (k : Nat) (l0 : List (S34)) (a1 : Int) : Option (Int) := laws_heldRowS.l0 k l0 a1 0
set_option maxHeartbeats 8000000 in
set_option maxRecDepth 100000 in
theorem laws_heldRowS.calls (k : Nat) (A0 : Option Addr) (c0 : Nat) (l0 : List (S34)) (a1 : Int) (r : Int) (w : World) (hr0 : Kd.C k34 w A0 l0.length l0) (hc0 : l0.length ≤ c0) (h : laws_heldRowS.f k l0 a1 = some r) :
  Calls Try.prog 64 #[.slice A0 l0.length c0, .int .i64 a1] w fun e w' => e = .returned (.int .i64 r) ∧ Drawn0 w w' := by
 have HR0 := Aside0.mk hr0
 have HC0 := Aside0.mk hc0
 clear hr0 hc0
 have H : (laws_heldRowS.l0 k l0 a1 0) = some r := h
 clear h
 have H' := Aside0.mk H
 clear H
 go_enter Try.func64, Try.ntmps64
 go_wp2
 go_loopg [1, 5] k (fun kq v1 v5 w' => ∃ (x1_1 : Int) (x5_1 : Int), v1 = .int .i64 x1_1 ∧ v5 = .int .i64 x5_1 ∧ Aside0 (laws_heldRowS.l0 kq l0 x1_1 x5_1 = some r) ∧ Aside0 (kq ≤ k) ∧ Drawn0 w w')
 case atStart => exact ⟨(a1), (0), rs_, rs_, H', ⟨Nat.le_refl _⟩, dn_⟩
 case round =>
  clear H'
  try clear p2
  obtain ⟨x1_1, x5_1, rfl, rfl, HA, HK1, ⟨m1, rfl⟩⟩ := hrel
  cases gk with
  | zero => exact absurd HA.out (by simp [laws_heldRowS.l0])
  | succ k1 =>
   have H := HA.out
   clear HA
   simp only [laws_heldRowS.l0] at H
   replace H := its_ H; rcases H with ⟨c3b0, H⟩ | ⟨c3b0, H⟩
   ·replace H := its_ H; rcases H with ⟨c4b0, H⟩ | ⟨_, ⟨⟩⟩
    replace H := bnd_ H; obtain ⟨t453, A5, H⟩ := H
    replace H := its_ H; rcases H with ⟨c6b0, H⟩ | ⟨c6b0, H⟩
    ·obtain rfl := Option.some.inj H
     have p452 : 0 ≤ (x5_1 : Int) := od_
     have q452 : x5_1 < (l0.length : Int) := od_
     obtain ⟨ad452, A452_0, c452_0, e452, hx452_0, hl452_0, hi452_0⟩ := at_T34 HR0.out x5_1 p452 q452
     cases e452
     have HR452_0 := Aside0.mk hi452_0
     have HC452_0 := Aside0.mk hl452_0
     clear hi452_0 hl452_0
     replace p452 := eq_true p452
     replace q452 := eq_true q452
     go_wp2_with (first | ((with_reducible refine gc_ 37 ?_); refine goesL_ (some 18) rfl rfl Try.func37 (by kernel_rfl) rfl #[.slice A452_0 ((rd_T34 l0 x5_1).f0).length c452_0, .int .i64 x1_1] rfl am_ ?_; (with_reducible refine (laws_heldIntS.calls k1 _ _ ((rd_T34 l0 x5_1).f0) x1_1 t453 _ ?side1 ?side2 A5.out).mono ?_); (case side1 => repeat (first | exact HR452_0.out | (with_reducible refine Kd.C_alloc ?_ _) | (with_reducible refine Kd.C_drewN ?_ _) | (with_reducible refine Kd.C_drew ?_))); (case side2 => exact HC452_0.out); rintro e w' ⟨rfl, ⟨nd, rfl⟩⟩; refine ⟨_, rfl, ?_⟩))
     go_ret
     exact ⟨rs_, dn_⟩
    ·have H' := Aside0.mk H
     clear H
     have p452 : 0 ≤ (x5_1 : Int) := od_
     have q452 : x5_1 < (l0.length : Int) := od_
     obtain ⟨ad452, A452_0, c452_0, e452, hx452_0, hl452_0, hi452_0⟩ := at_T34 HR0.out x5_1 p452 q452
     cases e452
     have HR452_0 := Aside0.mk hi452_0
     have HC452_0 := Aside0.mk hl452_0
     clear hi452_0 hl452_0
     replace p452 := eq_true p452
     replace q452 := eq_true q452
     go_wp2_with (first | ((with_reducible refine gc_ 37 ?_); refine goesL_ (some 18) rfl rfl Try.func37 (by kernel_rfl) rfl #[.slice A452_0 ((rd_T34 l0 x5_1).f0).length c452_0, .int .i64 x1_1] rfl am_ ?_; (with_reducible refine (laws_heldIntS.calls k1 _ _ ((rd_T34 l0 x5_1).f0) x1_1 t453 _ ?side1 ?side2 A5.out).mono ?_); (case side1 => repeat (first | exact HR452_0.out | (with_reducible refine Kd.C_alloc ?_ _) | (with_reducible refine Kd.C_drewN ?_ _) | (with_reducible refine Kd.C_drew ?_))); (case side2 => exact HC452_0.out); rintro e w' ⟨rfl, ⟨nd, rfl⟩⟩; refine ⟨_, rfl, ?_⟩))
     go_roundg k1
     case measure => have := HK1.out; omega
     case rel => exact ⟨(t453), (wrap64 (x5_1 + 1)), rs_, rs_, H', ⟨by have := HK1.out; omega⟩, dn_⟩
   ·obtain rfl := Option.some.inj H
    go_wp2
    go_ret
    exact ⟨rs_, dn_⟩

end Go.Proofs.Ytkddpilambnicaa.PFnExactFootRows
