/- Walks of Go functions that the law FnExactHearAll uses: written by this session's program out of the kit's printer; each shows that a call comes to the answers of the Lean function beside it. Conditions: each contract's own. -/
import Derived.Test.YtkddpilambnicaaPFnExactHearAllx0
import Derived.Test.YtkddpilambnicaaPFnExactHearAllx3
import Derived.Test.YtkddpilambnicaaPFnExactHearAllx4
namespace Go.Proofs.Ytkddpilambnicaa.PFnExactHearAll
open Go.RowKit Go.Proofs.YtkddpilambnicaaW.PrintWords Go.Proofs.YtkddpilambnicaaW.PrintLast Go.Proofs.YtkddpilambnicaaW.PrintMore Go.Proofs.Ytkddpilambnicaa.Mac Go.Proofs.Ytkddpilambnicaa.Law
attribute [local go_sem] max2_int min2_int max_two min_two max_three min_three max_four min_four   -- for this text's walks alone
set_option linter.unusedVariables false
set_option linter.unusedSimpArgs false

/-! ### spec_AreRows: function 93 -/
def spec_AreRows.l0 : Nat → List (S34) → Int → Int → Option (Bool)
 | 0, _, _, _ => none
 | k + 1, x0, x1, x5 => if x5 < (x0.length : Int) then (if 0 ≤ x5 then ((spec_IsRow.f k ((rd_T34 x0 x5).f0) x1).bind fun t260 => (if t260 = true then (spec_AreRows.l0 k x0 x1 (wrap64 (x5 + 1))) else (some false))) else (none)) else ((spec_l1In.f x1 1 5).bind fun t261 => (if t261 = true then (some (decide ((x0.length : Int) ≤ 20))) else (some false)))
def spec_AreRows.f (k : Nat) (l0 : List (S34)) (a1 : Int) : Option (Bool) := spec_AreRows.l0 k l0 a1 0
set_option maxHeartbeats 8000000 in
set_option maxRecDepth 100000 in
theorem spec_AreRows.calls (k : Nat) (A0 : Option Addr) (c0 : Nat) (l0 : List (S34)) (a1 : Int) (r : Bool) (w : World) (hr0 : Kd.C k34 w A0 l0.length l0) (hc0 : l0.length ≤ c0) (h : spec_AreRows.f k l0 a1 = some r) :
  Calls Try.prog 93 #[.slice A0 l0.length c0, .int .i64 a1] w fun e w' => e = .returned (.bool r) ∧ Below w.heap.size w w' := by
 have hu34 := Try.underlying34
 have HR0 := Aside0.mk hr0
 have HC0 := Aside0.mk hc0
 clear hr0 hc0
 have HB := Aside0.mk (Below.refl w.heap.size w)
 have H : (spec_AreRows.l0 k l0 a1 0) = some r := h
 clear h
 have H' := Aside0.mk H
 clear H
 go_enter Try.func93, Try.ntmps93
 go_wp2
 go_loopg [5] k (fun kq v5 w' => ∃ (x5_1 : Int), v5 = .int .i64 x5_1 ∧ Aside0 (spec_AreRows.l0 kq l0 a1 x5_1 = some r) ∧ Aside0 (kq ≤ k) ∧ Aside0 (Below w.heap.size w w'))
 case atStart => exact ⟨(0), rs_, H', ⟨Nat.le_refl _⟩, ⟨up_ HB.out⟩⟩
 case round =>
  clear H'
  try clear p2
  obtain ⟨x5_1, rfl, HA, HK1, HB⟩ := hrel
  cases gk with
  | zero => exact absurd HA.out (by simp [spec_AreRows.l0])
  | succ k1 =>
   have H := HA.out
   clear HA
   simp only [spec_AreRows.l0] at H
   replace H := its_ H; rcases H with ⟨c3b0, H⟩ | ⟨c3b0, H⟩
   ·replace H := its_ H; rcases H with ⟨c4b0, H⟩ | ⟨_, ⟨⟩⟩
    replace H := bnd_ H; obtain ⟨t260, A5, H⟩ := H
    replace H := itb_ H; rcases H with ⟨rfl, H⟩ | ⟨rfl, H⟩
    ·have H' := Aside0.mk H
     clear H
     have p259 : 0 ≤ (x5_1 : Int) := od_
     have q259 : x5_1 < (l0.length : Int) := od_
     obtain ⟨ad259, A259_0, c259_0, e259, hx259_0, hl259_0, hi259_0⟩ := at_T34 HR0.out x5_1 p259 q259
     cases e259
     replace hx259_0 := bh_ HB hx259_0
     have HR259_0 := Aside0.mk hi259_0
     have HC259_0 := Aside0.mk hl259_0
     clear hi259_0 hl259_0
     replace p259 := eq_true p259
     replace q259 := eq_true q259
     go_wp2_with (first | ((refine gc_ 78 ?_); refine gl_ (some 17) Try.func78 (spec_IsRow.calls k1 _ _ ((rd_T34 l0 x5_1).f0) a1 true _ (Kd.C_below HR259_0.out (up_ HB.out)) HC259_0.out A5.out) ?_; rintro e w7 ⟨rfl, hb⟩; refine ⟨_, rfl, ?_⟩; replace HB := bs_ HB hb; (try clear hb); (try clear hb2); (try clear hk); (try clear hi)))
     go_roundg k1
     case measure => have := HK1.out; omega
     case rel => exact ⟨(wrap64 (x5_1 + 1)), rs_, H', ⟨by have := HK1.out; omega⟩, ⟨up_ HB.out⟩⟩
    ·obtain rfl := Option.some.inj H
     have p259 : 0 ≤ (x5_1 : Int) := od_
     have q259 : x5_1 < (l0.length : Int) := od_
     obtain ⟨ad259, A259_0, c259_0, e259, hx259_0, hl259_0, hi259_0⟩ := at_T34 HR0.out x5_1 p259 q259
     cases e259
     replace hx259_0 := bh_ HB hx259_0
     have HR259_0 := Aside0.mk hi259_0
     have HC259_0 := Aside0.mk hl259_0
     clear hi259_0 hl259_0
     replace p259 := eq_true p259
     replace q259 := eq_true q259
     go_wp2_with (first | ((refine gc_ 78 ?_); refine gl_ (some 17) Try.func78 (spec_IsRow.calls k1 _ _ ((rd_T34 l0 x5_1).f0) a1 false _ (Kd.C_below HR259_0.out (up_ HB.out)) HC259_0.out A5.out) ?_; rintro e w8 ⟨rfl, hb⟩; refine ⟨_, rfl, ?_⟩; replace HB := bs_ HB hb; (try clear hb); (try clear hb2); (try clear hk); (try clear hi)))
     go_ret
     exact ⟨re_, up_ HB.out⟩
   ·replace H := bnd_ H; obtain ⟨t261, A9, H⟩ := H
    replace H := itb_ H; rcases H with ⟨rfl, H⟩ | ⟨rfl, H⟩
    ·obtain rfl := Option.some.inj H
     go_wp2_with (first | ((refine gc_ 95 ?_); refine gq_ (some 20) Try.func95 (spec_l1In.calls a1 1 5 true _ A9.out) (fun nd => ?_)))
     go_ret
     exact ⟨re_, up_ HB.out⟩
    ·obtain rfl := Option.some.inj H
     go_wp2_with (first | ((refine gc_ 95 ?_); refine gq_ (some 20) Try.func95 (spec_l1In.calls a1 1 5 false _ A9.out) (fun nd => ?_)))
     go_ret
     exact ⟨re_, up_ HB.out⟩

end Go.Proofs.Ytkddpilambnicaa.PFnExactHearAll
