/- Walks of Go functions that the law FnExactWeightedWinners uses: written by this session's program out of the kit's printer; each shows that a call comes to the answers of the Lean function beside it. Conditions: each contract's own. -/
import Derived.Test.YtkddpilambnicaaGreatPFnExactWeightedWinnersx0
import Derived.Test.YtkddpilambnicaaGreatPFnExactWeightedWinnersx6
namespace Go.Proofs.YtkddpilambnicaaGreat.PFnExactWeightedWinners
open Go.RowKit Go.Proofs.YtkddpilambnicaaGreatW.PrintWords Go.Proofs.YtkddpilambnicaaGreatW.PrintLast Go.Proofs.YtkddpilambnicaaGreatW.PrintMore Go.Proofs.YtkddpilambnicaaGreat.Mac Go.Proofs.YtkddpilambnicaaGreat.Law
attribute [local go_sem] max2_int min2_int max_two min_two max_three min_three max_four min_four   -- for this text's walks alone
set_option linter.unusedVariables false
set_option linter.unusedSimpArgs false

/-! ### spec_IsForm: function 57 -/
def spec_IsForm.f (k : Nat) (a0 : ByteArray) : Option (Bool) := (spec_l2Sounds.f k a0).bind fun t211 => (if t211 = true then (some (decide ((a0.size : Int) ≤ 8))) else (some false))
set_option maxHeartbeats 8000000 in
set_option maxRecDepth 100000 in
theorem spec_IsForm.calls (k : Nat) (a0 : ByteArray) (r : Bool) (w : World) (h : spec_IsForm.f k a0 = some r) :
  Calls Tryz.prog 57 #[.string a0] w fun e w' => e = .returned (.bool r) ∧ Drawn0 w w' := by
 have H : ((spec_l2Sounds.f k a0).bind fun t211 => (if t211 = true then (some (decide ((a0.size : Int) ≤ 8))) else (some false))) = some r := h
 clear h
 replace H := bnd_ H; obtain ⟨t211, A2, H⟩ := H
 replace H := itb_ H; rcases H with ⟨rfl, H⟩ | ⟨rfl, H⟩
 ·obtain rfl := Option.some.inj H
  go_enter Tryz.func57, Tryz.ntmps57
  go_wp2_with (first | ((refine gc_ 83 ?_); refine gq_ (some 4) Tryz.func83 (spec_l2Sounds.calls k a0 true _ A2.out) (fun nd => ?_)))
  go_ret
  exact ⟨rs_, dn_⟩
 ·obtain rfl := Option.some.inj H
  go_enter Tryz.func57, Tryz.ntmps57
  go_wp2_with (first | ((refine gc_ 83 ?_); refine gq_ (some 4) Tryz.func83 (spec_l2Sounds.calls k a0 false _ A2.out) (fun nd => ?_)))
  go_ret
  exact ⟨rs_, dn_⟩

/-! ### spec_l6In: function 84 -/
def spec_l6In.l0 : Nat → List Int → Int → List (S70) → Option (ByteArray)
 | 0, _, _, _ => none
 | k + 1, x3, x4, x213000 => if x4 < (x213000.length : Int) then (if 0 ≤ x4 then (if ((rd_T70 x213000 x4).f0) = 0 then (spec_l6In.l0 k x3 (wrap64 (x4 + 1)) x213000) else (if x3.length < 140737488355328 then (spec_l6In.l0 k (x3 ++ [(rd_T70 x213000 x4).f0]) (wrap64 (x4 + 1)) x213000) else (none))) else (none)) else (some (strOfNums x3))
def spec_l6In.f (k : Nat) (l0_0 : List (S70)) : Option (ByteArray) := spec_l6In.l0 k (([] : List Int)) 0 l0_0
set_option maxHeartbeats 8000000 in
set_option maxRecDepth 100000 in
theorem spec_l6In.calls (k : Nat) (A0_0 : Option Addr) (c0_0 : Nat) (l0_0 : List (S70)) (r : ByteArray) (w : World) (hr0_0 : Kd.C k70 w A0_0 l0_0.length l0_0) (hc0_0 : l0_0.length ≤ c0_0) (h : spec_l6In.f k l0_0 = some r) :
  Calls Tryz.prog 84 #[.agg #[.slice A0_0 l0_0.length c0_0]] w fun e w' => e = .returned (.string r) ∧ Below w.heap.size w w' := by
 have hu50 := Tryz.underlying50
 have HR0_0 := Aside0.mk hr0_0
 have HC0_0 := Aside0.mk hc0_0
 clear hr0_0 hc0_0
 have HB := Aside0.mk (Below.refl w.heap.size w)
 have H : (spec_l6In.l0 k (([] : List Int)) 0 l0_0) = some r := h
 clear h
 obtain ⟨y213, hy213⟩ : ∃ y_ : List Int, y_ = (([] : List Int)) := ⟨_, rfl⟩
 replace H : (spec_l6In.l0 k y213 0 l0_0) = some r := rh_ hy213 H
 have Ny213 := Aside0.mk hy213
 clear hy213
 have H' := Aside0.mk H
 clear H
 go_enter Tryz.func84, Tryz.ntmps84
 go_wp2_with (first | ((refine gd_ 1 ?_); refine bx_ 1 #[.slice A0_0 l0_0.length c0_0] 50 ?_; intro gb212 hg w2 hbox hb; have BK212 := Aside0.mk (hbox); have GW212 := gw_ HB hg; have GE212 := gw_ HB hg; replace HB := bs_ HB hb; clear hb hbox hg) | ((refine gd_ 5 ?_); refine Kd.R_lit (Kd.int .u8) _ 5 ?hg (N := 5) ?hd (xs := ([] : List Int)) (inner := []) (ok := fun _ => True) (okp := fun _ => True) ?hr ?hp (fun _ hk => hk) trivial (Below.refl _ _) (Nat.le_refl _) (by simp) ?_; (case hd => rfl); (case hg => rfl); (case hr => first | (go_simp; done) | (go_simp; rfl)); (case hp => exact (Reps.none _ _)); intro v214 w3 ho4 hb hg_ hnew_; clear hg_ hnew_; (first | rw [← Ny213.out] at ho4 | (simp only [Int.reduceToNat] at ho4; rw [← Ny213.out] at ho4)); have HO215 := Aside0.mk (Kd.R_lower ho4 (below_size (up_ HB.out))); replace BK212 := bb_ BK212 hb; replace HB := bs_ HB hb; clear hb ho4))
 go_loopg [3, 4] k (fun kq v3 v4 w' => ∃ (x3_1 : List Int) (x4_1 : Int), v4 = .int .i64 x4_1 ∧ Aside0 (spec_l6In.l0 kq x3_1 x4_1 l0_0 = some r) ∧ Aside0 (kq ≤ k) ∧ Aside0 (Kd.R (Kd.int .u8) 5 w' w.heap.size (fun _ => True) v3 x3_1) ∧ Aside0 (w'.heap[gb212]? = some (.cells #[(.slice A0_0 l0_0.length c0_0)] 50 (0, 0))) ∧ Aside0 (Below w.heap.size w w'))
 case atStart => exact ⟨(y213), (0), rs_, H', ⟨Nat.le_refl _⟩, ⟨up_ HO215.out⟩, ⟨up_ BK212.out⟩, ⟨up_ HB.out⟩⟩
 case round =>
  clear H'
  try clear p2
  obtain ⟨x3_1, x4_1, rfl, HA, HK1, HO_3, BK212, HB⟩ := hrel
  cases gk with
  | zero => exact absurd HA.out (by simp [spec_l6In.l0])
  | succ k1 =>
   have H := HA.out
   clear HA
   simp only [spec_l6In.l0] at H
   replace H := its_ H; rcases H with ⟨c5b0, H⟩ | ⟨c5b0, H⟩
   ·replace H := its_ H; rcases H with ⟨c6b0, H⟩ | ⟨_, ⟨⟩⟩
    replace H := ieq_ H; rcases H with ⟨-, c7b0, c7b1, H⟩ | ⟨c7, c7b0, c7b1, H⟩
    ·have H' := Aside0.mk H
     clear H
     have hcz8_0 := c1_ BK212
     have hfz8_0 := blk_frozen BK212.out 0
     have p216 : 0 ≤ (x4_1 : Int) := od_
     have q216 : x4_1 < (l0_0.length : Int) := od_
     obtain ⟨ad216, e216, hx216_0, hx216_1⟩ := at_T70 HR0_0.out x4_1 p216 q216
     cases e216
     replace hx216_0 := bh_ HB hx216_0
     replace hx216_1 := bh_ HB hx216_1
     replace p216 := eq_true p216
     replace q216 := eq_true q216
     go_wp2
     go_roundg k1
     case measure => have := HK1.out; omega
     case rel => exact ⟨(x3_1), (wrap64 (x4_1 + 1)), rs_, H', ⟨by have := HK1.out; omega⟩, ⟨up_ HO_3.out⟩, ⟨up_ BK212.out⟩, ⟨up_ HB.out⟩⟩
    ·by_cases c9 : x3_1.length < 140737488355328
     ·rw [if_pos c9] at H
      have LMc9 := Aside0.mk c9
      clear c9
      obtain ⟨y218, hy218⟩ : ∃ y_ : List Int, y_ = (x3_1 ++ [(rd_T70 l0_0 x4_1).f0]) := ⟨_, rfl⟩
      replace H : (spec_l6In.l0 k1 y218 (wrap64 (x4_1 + 1)) l0_0) = some r := rh_ hy218 H
      have Ny218 := Aside0.mk hy218
      clear hy218
      have H' := Aside0.mk H
      clear H
      have hcz10_0 := c1_ BK212
      have hfz10_0 := blk_frozen BK212.out 0
      have p216 : 0 ≤ (x4_1 : Int) := od_
      have q216 : x4_1 < (l0_0.length : Int) := od_
      obtain ⟨ad216, e216, hx216_0, hx216_1⟩ := at_T70 HR0_0.out x4_1 p216 q216
      cases e216
      replace hx216_0 := bh_ HB hx216_0
      replace hx216_1 := bh_ HB hx216_1
      replace p216 := eq_true p216
      replace q216 := eq_true q216
      have p217 : 0 ≤ (x4_1 : Int) := od_
      have q217 : x4_1 < (l0_0.length : Int) := od_
      obtain ⟨ad217, e217, hx217_0, hx217_1⟩ := at_T70 HR0_0.out x4_1 p217 q217
      obtain rfl : ad216 = ad217 := (by injection e217)
      replace hx217_0 := bh_ HB hx217_0
      replace hx217_1 := bh_ HB hx217_1
      replace p217 := eq_true p217
      replace q217 := eq_true q217
      go_wp2_with (first | ((with_reducible refine gate_builtin (b := .append) (xs := #[.tmp 20, .tmp 27]) rfl ?_); at_builtin; refine Kd.R_append (Kd.int .u8) (w0 := w) w.heap.size rfl (.tmp 20) (.tmp 27) 98 5 (.int .u8 0) 1 rfl Tryz.underlying98 info5 rfl (by decide) (by omega) u3 x3_1 ((rd_T70 l0_0 x4_1).f0) [.int .u8 ((rd_T70 l0_0 x4_1).f0)] (fun _ => True) (fun _ => False) rfl rfl ?aP (fun _ hk => hk.elim) ?aF ?aO ?aB ?aS ?aL ?_; (case aP => exact rfl); (case aB => exact (up_ HB.out)); (case aF => exact (fun _ _ => trivial)); (case aO => exact (up_ HO_3.out)); (case aS => exact (below_size (up_ HB.out))); (case aL => have := LMc9.out; omega); intro v219 w11 ho hb hg hat; rw [← Ny218.out] at ho; have n0_ := Aside0.mk (blk_grown (g := gb212) (o := .cells #[.slice (some ad216) l0_0.length c0_0] 50 (0, 0)) (up_ BK212.out) hg (Kd.R_ne HO_3.out BK212.out (by decide))); have n1_ := Aside0.mk (hb); have n2_ := Aside0.mk (ho); clear BK212; clear HB; clear HO_3; have BK212 := n0_; have HB := n1_; have HO220 := n2_; clear n0_ n1_ n2_; clear ho hb hg hat))
      go_roundg k1
      case measure => have := HK1.out; omega
      case rel => exact ⟨(y218), (wrap64 (x4_1 + 1)), rs_, H', ⟨by have := HK1.out; omega⟩, ⟨up_ HO220.out⟩, ⟨up_ BK212.out⟩, ⟨up_ HB.out⟩⟩
     ·rw [if_neg c9] at H
      exact absurd H (by simp)
   ·obtain rfl := Option.some.inj H
    have hcz12_0 := c1_ BK212
    have hfz12_0 := blk_frozen BK212.out 0
    have hcv13 := own_string (P := Tryz.prog) Tryz.underlying98 Tryz.underlying5 Tryz.underlying9 (Kd.own_of_R HO_3.out)
    go_wp2
    go_ret
    exact ⟨re_, up_ HB.out⟩

/-! ### spec_SwapVoice: function 85 -/
def spec_SwapVoice.f (a0 : Int) : Option (Int × Bool) := if a0 = 112 then (some (98, true)) else (if a0 = 98 then (some (112, true)) else (if a0 = 116 then (some (100, true)) else (if a0 = 100 then (some (116, true)) else (some (a0, false)))))
set_option maxHeartbeats 8000000 in
set_option maxRecDepth 100000 in
theorem spec_SwapVoice.calls (a0 : Int) (r1 : Int) (r2 : Bool) (w : World) (h : spec_SwapVoice.f a0 = some (r1, r2)) :
  Calls Tryz.prog 85 #[.int .u8 a0] w fun e w' => e = .returned (.tuple #[.int .u8 r1, .bool r2]) ∧ Drawn0 w w' := by
 have H : (if a0 = 112 then (some (98, true)) else (if a0 = 98 then (some (112, true)) else (if a0 = 116 then (some (100, true)) else (if a0 = 100 then (some (116, true)) else (some (a0, false)))))) = some (r1, r2) := h
 clear h
 replace H := ieq_ H; rcases H with ⟨-, c2b0, c2b1, H⟩ | ⟨c2, c2b0, c2b1, H⟩
 ·simp only [Option.some.injEq, Prod.mk.injEq] at H
  obtain ⟨rfl, rfl⟩ := H
  go_enter Tryz.func85, Tryz.ntmps85
  go_wp2
  go_ret2
  exact ⟨rs_, dn_⟩
 ·replace H := ieq_ H; rcases H with ⟨-, c3b0, c3b1, H⟩ | ⟨c3, c3b0, c3b1, H⟩
  ·simp only [Option.some.injEq, Prod.mk.injEq] at H
   obtain ⟨rfl, rfl⟩ := H
   go_enter Tryz.func85, Tryz.ntmps85
   go_wp2
   go_ret2
   exact ⟨rs_, dn_⟩
  ·replace H := ieq_ H; rcases H with ⟨-, c4b0, c4b1, H⟩ | ⟨c4, c4b0, c4b1, H⟩
   ·simp only [Option.some.injEq, Prod.mk.injEq] at H
    obtain ⟨rfl, rfl⟩ := H
    go_enter Tryz.func85, Tryz.ntmps85
    go_wp2
    go_ret2
    exact ⟨rs_, dn_⟩
   ·replace H := ieq_ H; rcases H with ⟨-, c5b0, c5b1, H⟩ | ⟨c5, c5b0, c5b1, H⟩
    ·simp only [Option.some.injEq, Prod.mk.injEq] at H
     obtain ⟨rfl, rfl⟩ := H
     go_enter Tryz.func85, Tryz.ntmps85
     go_wp2
     go_ret2
     exact ⟨rs_, dn_⟩
    ·simp only [Option.some.injEq, Prod.mk.injEq] at H
     obtain ⟨rfl, rfl⟩ := H
     go_enter Tryz.func85, Tryz.ntmps85
     go_wp2
     go_ret2
     exact ⟨rs_, dn_⟩

/-! ### spec_l6Out: function 87 -/
def spec_l6Out.l0 : Nat → List Int → Int → List (S70) → Option (ByteArray)
 | 0, _, _, _ => none
 | k + 1, x3, x4, x222000 => if x4 < (x222000.length : Int) then (if 0 ≤ x4 then (if ((rd_T70 x222000 x4).f1) = 0 then (spec_l6Out.l0 k x3 (wrap64 (x4 + 1)) x222000) else (if x3.length < 140737488355328 then (spec_l6Out.l0 k (x3 ++ [(rd_T70 x222000 x4).f1]) (wrap64 (x4 + 1)) x222000) else (none))) else (none)) else (some (strOfNums x3))
def spec_l6Out.f (k : Nat) (l0_0 : List (S70)) : Option (ByteArray) := spec_l6Out.l0 k (([] : List Int)) 0 l0_0
set_option maxHeartbeats 8000000 in
set_option maxRecDepth 100000 in
theorem spec_l6Out.calls (k : Nat) (A0_0 : Option Addr) (c0_0 : Nat) (l0_0 : List (S70)) (r : ByteArray) (w : World) (hr0_0 : Kd.C k70 w A0_0 l0_0.length l0_0) (hc0_0 : l0_0.length ≤ c0_0) (h : spec_l6Out.f k l0_0 = some r) :
  Calls Tryz.prog 87 #[.agg #[.slice A0_0 l0_0.length c0_0]] w fun e w' => e = .returned (.string r) ∧ Below w.heap.size w w' := by
 have hu50 := Tryz.underlying50
 have HR0_0 := Aside0.mk hr0_0
 have HC0_0 := Aside0.mk hc0_0
 clear hr0_0 hc0_0
 have HB := Aside0.mk (Below.refl w.heap.size w)
 have H : (spec_l6Out.l0 k (([] : List Int)) 0 l0_0) = some r := h
 clear h
 obtain ⟨y222, hy222⟩ : ∃ y_ : List Int, y_ = (([] : List Int)) := ⟨_, rfl⟩
 replace H : (spec_l6Out.l0 k y222 0 l0_0) = some r := rh_ hy222 H
 have Ny222 := Aside0.mk hy222
 clear hy222
 have H' := Aside0.mk H
 clear H
 go_enter Tryz.func87, Tryz.ntmps87
 go_wp2_with (first | ((refine gd_ 1 ?_); refine bx_ 1 #[.slice A0_0 l0_0.length c0_0] 50 ?_; intro gb221 hg w2 hbox hb; have BK221 := Aside0.mk (hbox); have GW221 := gw_ HB hg; have GE221 := gw_ HB hg; replace HB := bs_ HB hb; clear hb hbox hg) | ((refine gd_ 5 ?_); refine Kd.R_lit (Kd.int .u8) _ 5 ?hg (N := 5) ?hd (xs := ([] : List Int)) (inner := []) (ok := fun _ => True) (okp := fun _ => True) ?hr ?hp (fun _ hk => hk) trivial (Below.refl _ _) (Nat.le_refl _) (by simp) ?_; (case hd => rfl); (case hg => rfl); (case hr => first | (go_simp; done) | (go_simp; rfl)); (case hp => exact (Reps.none _ _)); intro v223 w3 ho4 hb hg_ hnew_; clear hg_ hnew_; (first | rw [← Ny222.out] at ho4 | (simp only [Int.reduceToNat] at ho4; rw [← Ny222.out] at ho4)); have HO224 := Aside0.mk (Kd.R_lower ho4 (below_size (up_ HB.out))); replace BK221 := bb_ BK221 hb; replace HB := bs_ HB hb; clear hb ho4))
 go_loopg [3, 4] k (fun kq v3 v4 w' => ∃ (x3_1 : List Int) (x4_1 : Int), v4 = .int .i64 x4_1 ∧ Aside0 (spec_l6Out.l0 kq x3_1 x4_1 l0_0 = some r) ∧ Aside0 (kq ≤ k) ∧ Aside0 (Kd.R (Kd.int .u8) 5 w' w.heap.size (fun _ => True) v3 x3_1) ∧ Aside0 (w'.heap[gb221]? = some (.cells #[(.slice A0_0 l0_0.length c0_0)] 50 (0, 0))) ∧ Aside0 (Below w.heap.size w w'))
 case atStart => exact ⟨(y222), (0), rs_, H', ⟨Nat.le_refl _⟩, ⟨up_ HO224.out⟩, ⟨up_ BK221.out⟩, ⟨up_ HB.out⟩⟩
 case round =>
  clear H'
  try clear p2
  obtain ⟨x3_1, x4_1, rfl, HA, HK1, HO_3, BK221, HB⟩ := hrel
  cases gk with
  | zero => exact absurd HA.out (by simp [spec_l6Out.l0])
  | succ k1 =>
   have H := HA.out
   clear HA
   simp only [spec_l6Out.l0] at H
   replace H := its_ H; rcases H with ⟨c5b0, H⟩ | ⟨c5b0, H⟩
   ·replace H := its_ H; rcases H with ⟨c6b0, H⟩ | ⟨_, ⟨⟩⟩
    replace H := ieq_ H; rcases H with ⟨-, c7b0, c7b1, H⟩ | ⟨c7, c7b0, c7b1, H⟩
    ·have H' := Aside0.mk H
     clear H
     have hcz8_0 := c1_ BK221
     have hfz8_0 := blk_frozen BK221.out 0
     have p225 : 0 ≤ (x4_1 : Int) := od_
     have q225 : x4_1 < (l0_0.length : Int) := od_
     obtain ⟨ad225, e225, hx225_0, hx225_1⟩ := at_T70 HR0_0.out x4_1 p225 q225
     cases e225
     replace hx225_0 := bh_ HB hx225_0
     replace hx225_1 := bh_ HB hx225_1
     replace p225 := eq_true p225
     replace q225 := eq_true q225
     go_wp2
     go_roundg k1
     case measure => have := HK1.out; omega
     case rel => exact ⟨(x3_1), (wrap64 (x4_1 + 1)), rs_, H', ⟨by have := HK1.out; omega⟩, ⟨up_ HO_3.out⟩, ⟨up_ BK221.out⟩, ⟨up_ HB.out⟩⟩
    ·by_cases c9 : x3_1.length < 140737488355328
     ·rw [if_pos c9] at H
      have LMc9 := Aside0.mk c9
      clear c9
      obtain ⟨y227, hy227⟩ : ∃ y_ : List Int, y_ = (x3_1 ++ [(rd_T70 l0_0 x4_1).f1]) := ⟨_, rfl⟩
      replace H : (spec_l6Out.l0 k1 y227 (wrap64 (x4_1 + 1)) l0_0) = some r := rh_ hy227 H
      have Ny227 := Aside0.mk hy227
      clear hy227
      have H' := Aside0.mk H
      clear H
      have hcz10_0 := c1_ BK221
      have hfz10_0 := blk_frozen BK221.out 0
      have p225 : 0 ≤ (x4_1 : Int) := od_
      have q225 : x4_1 < (l0_0.length : Int) := od_
      obtain ⟨ad225, e225, hx225_0, hx225_1⟩ := at_T70 HR0_0.out x4_1 p225 q225
      cases e225
      replace hx225_0 := bh_ HB hx225_0
      replace hx225_1 := bh_ HB hx225_1
      replace p225 := eq_true p225
      replace q225 := eq_true q225
      have p226 : 0 ≤ (x4_1 : Int) := od_
      have q226 : x4_1 < (l0_0.length : Int) := od_
      obtain ⟨ad226, e226, hx226_0, hx226_1⟩ := at_T70 HR0_0.out x4_1 p226 q226
      obtain rfl : ad225 = ad226 := (by injection e226)
      replace hx226_0 := bh_ HB hx226_0
      replace hx226_1 := bh_ HB hx226_1
      replace p226 := eq_true p226
      replace q226 := eq_true q226
      go_wp2_with (first | ((with_reducible refine gate_builtin (b := .append) (xs := #[.tmp 20, .tmp 27]) rfl ?_); at_builtin; refine Kd.R_append (Kd.int .u8) (w0 := w) w.heap.size rfl (.tmp 20) (.tmp 27) 98 5 (.int .u8 0) 1 rfl Tryz.underlying98 info5 rfl (by decide) (by omega) u3 x3_1 ((rd_T70 l0_0 x4_1).f1) [.int .u8 ((rd_T70 l0_0 x4_1).f1)] (fun _ => True) (fun _ => False) rfl rfl ?aP (fun _ hk => hk.elim) ?aF ?aO ?aB ?aS ?aL ?_; (case aP => exact rfl); (case aB => exact (up_ HB.out)); (case aF => exact (fun _ _ => trivial)); (case aO => exact (up_ HO_3.out)); (case aS => exact (below_size (up_ HB.out))); (case aL => have := LMc9.out; omega); intro v228 w11 ho hb hg hat; rw [← Ny227.out] at ho; have n0_ := Aside0.mk (blk_grown (g := gb221) (o := .cells #[.slice (some ad225) l0_0.length c0_0] 50 (0, 0)) (up_ BK221.out) hg (Kd.R_ne HO_3.out BK221.out (by decide))); have n1_ := Aside0.mk (hb); have n2_ := Aside0.mk (ho); clear BK221; clear HB; clear HO_3; have BK221 := n0_; have HB := n1_; have HO229 := n2_; clear n0_ n1_ n2_; clear ho hb hg hat))
      go_roundg k1
      case measure => have := HK1.out; omega
      case rel => exact ⟨(y227), (wrap64 (x4_1 + 1)), rs_, H', ⟨by have := HK1.out; omega⟩, ⟨up_ HO229.out⟩, ⟨up_ BK221.out⟩, ⟨up_ HB.out⟩⟩
     ·rw [if_neg c9] at H
      exact absurd H (by simp)
   ·obtain rfl := Option.some.inj H
    have hcz12_0 := c1_ BK221
    have hfz12_0 := blk_frozen BK221.out 0
    have hcv13 := own_string (P := Tryz.prog) Tryz.underlying98 Tryz.underlying5 Tryz.underlying9 (Kd.own_of_R HO_3.out)
    go_wp2
    go_ret
    exact ⟨re_, up_ HB.out⟩

end Go.Proofs.YtkddpilambnicaaGreat.PFnExactWeightedWinners
