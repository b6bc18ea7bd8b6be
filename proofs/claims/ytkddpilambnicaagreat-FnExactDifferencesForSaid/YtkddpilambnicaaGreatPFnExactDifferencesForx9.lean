/- Walks of Go functions that the law FnExactDifferencesFor uses: written by this session's program out of the kit's printer; each shows that a call comes to the answers of the Lean function beside it. Conditions: each contract's own. -/
import Derived.Test.YtkddpilambnicaaGreatPFnExactDifferencesForx0
import Derived.Test.YtkddpilambnicaaGreatPFnExactDifferencesForx1
import Derived.Test.YtkddpilambnicaaGreatPFnExactDifferencesForx2
import Derived.Test.YtkddpilambnicaaGreatPFnExactDifferencesForx3
import Derived.Test.YtkddpilambnicaaGreatPFnExactDifferencesForx4
import Derived.Test.YtkddpilambnicaaGreatPFnExactDifferencesForx8
namespace Go.Proofs.YtkddpilambnicaaGreat.PFnExactDifferencesFor
open Go.RowKit Go.Proofs.YtkddpilambnicaaGreatW.PrintWords Go.Proofs.YtkddpilambnicaaGreatW.PrintLast Go.Proofs.YtkddpilambnicaaGreatW.PrintMore Go.Proofs.YtkddpilambnicaaGreat.Mac Go.Proofs.YtkddpilambnicaaGreat.Law
attribute [local go_sem] max2_int min2_int max_two min_two max_three min_three max_four min_four   -- for this text's walks alone
set_option linter.unusedVariables false
set_option linter.unusedSimpArgs false

/-! ### spec_IsTableau: function 32 -/
mutual
def spec_IsTableau.j0 : Nat → Bool → ByteArray → List ByteArray → List (S50) → List (List Int) → Option (Bool)
 | 0, _, _, _, _, _ => none
 | k + 1, x29, x228000, x228001, x228002, x228003 => if x29 = true then (some false) else (spec_IsTableau.l0 k 0 x228000 x228001 x228002 x228003)
def spec_IsTableau.l0 : Nat → Int → ByteArray → List ByteArray → List (S50) → List (List Int) → Option (Bool)
 | 0, _, _, _, _, _ => none
 | k + 1, x3, x228000, x228001, x228002, x228003 => if x3 < (x228002.length : Int) then (if 0 ≤ x3 then ((spec_InputOf.f k ((rd_T50 x228002 x3).f0)).bind fun t232 => (if t232.toList = x228000.toList then ((spec_IsCandidate.f k ((rd_T50 x228002 x3).f0)).bind fun t234 => (if t234 = true then (if x3 < (x228003.length : Int) then ((spec_ProfileOf.f k x228001 ((rd_T50 x228002 x3).f0)).bind fun t237 => ((spec_l11Same.f k (rd_L6 x228003 x3) t237).bind fun t240 => (if t240 = true then (spec_IsTableau.l0 k (wrap64 (x3 + 1)) x228000 x228001 x228002 x228003) else (some false)))) else (none)) else (some false))) else (some false))) else (none)) else (some true)
end
def spec_IsTableau.f (k : Nat) (a0_0 : ByteArray) (l0_1 : List ByteArray) (l0_2 : List (S50)) (l0_3 : List (List Int)) : Option (Bool) := (spec_AreConstraints.f k l0_1).bind fun t228 => (if t228 = true then ((spec_IsForm.f k a0_0).bind fun t229 => (if t229 = true then ((spec_l1In.f (l0_2.length : Int) 1 250).bind fun t230 => (if t230 = true then (spec_IsTableau.j0 k ((l0_3.length : Int) != (l0_2.length : Int)) a0_0 l0_1 l0_2 l0_3) else (spec_IsTableau.j0 k true a0_0 l0_1 l0_2 l0_3))) else (spec_IsTableau.j0 k true a0_0 l0_1 l0_2 l0_3))) else (spec_IsTableau.j0 k true a0_0 l0_1 l0_2 l0_3))
def spec_IsTableau.T6 : Bool × List (List Nat × List Nat) := (true, [([], []), ([0], [0]), ([], []), ([1, 2], [1, 2]), ([3], [3]), ([4], [4]), ([], []), ([6], [6]), ([5, 7], [5, 7]), ([8, 5], [8]), ([9], [9]), ([10, 9], [9, 10]), ([9], [9]), ([11, 12, 9], [9, 11, 12]), ([13, 9], [9, 13]), ([14, 9, 9], [9, 14]), ([15, 9], [9, 15]), ([9, 16], [9, 16]), ([17, 15], [17]), ([18], [18]), ([19, 18], [18, 19]), ([18], [18]), ([20, 21, 18], [18, 20, 21]), ([22, 18], [18, 22]), ([18], [18]), ([24, 18], [18, 24]), ([18], [18]), ([26, 18], [18, 26]), ([18], [18]), ([27, 28, 18], [18, 27, 28]), ([29, 18], [18, 29]), ([25, 30, 18, 18], [18, 25, 30]), ([23, 31, 31, 18], [18, 23, 31]), ([32, 18], [18, 32]), ([18, 33], [18, 33])])
def spec_IsTableau.B6 : List Nat := [0, 1, 0, 7, 15, 31, 0, 64, 255, 511, 1023, 2047, 1023, 8191, 16383, 32767, 65535, 131071, 262143, 524287, 1048575, 524287, 4194303, 8388607, 524287, 17301503, 524287, 67633151, 524287, 470286335, 1007157247, 2131230719, 4294967295, 8589934591, 17179869183]
theorem spec_IsTableau.tab6 : rtab .any (opsOf Tryz.f32 6) = spec_IsTableau.T6 := by kernel_rfl
theorem spec_IsTableau.bits6 : waitsOk spec_IsTableau.T6.2 spec_IsTableau.B6 = true := by kernel_rfl
set_option maxHeartbeats 8000000 in
set_option maxRecDepth 100000 in
theorem spec_IsTableau.calls (k : Nat) (a0_0 : ByteArray) (A0_1 : Option Addr) (c0_1 : Nat) (l0_1 : List ByteArray) (A0_2 : Option Addr) (c0_2 : Nat) (l0_2 : List (S50)) (A0_3 : Option Addr) (c0_3 : Nat) (l0_3 : List (List Int)) (r : Bool) (w : World) (hr0_1 : Kd.C Kd.string w A0_1 l0_1.length l0_1) (hc0_1 : l0_1.length ≤ c0_1) (hr0_2 : Kd.C k50 w A0_2 l0_2.length l0_2) (hc0_2 : l0_2.length ≤ c0_2) (hr0_3 : Kd.C (Kd.slice 3 (Kd.int .i64)) w A0_3 l0_3.length l0_3) (hc0_3 : l0_3.length ≤ c0_3) (h : spec_IsTableau.f k a0_0 l0_1 l0_2 l0_3 = some r) :
  Calls Tryz.prog 32 #[.agg #[.string a0_0, .slice A0_1 l0_1.length c0_1, .slice A0_2 l0_2.length c0_2, .slice A0_3 l0_3.length c0_3]] w fun e w' => e = .returned (.bool r) ∧ Below w.heap.size w w' := by
 have hu38 := Tryz.underlying38
 have hu50 := Tryz.underlying50
 have HR0_1 := Aside0.mk hr0_1
 have HC0_1 := Aside0.mk hc0_1
 clear hr0_1 hc0_1
 have HR0_2 := Aside0.mk hr0_2
 have HC0_2 := Aside0.mk hc0_2
 clear hr0_2 hc0_2
 have HR0_3 := Aside0.mk hr0_3
 have HC0_3 := Aside0.mk hc0_3
 clear hr0_3 hc0_3
 have HB := Aside0.mk (Below.refl w.heap.size w)
 have H : ((spec_AreConstraints.f k l0_1).bind fun t228 => (if t228 = true then ((spec_IsForm.f k a0_0).bind fun t229 => (if t229 = true then ((spec_l1In.f (l0_2.length : Int) 1 250).bind fun t230 => (if t230 = true then (spec_IsTableau.j0 k ((l0_3.length : Int) != (l0_2.length : Int)) a0_0 l0_1 l0_2 l0_3) else (spec_IsTableau.j0 k true a0_0 l0_1 l0_2 l0_3))) else (spec_IsTableau.j0 k true a0_0 l0_1 l0_2 l0_3))) else (spec_IsTableau.j0 k true a0_0 l0_1 l0_2 l0_3))) = some r := h
 clear h
 have HC2 := Aside0.mk H
 clear H
 go_enter Tryz.func32, Tryz.ntmps32
 go_upto_region 1 with (first | ((refine gd_ 1 ?_); (try (refine gate_guard (by rfl) ?_; dsimp only)); refine bx_ 1 #[.string a0_0, .slice A0_1 l0_1.length c0_1, .slice A0_2 l0_2.length c0_2, .slice A0_3 l0_3.length c0_3] 38 ?_; intro gb227 hg w3 hbox hb; have BK227 := Aside0.mk (hbox); have GW227 := gw_ HB hg; have GE227 := gw_ HB hg; replace HB := bs_ HB hb; clear hb hbox hg))
 (try simp only [Act.put, List.setIfInBounds_toArray, List.set_cons_zero, List.set_cons_succ])
 go_cut [29] (fun v29 wc => ∃ (kq : Nat) (x29_1 : Bool), v29 = .bool x29_1 ∧ Aside0 (spec_IsTableau.j0 kq x29_1 a0_0 l0_1 l0_2 l0_3 = some r) ∧ Aside0 (kq ≤ k) ∧ Aside0 (wc.heap[gb227]? = some (.cells #[.string a0_0, (.slice A0_1 l0_1.length c0_1), (.slice A0_2 l0_2.length c0_2), (.slice A0_3 l0_3.length c0_3)] 38 (0, 0))) ∧ Aside0 (Below w.heap.size w wc))
 case first =>
  have H := HC2.out
  clear HC2
  replace H := bnd_ H; obtain ⟨t228, A4, H⟩ := H
  replace H := itb_ H; rcases H with ⟨rfl, H⟩ | ⟨rfl, H⟩
  ·replace H := bnd_ H; obtain ⟨t229, A6, H⟩ := H
   replace H := itb_ H; rcases H with ⟨rfl, H⟩ | ⟨rfl, H⟩
   ·replace H := bnd_ H; obtain ⟨t230, A8, H⟩ := H
    replace H := itb_ H; rcases H with ⟨rfl, H⟩ | ⟨rfl, H⟩
    ·have H' := Aside0.mk H
     clear H
     obtain ⟨hcz10_0, hcz10_1, hcz10_2, hcz10_3⟩ := c4_ BK227
     have hfz10_0 := blk_frozen BK227.out 0
     have hfz10_1 := blk_frozen BK227.out 1
     have hfz10_2 := blk_frozen BK227.out 2
     have hfz10_3 := blk_frozen BK227.out 3
     go_wp2_with (first | ((refine gc_ 49 ?_); refine gl_ (some 6) Tryz.func49 (spec_AreConstraints.calls k _ _ l0_1 true _ (Kd.C_below HR0_1.out (up_ HB.out)) HC0_1.out A4.out) ?_; rintro e w11 ⟨rfl, hb⟩; refine ⟨_, rfl, ?_⟩; replace BK227 := bb_ BK227 hb; replace HB := bs_ HB hb; (try clear hb); (try clear hb2); (try clear hk); (try clear hi); obtain ⟨hcz12_0, hcz12_1, hcz12_2, hcz12_3⟩ := c4_ BK227; have hfz12_0 := blk_frozen BK227.out 0; have hfz12_1 := blk_frozen BK227.out 1; have hfz12_2 := blk_frozen BK227.out 2; have hfz12_3 := blk_frozen BK227.out 3) | (go_at_call 57; (with_reducible refine (spec_IsForm.calls k a0_0 true _ A6.out).mono ?_); rintro e w' ⟨rfl, ⟨nd, rfl⟩⟩) | (go_at_call 58; (with_reducible refine (spec_l1In.calls (l0_2.length : Int) 1 250 true _ A8.out).mono ?_); rintro e w' ⟨rfl, ⟨nd, rfl⟩⟩))
     go_meet
     case rel => exact ⟨_, (((l0_3.length : Int) != (l0_2.length : Int))), rs_, H', ⟨by first | omega | exact Nat.le_refl _⟩, ⟨up_ BK227.out⟩, ⟨up_ HB.out⟩⟩
    ·have H' := Aside0.mk H
     clear H
     obtain ⟨hcz13_0, hcz13_1, hcz13_2, hcz13_3⟩ := c4_ BK227
     have hfz13_0 := blk_frozen BK227.out 0
     have hfz13_1 := blk_frozen BK227.out 1
     have hfz13_2 := blk_frozen BK227.out 2
     have hfz13_3 := blk_frozen BK227.out 3
     go_wp2_with (first | ((refine gc_ 49 ?_); refine gl_ (some 6) Tryz.func49 (spec_AreConstraints.calls k _ _ l0_1 true _ (Kd.C_below HR0_1.out (up_ HB.out)) HC0_1.out A4.out) ?_; rintro e w14 ⟨rfl, hb⟩; refine ⟨_, rfl, ?_⟩; replace BK227 := bb_ BK227 hb; replace HB := bs_ HB hb; (try clear hb); (try clear hb2); (try clear hk); (try clear hi); obtain ⟨hcz15_0, hcz15_1, hcz15_2, hcz15_3⟩ := c4_ BK227; have hfz15_0 := blk_frozen BK227.out 0; have hfz15_1 := blk_frozen BK227.out 1; have hfz15_2 := blk_frozen BK227.out 2; have hfz15_3 := blk_frozen BK227.out 3) | (go_at_call 57; (with_reducible refine (spec_IsForm.calls k a0_0 true _ A6.out).mono ?_); rintro e w' ⟨rfl, ⟨nd, rfl⟩⟩) | (go_at_call 58; (with_reducible refine (spec_l1In.calls (l0_2.length : Int) 1 250 false _ A8.out).mono ?_); rintro e w' ⟨rfl, ⟨nd, rfl⟩⟩))
     go_meet
     case rel => exact ⟨_, (true), rs_, H', ⟨by first | omega | exact Nat.le_refl _⟩, ⟨up_ BK227.out⟩, ⟨up_ HB.out⟩⟩
   ·have H' := Aside0.mk H
    clear H
    obtain ⟨hcz16_0, hcz16_1, hcz16_2, hcz16_3⟩ := c4_ BK227
    have hfz16_0 := blk_frozen BK227.out 0
    have hfz16_1 := blk_frozen BK227.out 1
    have hfz16_2 := blk_frozen BK227.out 2
    have hfz16_3 := blk_frozen BK227.out 3
    go_wp2_with (first | ((refine gc_ 49 ?_); refine gl_ (some 6) Tryz.func49 (spec_AreConstraints.calls k _ _ l0_1 true _ (Kd.C_below HR0_1.out (up_ HB.out)) HC0_1.out A4.out) ?_; rintro e w17 ⟨rfl, hb⟩; refine ⟨_, rfl, ?_⟩; replace BK227 := bb_ BK227 hb; replace HB := bs_ HB hb; (try clear hb); (try clear hb2); (try clear hk); (try clear hi); obtain ⟨hcz18_0, hcz18_1, hcz18_2, hcz18_3⟩ := c4_ BK227; have hfz18_0 := blk_frozen BK227.out 0; have hfz18_1 := blk_frozen BK227.out 1; have hfz18_2 := blk_frozen BK227.out 2; have hfz18_3 := blk_frozen BK227.out 3) | (go_at_call 57; (with_reducible refine (spec_IsForm.calls k a0_0 false _ A6.out).mono ?_); rintro e w' ⟨rfl, ⟨nd, rfl⟩⟩))
    go_meet
    case rel => exact ⟨_, (true), rs_, H', ⟨by first | omega | exact Nat.le_refl _⟩, ⟨up_ BK227.out⟩, ⟨up_ HB.out⟩⟩
  ·have H' := Aside0.mk H
   clear H
   obtain ⟨hcz19_0, hcz19_1, hcz19_2, hcz19_3⟩ := c4_ BK227
   have hfz19_0 := blk_frozen BK227.out 0
   have hfz19_1 := blk_frozen BK227.out 1
   have hfz19_2 := blk_frozen BK227.out 2
   have hfz19_3 := blk_frozen BK227.out 3
   go_wp2_with (first | ((refine gc_ 49 ?_); refine gl_ (some 6) Tryz.func49 (spec_AreConstraints.calls k _ _ l0_1 false _ (Kd.C_below HR0_1.out (up_ HB.out)) HC0_1.out A4.out) ?_; rintro e w20 ⟨rfl, hb⟩; refine ⟨_, rfl, ?_⟩; replace BK227 := bb_ BK227 hb; replace HB := bs_ HB hb; (try clear hb); (try clear hb2); (try clear hk); (try clear hi)))
   go_meet
   case rel => exact ⟨_, (true), rs_, H', ⟨by first | omega | exact Nat.le_refl _⟩, ⟨up_ BK227.out⟩, ⟨up_ HB.out⟩⟩
 case rest =>
  clear HC2
  try clear p2
  try clear c3
  try clear c4
  try clear c5
  try clear c7
  try clear c9
  try clear hcz10_0
  try clear hcz10_1
  try clear hcz10_2
  try clear hcz10_3
  try clear hcz12_0
  try clear hcz12_1
  try clear hcz12_2
  try clear hcz12_3
  try clear hcz13_0
  try clear hcz13_1
  try clear hcz13_2
  try clear hcz13_3
  try clear hcz15_0
  try clear hcz15_1
  try clear hcz15_2
  try clear hcz15_3
  try clear hcz16_0
  try clear hcz16_1
  try clear hcz16_2
  try clear hcz16_3
  try clear hcz18_0
  try clear hcz18_1
  try clear hcz18_2
  try clear hcz18_3
  try clear hcz19_0
  try clear hcz19_1
  try clear hcz19_2
  try clear hcz19_3
  try clear hfz10_0
  try clear hfz10_1
  try clear hfz10_2
  try clear hfz10_3
  try clear hfz12_0
  try clear hfz12_1
  try clear hfz12_2
  try clear hfz12_3
  try clear hfz13_0
  try clear hfz13_1
  try clear hfz13_2
  try clear hfz13_3
  try clear hfz15_0
  try clear hfz15_1
  try clear hfz15_2
  try clear hfz15_3
  try clear hfz16_0
  try clear hfz16_1
  try clear hfz16_2
  try clear hfz16_3
  try clear hfz18_0
  try clear hfz18_1
  try clear hfz18_2
  try clear hfz18_3
  try clear hfz19_0
  try clear hfz19_1
  try clear hfz19_2
  try clear hfz19_3
  obtain ⟨kq, x29_1, rfl, HA, HJ1, BK227, HB⟩ := hcut
  cases kq with
  | zero => exact absurd HA.out (by simp [spec_IsTableau.j0])
  | succ kj1 =>
   have H := HA.out
   clear HA
   simp only [spec_IsTableau.j0] at H
   replace H := itb_ H; rcases H with ⟨rfl, H⟩ | ⟨rfl, H⟩
   ·obtain rfl := Option.some.inj H
    go_wp2
    go_ret
    exact ⟨re_, up_ HB.out⟩
   ·have H' := Aside0.mk H
    clear H
    go_wp2
    go_loopg [3] kj1 (fun kq v3 w' => ∃ (x3_2 : Int), v3 = .int .i64 x3_2 ∧ Aside0 (spec_IsTableau.l0 kq x3_2 a0_0 l0_1 l0_2 l0_3 = some r) ∧ Aside0 (kq ≤ kj1) ∧ Aside0 (w'.heap[gb227]? = some (.cells #[.string a0_0, (.slice A0_1 l0_1.length c0_1), (.slice A0_2 l0_2.length c0_2), (.slice A0_3 l0_3.length c0_3)] 38 (0, 0))) ∧ Aside0 (Below w.heap.size w w'))
    case atStart => exact ⟨(0), rs_, H', ⟨Nat.le_refl _⟩, ⟨up_ BK227.out⟩, ⟨up_ HB.out⟩⟩
    case round =>
     clear H'
     try clear c2
     try clear p2
     try clear c3
     try clear c4
     try clear c5
     try clear c7
     try clear c9
     try clear c21
     try clear hcz10_0
     try clear hcz10_1
     try clear hcz10_2
     try clear hcz10_3
     try clear hcz12_0
     try clear hcz12_1
     try clear hcz12_2
     try clear hcz12_3
     try clear hcz13_0
     try clear hcz13_1
     try clear hcz13_2
     try clear hcz13_3
     try clear hcz15_0
     try clear hcz15_1
     try clear hcz15_2
     try clear hcz15_3
     try clear hcz16_0
     try clear hcz16_1
     try clear hcz16_2
     try clear hcz16_3
     try clear hcz18_0
     try clear hcz18_1
     try clear hcz18_2
     try clear hcz18_3
     try clear hcz19_0
     try clear hcz19_1
     try clear hcz19_2
     try clear hcz19_3
     try clear hfz10_0
     try clear hfz10_1
     try clear hfz10_2
     try clear hfz10_3
     try clear hfz12_0
     try clear hfz12_1
     try clear hfz12_2
     try clear hfz12_3
     try clear hfz13_0
     try clear hfz13_1
     try clear hfz13_2
     try clear hfz13_3
     try clear hfz15_0
     try clear hfz15_1
     try clear hfz15_2
     try clear hfz15_3
     try clear hfz16_0
     try clear hfz16_1
     try clear hfz16_2
     try clear hfz16_3
     try clear hfz18_0
     try clear hfz18_1
     try clear hfz18_2
     try clear hfz18_3
     try clear hfz19_0
     try clear hfz19_1
     try clear hfz19_2
     try clear hfz19_3
     try clear p2
     obtain ⟨x3_2, rfl, HA, HK2, BK227, HB⟩ := hrel
     cases gk with
     | zero => exact absurd HA.out (by simp [spec_IsTableau.l0])
     | succ k2 =>
      have H := HA.out
      clear HA
      simp only [spec_IsTableau.l0] at H
      replace H := its_ H; rcases H with ⟨c22b0, H⟩ | ⟨c22b0, H⟩
      ·replace H := its_ H; rcases H with ⟨c23b0, H⟩ | ⟨_, ⟨⟩⟩
       replace H := bnd_ H; obtain ⟨t232, A24, H⟩ := H
       replace H := ieq_ H; rcases H with ⟨-, c25b0, c25b1, H⟩ | ⟨c25, c25b0, c25b1, H⟩
       ·replace H := bnd_ H; obtain ⟨t234, A26, H⟩ := H
        replace H := itb_ H; rcases H with ⟨rfl, H⟩ | ⟨rfl, H⟩
        ·replace H := its_ H; rcases H with ⟨c28b0, H⟩ | ⟨_, ⟨⟩⟩
         replace H := bnd_ H; obtain ⟨t237, A29, H⟩ := H
         replace H := bnd_ H; obtain ⟨t240, A30, H⟩ := H
         replace H := itb_ H; rcases H with ⟨rfl, H⟩ | ⟨rfl, H⟩
         ·have H' := Aside0.mk H
          clear H
          obtain ⟨hcz32_0, hcz32_1, hcz32_2, hcz32_3⟩ := c4_ BK227
          have hfz32_0 := blk_frozen BK227.out 0
          have hfz32_1 := blk_frozen BK227.out 1
          have hfz32_2 := blk_frozen BK227.out 2
          have hfz32_3 := blk_frozen BK227.out 3
          try go_wp2
          have n0_ := Aside0.mk (blk_drew BK227.out)
          have n1_ := Aside0.mk (below_drew1 HB.out)
          clear BK227
          clear HB
          have BK227 := n0_
          have HB := n1_
          clear n0_ n1_
          have p231 : 0 ≤ (x3_2 : Int) := od_
          have q231 : x3_2 < (l0_2.length : Int) := od_
          obtain ⟨ad231, A231_0, c231_0, e231, hx231_0, hl231_0, hi231_0⟩ := at_T50 HR0_2.out x3_2 p231 q231
          have hw231_0 := hx231_0
          cases e231
          replace hx231_0 := bh_ HB hx231_0
          have HR231_0 := Aside0.mk hi231_0
          have HC231_0 := Aside0.mk hl231_0
          clear hi231_0 hl231_0
          replace p231 := eq_true p231
          replace q231 := eq_true q231
          have p233 : 0 ≤ (x3_2 : Int) := od_
          have q233 : x3_2 < (l0_2.length : Int) := od_
          obtain ⟨ad233, A233_0, c233_0, e233, hx233_0, hl233_0, hi233_0⟩ := at_T50 HR0_2.out x3_2 p233 q233
          have hw233_0 := hx233_0
          obtain rfl : ad231 = ad233 := (by injection e233)
          obtain ⟨rfl, rfl⟩ := sl_ (hw231_0.symm.trans hx233_0)
          replace hx233_0 := bh_ HB hx233_0
          have HR233_0 := Aside0.mk hi233_0
          have HC233_0 := Aside0.mk hl233_0
          clear hi233_0 hl233_0
          replace p233 := eq_true p233
          replace q233 := eq_true q233
          have p235 : 0 ≤ (x3_2 : Int) := od_
          have q235 : x3_2 < (l0_3.length : Int) := od_
          obtain ⟨ad235, A235_0, c235_0, e235, hx235_0, hl235_0, hi235_0⟩ := at_L6 HR0_3.out x3_2 p235 q235
          have hw235_0 := hx235_0
          cases e235
          replace hx235_0 := bh_ HB hx235_0
          have HR235_0 := Aside0.mk hi235_0
          have HC235_0 := Aside0.mk hl235_0
          clear hi235_0 hl235_0
          replace p235 := eq_true p235
          replace q235 := eq_true q235
          have p236 : 0 ≤ (x3_2 : Int) := od_
          have q236 : x3_2 < (l0_2.length : Int) := od_
          obtain ⟨ad236, A236_0, c236_0, e236, hx236_0, hl236_0, hi236_0⟩ := at_T50 HR0_2.out x3_2 p236 q236
          have hw236_0 := hx236_0
          obtain rfl : ad231 = ad236 := (by injection e236)
          obtain ⟨rfl, rfl⟩ := sl_ (hw231_0.symm.trans hx236_0)
          replace hx236_0 := bh_ HB hx236_0
          have HR236_0 := Aside0.mk hi236_0
          have HC236_0 := Aside0.mk hl236_0
          clear hi236_0 hl236_0
          replace p236 := eq_true p236
          replace q236 := eq_true q236
          refine start_ (n := 35) (S := fun w' => w'.cell? ⟨gb227, 0, none⟩ = some (.string a0_0) ∧ w'.cell? ⟨gb227, 1, none⟩ = some (.slice A0_1 l0_1.length c0_1) ∧ w'.cell? ⟨gb227, 2, none⟩ = some (.slice (some ad231) l0_2.length c0_2) ∧ w'.cell? ⟨gb227, 3, none⟩ = some (.slice (some ad235) l0_3.length c0_3) ∧ w'.cell? (ad231.add (x3_2).toNat) = some (.slice A231_0 ((rd_T50 l0_2 x3_2).f0).length c231_0) ∧ w'.cell? (ad231.add (x3_2).toNat) = some (.slice A231_0 ((rd_T50 l0_2 x3_2).f0).length c231_0) ∧ w'.cell? (ad235.add (x3_2).toNat) = some (.slice A235_0 (rd_L6 l0_3 x3_2).length c235_0) ∧ w'.cell? (ad231.add (x3_2).toNat) = some (.slice A231_0 ((rd_T50 l0_2 x3_2).f0).length c231_0)) (ds := []) #[false, false, false, false, false, false, false, false, false, false, false, false, false, false, false, false, false, false, false, false, false, false, false, false, false, false, false, false, false, false, false, false, false, false, false] (by kernel_rfl) rfl rfl ⟨(blk_cell BK227.out 0).trans rfl, (blk_cell BK227.out 1).trans rfl, (blk_cell BK227.out 2).trans rfl, (blk_cell BK227.out 3).trans rfl, (bh_ HB hw231_0 :), (bh_ HB hw233_0 :), (bh_ HB hw235_0 :), (bh_ HB hw236_0 :)⟩ (fun hHeld => ?_); refine with_tabW spec_IsTableau.tab6 spec_IsTableau.bits6 (fun HT_ HW_ => ?_)
          generalize wr.drew = w33 at BK227 HB HR231_0 HR233_0 HR235_0 HR236_0 hx231_0 hx233_0 hx235_0 hx236_0 hHeld ⊢
          refine pu_ 0 (some 37) ?_
          refine pu_ 2 (some 39) ?_
          refine pu_ 6 (some 43) ?_
          refine tk_ 1 (some 38) hHeld ?_
          refine pu_ 3 (some 40) ?_
          refine tk_ 4 (some 41) hHeld ?_
          refine tk_ 7 (some 44) hHeld ?_
          refine one_ (i := 5) (N := some 42) #[true, true, true, true, true, true, true, true, false, false, false, false, false, false, false, false, false, false, false, false, false, false, false, false, false, false, false, false, false, false, false, false, false, false, false] rfl rfl (one_of HT_.out (by kernel_rfl)) (by decide) (fun K hK => ?_)
          refine goes_ Tryz.func59 (by kernel_rfl) rfl #[.agg #[.slice A231_0 ((rd_T50 l0_2 x3_2).f0).length c231_0]] (by rfl) rfl rfl am_ ?_
          with_reducible refine (spec_InputOf.calls k2 _ _ ((rd_T50 l0_2 x3_2).f0) t232 _ ?side1 ?side2 A24.out).mono ?_
          (case side1 => exact Kd.C_below HR231_0.out (up_ HB.out))
          (case side2 => exact HC231_0.out)
          rintro e w34 ⟨rfl, hb⟩
          refine ⟨_, rfl, ?_⟩
          have n0_ := bb_ BK227 hb
          have n1_ := bs_ HB hb
          clear BK227
          clear HB
          have BK227 := n0_
          have HB := n1_
          clear n0_ n1_
          (try clear hb)
          (try clear hb2)
          (try clear hk)
          (try clear hi)
          refine hK.out _ _ ⟨(blk_cell BK227.out 0).trans rfl, (blk_cell BK227.out 1).trans rfl, (blk_cell BK227.out 2).trans rfl, (blk_cell BK227.out 3).trans rfl, (bh_ HB hw231_0 :), (bh_ HB hw233_0 :), (bh_ HB hw235_0 :), (bh_ HB hw236_0 :)⟩ (fun hHeld => ?_)
          clear hK K
          refine nm_ ?_
          refine pu_ 8 (some 45) ?_
          refine pu_ 9 (some 46) ?_
          refine pu_ 10 (some 47) ?_
          refine pu_ 12 (some 49) ?_
          refine tk_ 11 (some 48) hHeld ?_
          refine pu_ 13 (some 50) ?_
          refine tk_ 14 (some 51) hHeld ?_
          refine one_ (i := 15) (N := some 52) #[true, true, true, true, true, true, true, true, true, true, true, true, true, true, true, true, false, false, false, false, false, false, false, false, false, false, false, false, false, false, false, false, false, false, false] rfl rfl (one_of HT_.out (by kernel_rfl)) (by decide) (fun K hK => ?_)
          refine goes_ Tryz.func60 (by kernel_rfl) rfl #[.agg #[.slice A231_0 ((rd_T50 l0_2 x3_2).f0).length c231_0]] (by rfl) rfl rfl am_ ?_
          with_reducible refine (spec_IsCandidate.calls k2 _ _ ((rd_T50 l0_2 x3_2).f0) true _ ?side1 ?side2 A26.out).mono ?_
          (case side1 => exact Kd.C_below HR233_0.out (up_ HB.out))
          (case side2 => exact HC233_0.out)
          rintro e w35 ⟨rfl, hb⟩
          refine ⟨_, rfl, ?_⟩
          have n0_ := bb_ BK227 hb
          have n1_ := bs_ HB hb
          clear BK227
          clear HB
          have BK227 := n0_
          have HB := n1_
          clear n0_ n1_
          (try clear hb)
          (try clear hb2)
          (try clear hk)
          (try clear hi)
          refine hK.out _ _ ⟨(blk_cell BK227.out 0).trans rfl, (blk_cell BK227.out 1).trans rfl, (blk_cell BK227.out 2).trans rfl, (blk_cell BK227.out 3).trans rfl, (bh_ HB hw231_0 :), (bh_ HB hw233_0 :), (bh_ HB hw235_0 :), (bh_ HB hw236_0 :)⟩ (fun hHeld => ?_)
          clear hK K
          refine nm_ ?_
          refine pu_ 16 (some 53) ?_
          refine pu_ 17 (some 54) ?_
          refine pu_ 18 (some 55) ?_
          refine pu_ 19 (some 56) ?_
          refine pu_ 21 (some 58) ?_
          refine pu_ 24 (some 61) ?_
          refine pu_ 26 (some 63) ?_
          refine pu_ 28 (some 65) ?_
          refine tk_ 20 (some 57) hHeld ?_
          refine pu_ 22 (some 59) ?_
          refine tk_ 23 (some 60) hHeld ?_
          refine tk_ 25 (some 62) hHeld ?_
          refine tk_ 27 (some 64) hHeld ?_
          refine pu_ 29 (some 66) ?_
          refine tk_ 30 (some 67) hHeld ?_
          refine one_ (i := 31) (N := some 68) #[true, true, true, true, true, true, true, true, true, true, true, true, true, true, true, true, true, true, true, true, true, true, true, true, true, true, true, true, true, true, true, true, false, false, false] rfl rfl (one_of HT_.out (by kernel_rfl)) (by decide) (fun K hK => ?_)
          refine goes_ Tryz.func52 (by kernel_rfl) rfl #[.slice A0_1 l0_1.length c0_1, .agg #[.slice A231_0 ((rd_T50 l0_2 x3_2).f0).length c231_0]] (by rfl) rfl rfl am_ ?_
          with_reducible refine (spec_ProfileOf.calls k2 _ _ l0_1 _ _ ((rd_T50 l0_2 x3_2).f0) t237 _ ?side1 ?side2 ?side3 ?side4 A29.out).mono ?_
          (case side1 => exact Kd.C_below HR0_1.out (up_ HB.out))
          (case side2 => exact HC0_1.out)
          (case side3 => exact Kd.C_below HR236_0.out (up_ HB.out))
          (case side4 => exact HC236_0.out)
          rintro e w36 ⟨v238, rfl, ho0, hb⟩
          refine ⟨_, rfl, ?_⟩
          have n0_ := Aside0.mk (Kd.R_lower ho0 (below_size (up_ HB.out)))
          have n1_ := bb_ BK227 hb
          have n2_ := bs_ HB hb
          clear BK227
          clear HB
          have HO239 := n0_
          have BK227 := n1_
          have HB := n2_
          clear n0_ n1_ n2_
          (try clear hb)
          (try clear hb2)
          (try clear hk)
          (try clear hi)
          (try clear ho0)
          obtain ⟨Ao37, co37, eo37⟩ := Kd.R_slice HO239.out
          (first | subst eo37 | (injection eo37 with f1_ f2_ f3_; have f4_ := f1_.symm; have f5_ := f3_.symm; clear f1_ f2_ f3_; subst f4_; subst f5_))
          refine hK.out _ _ ⟨(blk_cell BK227.out 0).trans rfl, (blk_cell BK227.out 1).trans rfl, (blk_cell BK227.out 2).trans rfl, (blk_cell BK227.out 3).trans rfl, (bh_ HB hw231_0 :), (bh_ HB hw233_0 :), (bh_ HB hw235_0 :), (bh_ HB hw236_0 :)⟩ (fun hHeld => ?_)
          clear hK K
          refine nm_ ?_
          refine one_ (i := 32) (N := some 69) #[true, true, true, true, true, true, true, true, true, true, true, true, true, true, true, true, true, true, true, true, true, true, true, true, true, true, true, true, true, true, true, true, true, false, false] rfl rfl (one_of HT_.out (by kernel_rfl)) (by decide) (fun K hK => ?_)
          refine goes_ Tryz.func61 (by kernel_rfl) rfl #[.slice A235_0 (rd_L6 l0_3 x3_2).length c235_0, .slice Ao37 t237.length co37] (by rfl) rfl rfl am_ ?_
          with_reducible refine (spec_l11Same.calls k2 _ _ (rd_L6 l0_3 x3_2) _ _ t237 true _ ?side1 ?side2 ?side3 ?side4 A30.out).mono ?_
          (case side1 => exact Kd.C_below HR235_0.out (up_ HB.out))
          (case side2 => exact HC235_0.out)
          (case side3 => repeat (first | exact (Kd.R_reads' HO239.out).2.2 | (with_reducible refine Kd.C_alloc ?_ _) | (with_reducible refine Kd.C_drewN ?_ _) | (with_reducible refine Kd.C_drew ?_)))
          (case side4 => exact (Kd.R_reads' HO239.out).2.1)
          rintro e w' ⟨rfl, ⟨nd, rfl⟩⟩
          refine ⟨_, rfl, ?_⟩
          refine hK.out _ _ ⟨(blk_cell BK227.out 0).trans rfl, (blk_cell BK227.out 1).trans rfl, (blk_cell BK227.out 2).trans rfl, (blk_cell BK227.out 3).trans rfl, (bh_ HB hw231_0 :), (bh_ HB hw233_0 :), (bh_ HB hw235_0 :), (bh_ HB hw236_0 :)⟩ (fun hHeld => ?_)
          clear hK K
          refine nm_ ?_
          refine pu_ 33 (some 70) ?_
          refine pu_ 34 (some 71) ?_
          refine done_ (done_of HT_.out (by kernel_rfl)) ?_
          try go_wp2
          go_roundg k2
          case measure => have := HJ1.out; have := HK2.out; omega
          case rel => exact ⟨(wrap64 (x3_2 + 1)), rs_, H', ⟨by have := HJ1.out; have := HK2.out; omega⟩, ⟨up_ BK227.out⟩, ⟨up_ HB.out⟩⟩
         ·obtain rfl := Option.some.inj H
          obtain ⟨hcz38_0, hcz38_1, hcz38_2, hcz38_3⟩ := c4_ BK227
          have hfz38_0 := blk_frozen BK227.out 0
          have hfz38_1 := blk_frozen BK227.out 1
          have hfz38_2 := blk_frozen BK227.out 2
          have hfz38_3 := blk_frozen BK227.out 3
          try go_wp2
          have n0_ := Aside0.mk (blk_drew BK227.out)
          have n1_ := Aside0.mk (below_drew1 HB.out)
          clear BK227
          clear HB
          have BK227 := n0_
          have HB := n1_
          clear n0_ n1_
          have p231 : 0 ≤ (x3_2 : Int) := od_
          have q231 : x3_2 < (l0_2.length : Int) := od_
          obtain ⟨ad231, A231_0, c231_0, e231, hx231_0, hl231_0, hi231_0⟩ := at_T50 HR0_2.out x3_2 p231 q231
          have hw231_0 := hx231_0
          cases e231
          replace hx231_0 := bh_ HB hx231_0
          have HR231_0 := Aside0.mk hi231_0
          have HC231_0 := Aside0.mk hl231_0
          clear hi231_0 hl231_0
          replace p231 := eq_true p231
          replace q231 := eq_true q231
          have p233 : 0 ≤ (x3_2 : Int) := od_
          have q233 : x3_2 < (l0_2.length : Int) := od_
          obtain ⟨ad233, A233_0, c233_0, e233, hx233_0, hl233_0, hi233_0⟩ := at_T50 HR0_2.out x3_2 p233 q233
          have hw233_0 := hx233_0
          obtain rfl : ad231 = ad233 := (by injection e233)
          obtain ⟨rfl, rfl⟩ := sl_ (hw231_0.symm.trans hx233_0)
          replace hx233_0 := bh_ HB hx233_0
          have HR233_0 := Aside0.mk hi233_0
          have HC233_0 := Aside0.mk hl233_0
          clear hi233_0 hl233_0
          replace p233 := eq_true p233
          replace q233 := eq_true q233
          have p235 : 0 ≤ (x3_2 : Int) := od_
          have q235 : x3_2 < (l0_3.length : Int) := od_
          obtain ⟨ad235, A235_0, c235_0, e235, hx235_0, hl235_0, hi235_0⟩ := at_L6 HR0_3.out x3_2 p235 q235
          have hw235_0 := hx235_0
          cases e235
          replace hx235_0 := bh_ HB hx235_0
          have HR235_0 := Aside0.mk hi235_0
          have HC235_0 := Aside0.mk hl235_0
          clear hi235_0 hl235_0
          replace p235 := eq_true p235
          replace q235 := eq_true q235
          have p236 : 0 ≤ (x3_2 : Int) := od_
          have q236 : x3_2 < (l0_2.length : Int) := od_
          obtain ⟨ad236, A236_0, c236_0, e236, hx236_0, hl236_0, hi236_0⟩ := at_T50 HR0_2.out x3_2 p236 q236
          have hw236_0 := hx236_0
          obtain rfl : ad231 = ad236 := (by injection e236)
          obtain ⟨rfl, rfl⟩ := sl_ (hw231_0.symm.trans hx236_0)
          replace hx236_0 := bh_ HB hx236_0
          have HR236_0 := Aside0.mk hi236_0
          have HC236_0 := Aside0.mk hl236_0
          clear hi236_0 hl236_0
          replace p236 := eq_true p236
          replace q236 := eq_true q236
          refine start_ (n := 35) (S := fun w' => w'.cell? ⟨gb227, 0, none⟩ = some (.string a0_0) ∧ w'.cell? ⟨gb227, 1, none⟩ = some (.slice A0_1 l0_1.length c0_1) ∧ w'.cell? ⟨gb227, 2, none⟩ = some (.slice (some ad231) l0_2.length c0_2) ∧ w'.cell? ⟨gb227, 3, none⟩ = some (.slice (some ad235) l0_3.length c0_3) ∧ w'.cell? (ad231.add (x3_2).toNat) = some (.slice A231_0 ((rd_T50 l0_2 x3_2).f0).length c231_0) ∧ w'.cell? (ad231.add (x3_2).toNat) = some (.slice A231_0 ((rd_T50 l0_2 x3_2).f0).length c231_0) ∧ w'.cell? (ad235.add (x3_2).toNat) = some (.slice A235_0 (rd_L6 l0_3 x3_2).length c235_0) ∧ w'.cell? (ad231.add (x3_2).toNat) = some (.slice A231_0 ((rd_T50 l0_2 x3_2).f0).length c231_0)) (ds := []) #[false, false, false, false, false, false, false, false, false, false, false, false, false, false, false, false, false, false, false, false, false, false, false, false, false, false, false, false, false, false, false, false, false, false, false] (by kernel_rfl) rfl rfl ⟨(blk_cell BK227.out 0).trans rfl, (blk_cell BK227.out 1).trans rfl, (blk_cell BK227.out 2).trans rfl, (blk_cell BK227.out 3).trans rfl, (bh_ HB hw231_0 :), (bh_ HB hw233_0 :), (bh_ HB hw235_0 :), (bh_ HB hw236_0 :)⟩ (fun hHeld => ?_); refine with_tabW spec_IsTableau.tab6 spec_IsTableau.bits6 (fun HT_ HW_ => ?_)
          generalize wr.drew = w39 at BK227 HB HR231_0 HR233_0 HR235_0 HR236_0 hx231_0 hx233_0 hx235_0 hx236_0 hHeld ⊢
          refine pu_ 0 (some 37) ?_
          refine pu_ 2 (some 39) ?_
          refine pu_ 6 (some 43) ?_
          refine tk_ 1 (some 38) hHeld ?_
          refine pu_ 3 (some 40) ?_
          refine tk_ 4 (some 41) hHeld ?_
          refine tk_ 7 (some 44) hHeld ?_
          refine one_ (i := 5) (N := some 42) #[true, true, true, true, true, true, true, true, false, false, false, false, false, false, false, false, false, false, false, false, false, false, false, false, false, false, false, false, false, false, false, false, false, false, false] rfl rfl (one_of HT_.out (by kernel_rfl)) (by decide) (fun K hK => ?_)
          refine goes_ Tryz.func59 (by kernel_rfl) rfl #[.agg #[.slice A231_0 ((rd_T50 l0_2 x3_2).f0).length c231_0]] (by rfl) rfl rfl am_ ?_
          with_reducible refine (spec_InputOf.calls k2 _ _ ((rd_T50 l0_2 x3_2).f0) t232 _ ?side1 ?side2 A24.out).mono ?_
          (case side1 => exact Kd.C_below HR231_0.out (up_ HB.out))
          (case side2 => exact HC231_0.out)
          rintro e w40 ⟨rfl, hb⟩
          refine ⟨_, rfl, ?_⟩
          have n0_ := bb_ BK227 hb
          have n1_ := bs_ HB hb
          clear BK227
          clear HB
          have BK227 := n0_
          have HB := n1_
          clear n0_ n1_
          (try clear hb)
          (try clear hb2)
          (try clear hk)
          (try clear hi)
          refine hK.out _ _ ⟨(blk_cell BK227.out 0).trans rfl, (blk_cell BK227.out 1).trans rfl, (blk_cell BK227.out 2).trans rfl, (blk_cell BK227.out 3).trans rfl, (bh_ HB hw231_0 :), (bh_ HB hw233_0 :), (bh_ HB hw235_0 :), (bh_ HB hw236_0 :)⟩ (fun hHeld => ?_)
          clear hK K
          refine nm_ ?_
          refine pu_ 8 (some 45) ?_
          refine pu_ 9 (some 46) ?_
          refine pu_ 10 (some 47) ?_
          refine pu_ 12 (some 49) ?_
          refine tk_ 11 (some 48) hHeld ?_
          refine pu_ 13 (some 50) ?_
          refine tk_ 14 (some 51) hHeld ?_
          refine one_ (i := 15) (N := some 52) #[true, true, true, true, true, true, true, true, true, true, true, true, true, true, true, true, false, false, false, false, false, false, false, false, false, false, false, false, false, false, false, false, false, false, false] rfl rfl (one_of HT_.out (by kernel_rfl)) (by decide) (fun K hK => ?_)
          refine goes_ Tryz.func60 (by kernel_rfl) rfl #[.agg #[.slice A231_0 ((rd_T50 l0_2 x3_2).f0).length c231_0]] (by rfl) rfl rfl am_ ?_
          with_reducible refine (spec_IsCandidate.calls k2 _ _ ((rd_T50 l0_2 x3_2).f0) true _ ?side1 ?side2 A26.out).mono ?_
          (case side1 => exact Kd.C_below HR233_0.out (up_ HB.out))
          (case side2 => exact HC233_0.out)
          rintro e w41 ⟨rfl, hb⟩
          refine ⟨_, rfl, ?_⟩
          have n0_ := bb_ BK227 hb
          have n1_ := bs_ HB hb
          clear BK227
          clear HB
          have BK227 := n0_
          have HB := n1_
          clear n0_ n1_
          (try clear hb)
          (try clear hb2)
          (try clear hk)
          (try clear hi)
          refine hK.out _ _ ⟨(blk_cell BK227.out 0).trans rfl, (blk_cell BK227.out 1).trans rfl, (blk_cell BK227.out 2).trans rfl, (blk_cell BK227.out 3).trans rfl, (bh_ HB hw231_0 :), (bh_ HB hw233_0 :), (bh_ HB hw235_0 :), (bh_ HB hw236_0 :)⟩ (fun hHeld => ?_)
          clear hK K
          refine nm_ ?_
          refine pu_ 16 (some 53) ?_
          refine pu_ 17 (some 54) ?_
          refine pu_ 18 (some 55) ?_
          refine pu_ 19 (some 56) ?_
          refine pu_ 21 (some 58) ?_
          refine pu_ 24 (some 61) ?_
          refine pu_ 26 (some 63) ?_
          refine pu_ 28 (some 65) ?_
          refine tk_ 20 (some 57) hHeld ?_
          refine pu_ 22 (some 59) ?_
          refine tk_ 23 (some 60) hHeld ?_
          refine tk_ 25 (some 62) hHeld ?_
          refine tk_ 27 (some 64) hHeld ?_
          refine pu_ 29 (some 66) ?_
          refine tk_ 30 (some 67) hHeld ?_
          refine one_ (i := 31) (N := some 68) #[true, true, true, true, true, true, true, true, true, true, true, true, true, true, true, true, true, true, true, true, true, true, true, true, true, true, true, true, true, true, true, true, false, false, false] rfl rfl (one_of HT_.out (by kernel_rfl)) (by decide) (fun K hK => ?_)
          refine goes_ Tryz.func52 (by kernel_rfl) rfl #[.slice A0_1 l0_1.length c0_1, .agg #[.slice A231_0 ((rd_T50 l0_2 x3_2).f0).length c231_0]] (by rfl) rfl rfl am_ ?_
          with_reducible refine (spec_ProfileOf.calls k2 _ _ l0_1 _ _ ((rd_T50 l0_2 x3_2).f0) t237 _ ?side1 ?side2 ?side3 ?side4 A29.out).mono ?_
          (case side1 => exact Kd.C_below HR0_1.out (up_ HB.out))
          (case side2 => exact HC0_1.out)
          (case side3 => exact Kd.C_below HR236_0.out (up_ HB.out))
          (case side4 => exact HC236_0.out)
          rintro e w42 ⟨v238, rfl, ho0, hb⟩
          refine ⟨_, rfl, ?_⟩
          have n0_ := Aside0.mk (Kd.R_lower ho0 (below_size (up_ HB.out)))
          have n1_ := bb_ BK227 hb
          have n2_ := bs_ HB hb
          clear BK227
          clear HB
          have HO239 := n0_
          have BK227 := n1_
          have HB := n2_
          clear n0_ n1_ n2_
          (try clear hb)
          (try clear hb2)
          (try clear hk)
          (try clear hi)
          (try clear ho0)
          obtain ⟨Ao43, co43, eo43⟩ := Kd.R_slice HO239.out
          (first | subst eo43 | (injection eo43 with f1_ f2_ f3_; have f4_ := f1_.symm; have f5_ := f3_.symm; clear f1_ f2_ f3_; subst f4_; subst f5_))
          refine hK.out _ _ ⟨(blk_cell BK227.out 0).trans rfl, (blk_cell BK227.out 1).trans rfl, (blk_cell BK227.out 2).trans rfl, (blk_cell BK227.out 3).trans rfl, (bh_ HB hw231_0 :), (bh_ HB hw233_0 :), (bh_ HB hw235_0 :), (bh_ HB hw236_0 :)⟩ (fun hHeld => ?_)
          clear hK K
          refine nm_ ?_
          refine one_ (i := 32) (N := some 69) #[true, true, true, true, true, true, true, true, true, true, true, true, true, true, true, true, true, true, true, true, true, true, true, true, true, true, true, true, true, true, true, true, true, false, false] rfl rfl (one_of HT_.out (by kernel_rfl)) (by decide) (fun K hK => ?_)
          refine goes_ Tryz.func61 (by kernel_rfl) rfl #[.slice A235_0 (rd_L6 l0_3 x3_2).length c235_0, .slice Ao43 t237.length co43] (by rfl) rfl rfl am_ ?_
          with_reducible refine (spec_l11Same.calls k2 _ _ (rd_L6 l0_3 x3_2) _ _ t237 false _ ?side1 ?side2 ?side3 ?side4 A30.out).mono ?_
          (case side1 => exact Kd.C_below HR235_0.out (up_ HB.out))
          (case side2 => exact HC235_0.out)
          (case side3 => repeat (first | exact (Kd.R_reads' HO239.out).2.2 | (with_reducible refine Kd.C_alloc ?_ _) | (with_reducible refine Kd.C_drewN ?_ _) | (with_reducible refine Kd.C_drew ?_)))
          (case side4 => exact (Kd.R_reads' HO239.out).2.1)
          rintro e w' ⟨rfl, ⟨nd, rfl⟩⟩
          refine ⟨_, rfl, ?_⟩
          refine hK.out _ _ ⟨(blk_cell BK227.out 0).trans rfl, (blk_cell BK227.out 1).trans rfl, (blk_cell BK227.out 2).trans rfl, (blk_cell BK227.out 3).trans rfl, (bh_ HB hw231_0 :), (bh_ HB hw233_0 :), (bh_ HB hw235_0 :), (bh_ HB hw236_0 :)⟩ (fun hHeld => ?_)
          clear hK K
          refine nm_ ?_
          refine pu_ 33 (some 70) ?_
          refine pu_ 34 (some 71) ?_
          refine done_ (done_of HT_.out (by kernel_rfl)) ?_
          try go_wp2
          go_ret
          exact ⟨re_, up_ HB.out⟩
        ·obtain rfl := Option.some.inj H
         obtain ⟨hcz44_0, hcz44_1, hcz44_2, hcz44_3⟩ := c4_ BK227
         have hfz44_0 := blk_frozen BK227.out 0
         have hfz44_1 := blk_frozen BK227.out 1
         have hfz44_2 := blk_frozen BK227.out 2
         have hfz44_3 := blk_frozen BK227.out 3
         try go_wp2
         have n0_ := Aside0.mk (blk_drew BK227.out)
         have n1_ := Aside0.mk (below_drew1 HB.out)
         clear BK227
         clear HB
         have BK227 := n0_
         have HB := n1_
         clear n0_ n1_
         have p231 : 0 ≤ (x3_2 : Int) := od_
         have q231 : x3_2 < (l0_2.length : Int) := od_
         obtain ⟨ad231, A231_0, c231_0, e231, hx231_0, hl231_0, hi231_0⟩ := at_T50 HR0_2.out x3_2 p231 q231
         have hw231_0 := hx231_0
         cases e231
         replace hx231_0 := bh_ HB hx231_0
         have HR231_0 := Aside0.mk hi231_0
         have HC231_0 := Aside0.mk hl231_0
         clear hi231_0 hl231_0
         replace p231 := eq_true p231
         replace q231 := eq_true q231
         have p233 : 0 ≤ (x3_2 : Int) := od_
         have q233 : x3_2 < (l0_2.length : Int) := od_
         obtain ⟨ad233, A233_0, c233_0, e233, hx233_0, hl233_0, hi233_0⟩ := at_T50 HR0_2.out x3_2 p233 q233
         have hw233_0 := hx233_0
         obtain rfl : ad231 = ad233 := (by injection e233)
         obtain ⟨rfl, rfl⟩ := sl_ (hw231_0.symm.trans hx233_0)
         replace hx233_0 := bh_ HB hx233_0
         have HR233_0 := Aside0.mk hi233_0
         have HC233_0 := Aside0.mk hl233_0
         clear hi233_0 hl233_0
         replace p233 := eq_true p233
         replace q233 := eq_true q233
         refine start_ (n := 35) (S := fun w' => w'.cell? ⟨gb227, 0, none⟩ = some (.string a0_0) ∧ w'.cell? ⟨gb227, 1, none⟩ = some (.slice A0_1 l0_1.length c0_1) ∧ w'.cell? ⟨gb227, 2, none⟩ = some (.slice (some ad231) l0_2.length c0_2) ∧ w'.cell? ⟨gb227, 3, none⟩ = some (.slice A0_3 l0_3.length c0_3) ∧ w'.cell? (ad231.add (x3_2).toNat) = some (.slice A231_0 ((rd_T50 l0_2 x3_2).f0).length c231_0) ∧ w'.cell? (ad231.add (x3_2).toNat) = some (.slice A231_0 ((rd_T50 l0_2 x3_2).f0).length c231_0)) (ds := []) #[false, false, false, false, false, false, false, false, false, false, false, false, false, false, false, false, false, false, false, false, false, false, false, false, false, false, false, false, false, false, false, false, false, false, false] (by kernel_rfl) rfl rfl ⟨(blk_cell BK227.out 0).trans rfl, (blk_cell BK227.out 1).trans rfl, (blk_cell BK227.out 2).trans rfl, (blk_cell BK227.out 3).trans rfl, (bh_ HB hw231_0 :), (bh_ HB hw233_0 :)⟩ (fun hHeld => ?_); refine with_tabW spec_IsTableau.tab6 spec_IsTableau.bits6 (fun HT_ HW_ => ?_)
         generalize wr.drew = w45 at BK227 HB HR231_0 HR233_0 hx231_0 hx233_0 hHeld ⊢
         refine pu_ 0 (some 37) ?_
         refine pu_ 2 (some 39) ?_
         refine pu_ 6 (some 43) ?_
         refine tk_ 1 (some 38) hHeld ?_
         refine pu_ 3 (some 40) ?_
         refine tk_ 4 (some 41) hHeld ?_
         refine tk_ 7 (some 44) hHeld ?_
         refine one_ (i := 5) (N := some 42) #[true, true, true, true, true, true, true, true, false, false, false, false, false, false, false, false, false, false, false, false, false, false, false, false, false, false, false, false, false, false, false, false, false, false, false] rfl rfl (one_of HT_.out (by kernel_rfl)) (by decide) (fun K hK => ?_)
         refine goes_ Tryz.func59 (by kernel_rfl) rfl #[.agg #[.slice A231_0 ((rd_T50 l0_2 x3_2).f0).length c231_0]] (by rfl) rfl rfl am_ ?_
         with_reducible refine (spec_InputOf.calls k2 _ _ ((rd_T50 l0_2 x3_2).f0) t232 _ ?side1 ?side2 A24.out).mono ?_
         (case side1 => exact Kd.C_below HR231_0.out (up_ HB.out))
         (case side2 => exact HC231_0.out)
         rintro e w46 ⟨rfl, hb⟩
         refine ⟨_, rfl, ?_⟩
         have n0_ := bb_ BK227 hb
         have n1_ := bs_ HB hb
         clear BK227
         clear HB
         have BK227 := n0_
         have HB := n1_
         clear n0_ n1_
         (try clear hb)
         (try clear hb2)
         (try clear hk)
         (try clear hi)
         refine hK.out _ _ ⟨(blk_cell BK227.out 0).trans rfl, (blk_cell BK227.out 1).trans rfl, (blk_cell BK227.out 2).trans rfl, (blk_cell BK227.out 3).trans rfl, (bh_ HB hw231_0 :), (bh_ HB hw233_0 :)⟩ (fun hHeld => ?_)
         clear hK K
         refine nm_ ?_
         refine pu_ 8 (some 45) ?_
         refine pu_ 9 (some 46) ?_
         refine pu_ 10 (some 47) ?_
         refine pu_ 12 (some 49) ?_
         refine tk_ 11 (some 48) hHeld ?_
         refine pu_ 13 (some 50) ?_
         refine tk_ 14 (some 51) hHeld ?_
         refine one_ (i := 15) (N := some 52) #[true, true, true, true, true, true, true, true, true, true, true, true, true, true, true, true, false, false, false, false, false, false, false, false, false, false, false, false, false, false, false, false, false, false, false] rfl rfl (one_of HT_.out (by kernel_rfl)) (by decide) (fun K hK => ?_)
         refine goes_ Tryz.func60 (by kernel_rfl) rfl #[.agg #[.slice A231_0 ((rd_T50 l0_2 x3_2).f0).length c231_0]] (by rfl) rfl rfl am_ ?_
         with_reducible refine (spec_IsCandidate.calls k2 _ _ ((rd_T50 l0_2 x3_2).f0) false _ ?side1 ?side2 A26.out).mono ?_
         (case side1 => exact Kd.C_below HR233_0.out (up_ HB.out))
         (case side2 => exact HC233_0.out)
         rintro e w47 ⟨rfl, hb⟩
         refine ⟨_, rfl, ?_⟩
         have n0_ := bb_ BK227 hb
         have n1_ := bs_ HB hb
         clear BK227
         clear HB
         have BK227 := n0_
         have HB := n1_
         clear n0_ n1_
         (try clear hb)
         (try clear hb2)
         (try clear hk)
         (try clear hi)
         refine hK.out _ _ ⟨(blk_cell BK227.out 0).trans rfl, (blk_cell BK227.out 1).trans rfl, (blk_cell BK227.out 2).trans rfl, (blk_cell BK227.out 3).trans rfl, (bh_ HB hw231_0 :), (bh_ HB hw233_0 :)⟩ (fun hHeld => ?_)
         clear hK K
         refine nm_ ?_
         refine pu_ 16 (some 53) ?_
         refine pu_ 17 (some 54) ?_
         refine pu_ 18 (some 55) ?_
         refine po_ 19 (some 56) ?_
         refine po_ 20 (some 57) ?_
         refine po_ 21 (some 58) ?_
         refine po_ 22 (some 59) ?_
         refine po_ 23 (some 60) ?_
         refine po_ 24 (some 61) ?_
         refine po_ 25 (some 62) ?_
         refine po_ 26 (some 63) ?_
         refine po_ 27 (some 64) ?_
         refine po_ 28 (some 65) ?_
         refine po_ 29 (some 66) ?_
         refine po_ 30 (some 67) ?_
         refine po_ 31 (some 68) ?_
         refine po_ 32 (some 69) ?_
         refine po_ 33 (some 70) ?_
         refine pu_ 34 (some 71) ?_
         refine done_ (done_of HT_.out (by kernel_rfl)) ?_
         try go_wp2
         go_ret
         exact ⟨re_, up_ HB.out⟩
       ·obtain rfl := Option.some.inj H
        obtain ⟨hcz48_0, hcz48_1, hcz48_2, hcz48_3⟩ := c4_ BK227
        have hfz48_0 := blk_frozen BK227.out 0
        have hfz48_1 := blk_frozen BK227.out 1
        have hfz48_2 := blk_frozen BK227.out 2
        have hfz48_3 := blk_frozen BK227.out 3
        try go_wp2
        have n0_ := Aside0.mk (blk_drew BK227.out)
        have n1_ := Aside0.mk (below_drew1 HB.out)
        clear BK227
        clear HB
        have BK227 := n0_
        have HB := n1_
        clear n0_ n1_
        have p231 : 0 ≤ (x3_2 : Int) := od_
        have q231 : x3_2 < (l0_2.length : Int) := od_
        obtain ⟨ad231, A231_0, c231_0, e231, hx231_0, hl231_0, hi231_0⟩ := at_T50 HR0_2.out x3_2 p231 q231
        have hw231_0 := hx231_0
        cases e231
        replace hx231_0 := bh_ HB hx231_0
        have HR231_0 := Aside0.mk hi231_0
        have HC231_0 := Aside0.mk hl231_0
        clear hi231_0 hl231_0
        replace p231 := eq_true p231
        replace q231 := eq_true q231
        refine start_ (n := 35) (S := fun w' => w'.cell? ⟨gb227, 0, none⟩ = some (.string a0_0) ∧ w'.cell? ⟨gb227, 1, none⟩ = some (.slice A0_1 l0_1.length c0_1) ∧ w'.cell? ⟨gb227, 2, none⟩ = some (.slice (some ad231) l0_2.length c0_2) ∧ w'.cell? ⟨gb227, 3, none⟩ = some (.slice A0_3 l0_3.length c0_3) ∧ w'.cell? (ad231.add (x3_2).toNat) = some (.slice A231_0 ((rd_T50 l0_2 x3_2).f0).length c231_0)) (ds := []) #[false, false, false, false, false, false, false, false, false, false, false, false, false, false, false, false, false, false, false, false, false, false, false, false, false, false, false, false, false, false, false, false, false, false, false] (by kernel_rfl) rfl rfl ⟨(blk_cell BK227.out 0).trans rfl, (blk_cell BK227.out 1).trans rfl, (blk_cell BK227.out 2).trans rfl, (blk_cell BK227.out 3).trans rfl, (bh_ HB hw231_0 :)⟩ (fun hHeld => ?_); refine with_tabW spec_IsTableau.tab6 spec_IsTableau.bits6 (fun HT_ HW_ => ?_)
        generalize wr.drew = w49 at BK227 HB HR231_0 hx231_0 hHeld ⊢
        refine pu_ 0 (some 37) ?_
        refine pu_ 2 (some 39) ?_
        refine pu_ 6 (some 43) ?_
        refine tk_ 1 (some 38) hHeld ?_
        refine pu_ 3 (some 40) ?_
        refine tk_ 4 (some 41) hHeld ?_
        refine tk_ 7 (some 44) hHeld ?_
        refine one_ (i := 5) (N := some 42) #[true, true, true, true, true, true, true, true, false, false, false, false, false, false, false, false, false, false, false, false, false, false, false, false, false, false, false, false, false, false, false, false, false, false, false] rfl rfl (one_of HT_.out (by kernel_rfl)) (by decide) (fun K hK => ?_)
        refine goes_ Tryz.func59 (by kernel_rfl) rfl #[.agg #[.slice A231_0 ((rd_T50 l0_2 x3_2).f0).length c231_0]] (by rfl) rfl rfl am_ ?_
        with_reducible refine (spec_InputOf.calls k2 _ _ ((rd_T50 l0_2 x3_2).f0) t232 _ ?side1 ?side2 A24.out).mono ?_
        (case side1 => exact Kd.C_below HR231_0.out (up_ HB.out))
        (case side2 => exact HC231_0.out)
        rintro e w50 ⟨rfl, hb⟩
        refine ⟨_, rfl, ?_⟩
        have n0_ := bb_ BK227 hb
        have n1_ := bs_ HB hb
        clear BK227
        clear HB
        have BK227 := n0_
        have HB := n1_
        clear n0_ n1_
        (try clear hb)
        (try clear hb2)
        (try clear hk)
        (try clear hi)
        refine hK.out _ _ ⟨(blk_cell BK227.out 0).trans rfl, (blk_cell BK227.out 1).trans rfl, (blk_cell BK227.out 2).trans rfl, (blk_cell BK227.out 3).trans rfl, (bh_ HB hw231_0 :)⟩ (fun hHeld => ?_)
        clear hK K
        refine nm_ ?_
        refine pu_ 8 (some 45) ?_
        refine pu_ 9 (some 46) ?_
        refine po_ 10 (some 47) ?_
        refine po_ 11 (some 48) ?_
        refine po_ 12 (some 49) ?_
        refine po_ 13 (some 50) ?_
        refine po_ 14 (some 51) ?_
        refine po_ 15 (some 52) ?_
        refine po_ 16 (some 53) ?_
        refine pu_ 17 (some 54) ?_
        refine pu_ 18 (some 55) ?_
        refine po_ 19 (some 56) ?_
        refine po_ 20 (some 57) ?_
        refine po_ 21 (some 58) ?_
        refine po_ 22 (some 59) ?_
        refine po_ 23 (some 60) ?_
        refine po_ 24 (some 61) ?_
        refine po_ 25 (some 62) ?_
        refine po_ 26 (some 63) ?_
        refine po_ 27 (some 64) ?_
        refine po_ 28 (some 65) ?_
        refine po_ 29 (some 66) ?_
        refine po_ 30 (some 67) ?_
        refine po_ 31 (some 68) ?_
        refine po_ 32 (some 69) ?_
        refine po_ 33 (some 70) ?_
        refine pu_ 34 (some 71) ?_
        refine done_ (done_of HT_.out (by kernel_rfl)) ?_
        try go_wp2
        go_ret
        exact ⟨re_, up_ HB.out⟩
      ·obtain rfl := Option.some.inj H
       obtain ⟨hcz51_0, hcz51_1, hcz51_2, hcz51_3⟩ := c4_ BK227
       have hfz51_0 := blk_frozen BK227.out 0
       have hfz51_1 := blk_frozen BK227.out 1
       have hfz51_2 := blk_frozen BK227.out 2
       have hfz51_3 := blk_frozen BK227.out 3
       go_wp2
       go_ret
       exact ⟨re_, up_ HB.out⟩

end Go.Proofs.YtkddpilambnicaaGreat.PFnExactDifferencesFor
