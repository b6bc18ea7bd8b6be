/- Walks of Go functions that the law FnExactDifferencesFor uses: written by this session's program out of the kit's printer; each shows that a call comes to the answers of the Lean function beside it. Conditions: each contract's own. -/
import Derived.Test.YtkddpilambnicaaGreatPFnExactDifferencesForx0
import Derived.Test.YtkddpilambnicaaGreatPFnExactDifferencesForx12
import Derived.Test.YtkddpilambnicaaGreatPFnExactDifferencesForx13
import Derived.Test.YtkddpilambnicaaGreatPFnExactDifferencesForx18
namespace Go.Proofs.YtkddpilambnicaaGreat.PFnExactDifferencesFor
open Go.RowKit Go.Proofs.YtkddpilambnicaaGreatW.PrintWords Go.Proofs.YtkddpilambnicaaGreatW.PrintLast Go.Proofs.YtkddpilambnicaaGreatW.PrintMore Go.Proofs.YtkddpilambnicaaGreat.Mac Go.Proofs.YtkddpilambnicaaGreat.Law
attribute [local go_sem] max2_int min2_int max_two min_two max_three min_three max_four min_four   -- for this text's walks alone
set_option linter.unusedVariables false
set_option linter.unusedSimpArgs false

/-! ### impl_IsTableau: function 45 -/
mutual
def impl_IsTableau.j0 : Nat → Bool → ByteArray → List ByteArray → List (S50) → List (List Int) → Option (Bool)
 | 0, _, _, _, _, _ => none
 | k + 1, x30, x464000, x464001, x464002, x464003 => if x30 = true then (some false) else (impl_IsTableau.l0 k x464002 (x464002.length : Int) 0 x464000 x464001 x464002 x464003)
def impl_IsTableau.l0 : Nat → List (S50) → Int → Int → ByteArray → List ByteArray → List (S50) → List (List Int) → Option (Bool)
 | 0, _, _, _, _, _, _, _ => none
 | k + 1, x32, x33, x34, x464000, x464001, x464002, x464003 => if x34 < x33 then (if 0 ≤ x34 then (if x34 < (x32.length : Int) then ((impl_IsCandidate.f k ((rd_T50 x32 x34).f0)).bind fun t469 => (if t469 = true then ((impl_InputOf.f k ((rd_T50 x32 x34).f0)).bind fun t470 => (if t470.toList = x464000.toList then (if x34 < (x464003.length : Int) then ((impl_ProfileOf.f k x464001 ((rd_T50 x32 x34).f0)).bind fun t472 => ((slices_Equal_int_int.f k (rd_L6 x464003 x34) t472).bind fun t475 => (if t475 = true then (impl_IsTableau.l0 k x32 x33 (wrap64 (x34 + 1)) x464000 x464001 x464002 x464003) else (some false)))) else (none)) else (some false))) else (some false))) else (none)) else (none)) else (some true)
end
def impl_IsTableau.f (k : Nat) (a0_0 : ByteArray) (l0_1 : List ByteArray) (l0_2 : List (S50)) (l0_3 : List (List Int)) : Option (Bool) := (impl_AreConstraints.f k l0_1).bind fun t464 => (if t464 = true then ((impl_IsForm.f k a0_0).bind fun t465 => (if t465 = true then ((impl_within.f (l0_2.length : Int) 1 250).bind fun t466 => (if t466 = true then (impl_IsTableau.j0 k ((l0_3.length : Int) != (l0_2.length : Int)) a0_0 l0_1 l0_2 l0_3) else (impl_IsTableau.j0 k true a0_0 l0_1 l0_2 l0_3))) else (impl_IsTableau.j0 k true a0_0 l0_1 l0_2 l0_3))) else (impl_IsTableau.j0 k true a0_0 l0_1 l0_2 l0_3))
def impl_IsTableau.T6 : Bool × List (List Nat × List Nat) := (true, [([], []), ([0], [0]), ([1], [1]), ([2, 1], [2]), ([3], [3]), ([4, 3, 3], [3, 4]), ([3], [3]), ([6, 3], [3, 6]), ([5, 7, 3], [3, 5, 7]), ([3, 8], [3, 8]), ([9, 5], [9]), ([10], [10]), ([11, 10], [10, 11]), ([10], [10]), ([12, 13, 10], [10, 12, 13]), ([14, 10], [10, 14]), ([10], [10]), ([16, 10], [10, 16]), ([10], [10]), ([17, 18, 10, 10], [10, 17, 18]), ([15, 19, 19, 10], [10, 15, 19]), ([20, 10], [10, 20]), ([10, 21], [10, 21])])
def impl_IsTableau.B6 : List Nat := [0, 1, 3, 7, 15, 31, 15, 79, 255, 511, 1023, 2047, 4095, 2047, 16383, 32767, 2047, 67583, 2047, 460799, 1048575, 2097151, 4194303]
theorem impl_IsTableau.tab6 : rtab .any (opsOf Tryz.f45 6) = impl_IsTableau.T6 := by kernel_rfl
theorem impl_IsTableau.bits6 : waitsOk impl_IsTableau.T6.2 impl_IsTableau.B6 = true := by kernel_rfl
set_option maxHeartbeats 8000000 in
set_option maxRecDepth 100000 in
theorem impl_IsTableau.calls (k : Nat) (a0_0 : ByteArray) (A0_1 : Option Addr) (c0_1 : Nat) (l0_1 : List ByteArray) (A0_2 : Option Addr) (c0_2 : Nat) (l0_2 : List (S50)) (A0_3 : Option Addr) (c0_3 : Nat) (l0_3 : List (List Int)) (r : Bool) (w : World) (hr0_1 : Kd.C Kd.string w A0_1 l0_1.length l0_1) (hc0_1 : l0_1.length ≤ c0_1) (hr0_2 : Kd.C k50 w A0_2 l0_2.length l0_2) (hc0_2 : l0_2.length ≤ c0_2) (hr0_3 : Kd.C (Kd.slice 3 (Kd.int .i64)) w A0_3 l0_3.length l0_3) (hc0_3 : l0_3.length ≤ c0_3) (h : impl_IsTableau.f k a0_0 l0_1 l0_2 l0_3 = some r) :
  Calls Tryz.prog 45 #[.agg #[.string a0_0, .slice A0_1 l0_1.length c0_1, .slice A0_2 l0_2.length c0_2, .slice A0_3 l0_3.length c0_3]] w fun e w' => e = .returned (.bool r) ∧ Below w.heap.size w w' := by
 have hu38 := Tryz.underlying38
 have hu50 := Tryz.underlying50
 have HR0_1 := Aside0.mk hr0_1
 have HC0_1 := Aside0.mk hc0_1
 clear hr0_1 hc0_1
 have HR0_2 := Aside0.mk hr0_2
 have HC0_2 := Aside0.mk hc0_2
 clear hr0_2 hc0_2
 have HR0_3 := Aside0.mk hr0_3
 have HC0_3 := Aside0.mk hc0_3
 clear hr0_3 hc0_3
 have HB := Aside0.mk (Below.refl w.heap.size w)
 have H : ((impl_AreConstraints.f k l0_1).bind fun t464 => (if t464 = true then ((impl_IsForm.f k a0_0).bind fun t465 => (if t465 = true then ((impl_within.f (l0_2.length : Int) 1 250).bind fun t466 => (if t466 = true then (impl_IsTableau.j0 k ((l0_3.length : Int) != (l0_2.length : Int)) a0_0 l0_1 l0_2 l0_3) else (impl_IsTableau.j0 k true a0_0 l0_1 l0_2 l0_3))) else (impl_IsTableau.j0 k true a0_0 l0_1 l0_2 l0_3))) else (impl_IsTableau.j0 k true a0_0 l0_1 l0_2 l0_3))) = some r := h
 clear h
 have HC2 := Aside0.mk H
 clear H
 go_enter Tryz.func45, Tryz.ntmps45
 go_upto_region 1 with (first | ((refine gd_ 1 ?_); (try (refine gate_guard (by rfl) ?_; dsimp only)); refine bx_ 1 #[.string a0_0, .slice A0_1 l0_1.length c0_1, .slice A0_2 l0_2.length c0_2, .slice A0_3 l0_3.length c0_3] 38 ?_; intro gb463 hg w3 hbox hb; have BK463 := Aside0.mk (hbox); have GW463 := gw_ HB hg; have GE463 := gw_ HB hg; replace HB := bs_ HB hb; clear hb hbox hg))
 (try simp only [Act.put, List.setIfInBounds_toArray, List.set_cons_zero, List.set_cons_succ])
 go_cut [30] (fun v30 wc => ∃ (kq : Nat) (x30_1 : Bool), v30 = .bool x30_1 ∧ Aside0 (impl_IsTableau.j0 kq x30_1 a0_0 l0_1 l0_2 l0_3 = some r) ∧ Aside0 (kq ≤ k) ∧ Aside0 (wc.heap[gb463]? = some (.cells #[.string a0_0, (.slice A0_1 l0_1.length c0_1), (.slice A0_2 l0_2.length c0_2), (.slice A0_3 l0_3.length c0_3)] 38 (0, 0))) ∧ Aside0 (Below w.heap.size w wc))
 case first =>
  have H := HC2.out
  clear HC2
  replace H := bnd_ H; obtain ⟨t464, A4, H⟩ := H
  replace H := itb_ H; rcases H with ⟨rfl, H⟩ | ⟨rfl, H⟩
  ·replace H := bnd_ H; obtain ⟨t465, A6, H⟩ := H
   replace H := itb_ H; rcases H with ⟨rfl, H⟩ | ⟨rfl, H⟩
   ·replace H := bnd_ H; obtain ⟨t466, A8, H⟩ := H
    replace H := itb_ H; rcases H with ⟨rfl, H⟩ | ⟨rfl, H⟩
    ·have H' := Aside0.mk H
     clear H
     obtain ⟨hcz10_0, hcz10_1, hcz10_2, hcz10_3⟩ := c4_ BK463
     have hfz10_0 := blk_frozen BK463.out 0
     have hfz10_1 := blk_frozen BK463.out 1
     have hfz10_2 := blk_frozen BK463.out 2
     have hfz10_3 := blk_frozen BK463.out 3
     go_wp2_with (first | ((refine gc_ 68 ?_); refine gl_ (some 7) Tryz.func68 (impl_AreConstraints.calls k _ _ l0_1 true _ (Kd.C_below HR0_1.out (up_ HB.out)) HC0_1.out A4.out) ?_; rintro e w11 ⟨rfl, hb⟩; refine ⟨_, rfl, ?_⟩; replace BK463 := bb_ BK463 hb; replace HB := bs_ HB hb; (try clear hb); (try clear hb2); (try clear hk); (try clear hi); obtain ⟨hcz12_0, hcz12_1, hcz12_2, hcz12_3⟩ := c4_ BK463; have hfz12_0 := blk_frozen BK463.out 0; have hfz12_1 := blk_frozen BK463.out 1; have hfz12_2 := blk_frozen BK463.out 2; have hfz12_3 := blk_frozen BK463.out 3) | (go_at_call 69; (with_reducible refine (impl_IsForm.calls k a0_0 true _ A6.out).mono ?_); rintro e w' ⟨rfl, ⟨nd, rfl⟩⟩) | (go_at_call 63; (with_reducible refine (impl_within.calls (l0_2.length : Int) 1 250 true _ A8.out).mono ?_); rintro e w' ⟨rfl, ⟨nd, rfl⟩⟩))
     go_meet
     case rel => exact ⟨_, (((l0_3.length : Int) != (l0_2.length : Int))), rs_, H', ⟨by first | omega | exact Nat.le_refl _⟩, ⟨up_ BK463.out⟩, ⟨up_ HB.out⟩⟩
    ·have H' := Aside0.mk H
     clear H
     obtain ⟨hcz13_0, hcz13_1, hcz13_2, hcz13_3⟩ := c4_ BK463
     have hfz13_0 := blk_frozen BK463.out 0
     have hfz13_1 := blk_frozen BK463.out 1
     have hfz13_2 := blk_frozen BK463.out 2
     have hfz13_3 := blk_frozen BK463.out 3
     go_wp2_with (first | ((refine gc_ 68 ?_); refine gl_ (some 7) Tryz.func68 (impl_AreConstraints.calls k _ _ l0_1 true _ (Kd.C_below HR0_1.out (up_ HB.out)) HC0_1.out A4.out) ?_; rintro e w14 ⟨rfl, hb⟩; refine ⟨_, rfl, ?_⟩; replace BK463 := bb_ BK463 hb; replace HB := bs_ HB hb; (try clear hb); (try clear hb2); (try clear hk); (try clear hi); obtain ⟨hcz15_0, hcz15_1, hcz15_2, hcz15_3⟩ := c4_ BK463; have hfz15_0 := blk_frozen BK463.out 0; have hfz15_1 := blk_frozen BK463.out 1; have hfz15_2 := blk_frozen BK463.out 2; have hfz15_3 := blk_frozen BK463.out 3) | (go_at_call 69; (with_reducible refine (impl_IsForm.calls k a0_0 true _ A6.out).mono ?_); rintro e w' ⟨rfl, ⟨nd, rfl⟩⟩) | (go_at_call 63; (with_reducible refine (impl_within.calls (l0_2.length : Int) 1 250 false _ A8.out).mono ?_); rintro e w' ⟨rfl, ⟨nd, rfl⟩⟩))
     go_meet
     case rel => exact ⟨_, (true), rs_, H', ⟨by first | omega | exact Nat.le_refl _⟩, ⟨up_ BK463.out⟩, ⟨up_ HB.out⟩⟩
   ·have H' := Aside0.mk H
    clear H
    obtain ⟨hcz16_0, hcz16_1, hcz16_2, hcz16_3⟩ := c4_ BK463
    have hfz16_0 := blk_frozen BK463.out 0
    have hfz16_1 := blk_frozen BK463.out 1
    have hfz16_2 := blk_frozen BK463.out 2
    have hfz16_3 := blk_frozen BK463.out 3
    go_wp2_with (first | ((refine gc_ 68 ?_); refine gl_ (some 7) Tryz.func68 (impl_AreConstraints.calls k _ _ l0_1 true _ (Kd.C_below HR0_1.out (up_ HB.out)) HC0_1.out A4.out) ?_; rintro e w17 ⟨rfl, hb⟩; refine ⟨_, rfl, ?_⟩; replace BK463 := bb_ BK463 hb; replace HB := bs_ HB hb; (try clear hb); (try clear hb2); (try clear hk); (try clear hi); obtain ⟨hcz18_0, hcz18_1, hcz18_2, hcz18_3⟩ := c4_ BK463; have hfz18_0 := blk_frozen BK463.out 0; have hfz18_1 := blk_frozen BK463.out 1; have hfz18_2 := blk_frozen BK463.out 2; have hfz18_3 := blk_frozen BK463.out 3) | (go_at_call 69; (with_reducible refine (impl_IsForm.calls k a0_0 false _ A6.out).mono ?_); rintro e w' ⟨rfl, ⟨nd, rfl⟩⟩))
    go_meet
    case rel => exact ⟨_, (true), rs_, H', ⟨by first | omega | exact Nat.le_refl _⟩, ⟨up_ BK463.out⟩, ⟨up_ HB.out⟩⟩
  ·have H' := Aside0.mk H
   clear H
   obtain ⟨hcz19_0, hcz19_1, hcz19_2, hcz19_3⟩ := c4_ BK463
   have hfz19_0 := blk_frozen BK463.out 0
   have hfz19_1 := blk_frozen BK463.out 1
   have hfz19_2 := blk_frozen BK463.out 2
   have hfz19_3 := blk_frozen BK463.out 3
   go_wp2_with (first | ((refine gc_ 68 ?_); refine gl_ (some 7) Tryz.func68 (impl_AreConstraints.calls k _ _ l0_1 false _ (Kd.C_below HR0_1.out (up_ HB.out)) HC0_1.out A4.out) ?_; rintro e w20 ⟨rfl, hb⟩; refine ⟨_, rfl, ?_⟩; replace BK463 := bb_ BK463 hb; replace HB := bs_ HB hb; (try clear hb); (try clear hb2); (try clear hk); (try clear hi)))
   go_meet
   case rel => exact ⟨_, (true), rs_, H', ⟨by first | omega | exact Nat.le_refl _⟩, ⟨up_ BK463.out⟩, ⟨up_ HB.out⟩⟩
 case rest =>
  clear HC2
  try clear p2
  try clear c4
  try clear c5
  try clear c6
  try clear c7
  try clear c9
  try clear hcz10_0
  try clear hcz10_1
  try clear hcz10_2
  try clear hcz10_3
  try clear hcz12_0
  try clear hcz12_1
  try clear hcz12_2
  try clear hcz12_3
  try clear hcz13_0
  try clear hcz13_1
  try clear hcz13_2
  try clear hcz13_3
  try clear hcz15_0
  try clear hcz15_1
  try clear hcz15_2
  try clear hcz15_3
  try clear hcz16_0
  try clear hcz16_1
  try clear hcz16_2
  try clear hcz16_3
  try clear hcz18_0
  try clear hcz18_1
  try clear hcz18_2
  try clear hcz18_3
  try clear hcz19_0
  try clear hcz19_1
  try clear hcz19_2
  try clear hcz19_3
  try clear hfz10_0
  try clear hfz10_1
  try clear hfz10_2
  try clear hfz10_3
  try clear hfz12_0
  try clear hfz12_1
  try clear hfz12_2
  try clear hfz12_3
  try clear hfz13_0
  try clear hfz13_1
  try clear hfz13_2
  try clear hfz13_3
  try clear hfz15_0
  try clear hfz15_1
  try clear hfz15_2
  try clear hfz15_3
  try clear hfz16_0
  try clear hfz16_1
  try clear hfz16_2
  try clear hfz16_3
  try clear hfz18_0
  try clear hfz18_1
  try clear hfz18_2
  try clear hfz18_3
  try clear hfz19_0
  try clear hfz19_1
  try clear hfz19_2
  try clear hfz19_3
  obtain ⟨kq, x30_1, rfl, HA, HJ1, BK463, HB⟩ := hcut
  cases kq with
  | zero => exact absurd HA.out (by simp [impl_IsTableau.j0])
  | succ kj1 =>
   have H := HA.out
   clear HA
   simp only [impl_IsTableau.j0] at H
   replace H := itb_ H; rcases H with ⟨rfl, H⟩ | ⟨rfl, H⟩
   ·obtain rfl := Option.some.inj H
    go_wp2
    go_ret
    exact ⟨re_, up_ HB.out⟩
   ·have H' := Aside0.mk H
    clear H
    obtain ⟨hcz22_0, hcz22_1, hcz22_2, hcz22_3⟩ := c4_ BK463
    have hfz22_0 := blk_frozen BK463.out 0
    have hfz22_1 := blk_frozen BK463.out 1
    have hfz22_2 := blk_frozen BK463.out 2
    have hfz22_3 := blk_frozen BK463.out 3
    go_wp2
    go_loopg [34] kj1 (fun kq v34 w' => ∃ (x34_2 : Int), v34 = .int .i64 x34_2 ∧ Aside0 (impl_IsTableau.l0 kq l0_2 (l0_2.length : Int) x34_2 a0_0 l0_1 l0_2 l0_3 = some r) ∧ Aside0 (kq ≤ kj1) ∧ Aside0 (w'.heap[gb463]? = some (.cells #[.string a0_0, (.slice A0_1 l0_1.length c0_1), (.slice A0_2 l0_2.length c0_2), (.slice A0_3 l0_3.length c0_3)] 38 (0, 0))) ∧ Aside0 (Below w.heap.size w w'))
    case atStart => exact ⟨(0), rs_, H', ⟨Nat.le_refl _⟩, ⟨up_ BK463.out⟩, ⟨up_ HB.out⟩⟩
    case round =>
     clear H'
     try clear c2
     try clear p2
     try clear c4
     try clear c5
     try clear c6
     try clear c7
     try clear c9
     try clear c21
     try clear hcz10_0
     try clear hcz10_1
     try clear hcz10_2
     try clear hcz10_3
     try clear hcz12_0
     try clear hcz12_1
     try clear hcz12_2
     try clear hcz12_3
     try clear hcz13_0
     try clear hcz13_1
     try clear hcz13_2
     try clear hcz13_3
     try clear hcz15_0
     try clear hcz15_1
     try clear hcz15_2
     try clear hcz15_3
     try clear hcz16_0
     try clear hcz16_1
     try clear hcz16_2
     try clear hcz16_3
     try clear hcz18_0
     try clear hcz18_1
     try clear hcz18_2
     try clear hcz18_3
     try clear hcz19_0
     try clear hcz19_1
     try clear hcz19_2
     try clear hcz19_3
     try clear hcz22_0
     try clear hcz22_1
     try clear hcz22_2
     try clear hcz22_3
     try clear hfz10_0
     try clear hfz10_1
     try clear hfz10_2
     try clear hfz10_3
     try clear hfz12_0
     try clear hfz12_1
     try clear hfz12_2
     try clear hfz12_3
     try clear hfz13_0
     try clear hfz13_1
     try clear hfz13_2
     try clear hfz13_3
     try clear hfz15_0
     try clear hfz15_1
     try clear hfz15_2
     try clear hfz15_3
     try clear hfz16_0
     try clear hfz16_1
     try clear hfz16_2
     try clear hfz16_3
     try clear hfz18_0
     try clear hfz18_1
     try clear hfz18_2
     try clear hfz18_3
     try clear hfz19_0
     try clear hfz19_1
     try clear hfz19_2
     try clear hfz19_3
     try clear hfz22_0
     try clear hfz22_1
     try clear hfz22_2
     try clear hfz22_3
     try clear p2
     obtain ⟨x34_2, rfl, HA, HK2, BK463, HB⟩ := hrel
     cases gk with
     | zero => exact absurd HA.out (by simp [impl_IsTableau.l0])
     | succ k2 =>
      have H := HA.out
      clear HA
      simp only [impl_IsTableau.l0] at H
      replace H := its_ H; rcases H with ⟨c23b0, H⟩ | ⟨c23b0, H⟩
      ·replace H := its_ H; rcases H with ⟨c24b0, H⟩ | ⟨_, ⟨⟩⟩
       replace H := its_ H; rcases H with ⟨c25b0, H⟩ | ⟨_, ⟨⟩⟩
       replace H := bnd_ H; obtain ⟨t469, A26, H⟩ := H
       replace H := itb_ H; rcases H with ⟨rfl, H⟩ | ⟨rfl, H⟩
       ·replace H := bnd_ H; obtain ⟨t470, A28, H⟩ := H
        replace H := ieq_ H; rcases H with ⟨-, c29b0, c29b1, H⟩ | ⟨c29, c29b0, c29b1, H⟩
        ·replace H := its_ H; rcases H with ⟨c30b0, H⟩ | ⟨_, ⟨⟩⟩
         replace H := bnd_ H; obtain ⟨t472, A31, H⟩ := H
         replace H := bnd_ H; obtain ⟨t475, A32, H⟩ := H
         replace H := itb_ H; rcases H with ⟨rfl, H⟩ | ⟨rfl, H⟩
         ·have H' := Aside0.mk H
          clear H
          have p467 : 0 ≤ (x34_2 : Int) := od_
          have q467 : x34_2 < (l0_2.length : Int) := od_
          obtain ⟨ad467, A467_0, c467_0, e467, hx467_0, hl467_0, hi467_0⟩ := at_T50 HR0_2.out x34_2 p467 q467
          cases e467
          replace hx467_0 := bh_ HB hx467_0
          have HR467_0 := Aside0.mk hi467_0
          have HC467_0 := Aside0.mk hl467_0
          clear hi467_0 hl467_0
          replace p467 := eq_true p467
          replace q467 := eq_true q467
          try go_wp2_with (first | ((refine gd_ 4 ?_); (try (refine gate_guard (by rfl) ?_; dsimp only)); refine bx_ 4 #[.slice none 0 0] 50 ?_; intro gb468 hg w34 hbox hb; have BK468 := Aside0.mk (hbox); have GW468 := gw_ HB hg; have GE468 := gw_ HB hg; replace HB := bs_ HB hb; have NB463_468 := Aside0.mk ((by rw [hg]; exact Nat.ne_of_lt (blk_lt (g := gb463) (o := .cells #[.string a0_0, .slice A0_1 l0_1.length c0_1, .slice (some ad467) l0_2.length c0_2, .slice A0_3 l0_3.length c0_3] 38 (0, 0)) (up_ BK463.out)) : gb463 ≠ gb468)); have NB468_463 := Aside0.mk ((by rw [hg]; exact Nat.ne_of_gt (blk_lt (g := gb463) (o := .cells #[.string a0_0, .slice A0_1 l0_1.length c0_1, .slice (some ad467) l0_2.length c0_2, .slice A0_3 l0_3.length c0_3] 38 (0, 0)) (up_ BK463.out)) : gb468 ≠ gb463)); replace BK463 := bb_ BK463 hb; clear hb hbox hg; have hnb35 := NB468_463.out; have hnc35 := NB463_468.out; have hcz36_0 := c1_ BK468; have hfz36_0 := blk_frozen BK468.out 0))
          have n0_ : Aside0 ((w34.setCell ⟨gb468, 0, none⟩ (.slice A467_0 ((rd_T50 l0_2 x34_2).f0).length c467_0)).heap[gb463]? = some (.cells #[.string a0_0, .slice A0_1 l0_1.length c0_1, .slice (some ad467) l0_2.length c0_2, .slice A0_3 l0_3.length c0_3] 38 (0, 0))) := ⟨by (with_reducible repeat (first | refine blk_drewN ?_ _ | refine blk_drew ?_ | refine blk_alloc ?_ _)); refine blk_far ?_ NB463_468.out _; (with_reducible repeat (first | refine blk_drewN ?_ _ | refine blk_drew ?_ | refine blk_alloc ?_ _)); exact BK463.out⟩
          have n1_ : Aside0 ((w34.setCell ⟨gb468, 0, none⟩ (.slice A467_0 ((rd_T50 l0_2 x34_2).f0).length c467_0)).heap[gb468]? = some (.cells #[.slice A467_0 ((rd_T50 l0_2 x34_2).f0).length c467_0] 50 (0, 0))) := ⟨by (with_reducible repeat (first | refine blk_drewN ?_ _ | refine blk_drew ?_ | refine blk_alloc ?_ _)); refine blk_put (cs := #[.slice none 0 0]) ?_ 0 _ rfl; (with_reducible repeat (first | refine blk_drewN ?_ _ | refine blk_drew ?_ | refine blk_alloc ?_ _)); exact BK468.out⟩
          have n2_ : Aside0 (Below w.heap.size w (w34.setCell ⟨gb468, 0, none⟩ (.slice A467_0 ((rd_T50 l0_2 x34_2).f0).length c467_0))) := ⟨up_ HB.out⟩
          (try clear BK463)
          (try clear BK468)
          (try clear HB)
          generalize (w34.setCell ⟨gb468, 0, none⟩ (.slice A467_0 ((rd_T50 l0_2 x34_2).f0).length c467_0)) = w37 at n0_ n1_ n2_ ⊢
          have BK463 := n0_
          have BK468 := n1_
          have HB := n2_
          clear n0_ n1_ n2_
          have n0_ := Aside0.mk (blk_drew BK463.out)
          have n1_ := Aside0.mk (blk_drew BK468.out)
          have n2_ := Aside0.mk (below_drew1 HB.out)
          clear BK463
          clear BK468
          clear HB
          have BK463 := n0_
          have BK468 := n1_
          have HB := n2_
          clear n0_ n1_ n2_
          have p471 : 0 ≤ (x34_2 : Int) := od_
          have q471 : x34_2 < (l0_3.length : Int) := od_
          obtain ⟨ad471, A471_0, c471_0, e471, hx471_0, hl471_0, hi471_0⟩ := at_L6 HR0_3.out x34_2 p471 q471
          have hw471_0 := hx471_0
          cases e471
          replace hx471_0 := bh_ HB hx471_0
          have HR471_0 := Aside0.mk hi471_0
          have HC471_0 := Aside0.mk hl471_0
          clear hi471_0 hl471_0
          replace p471 := eq_true p471
          replace q471 := eq_true q471
          refine start_ (n := 23) (S := fun w' => w'.cell? ⟨gb468, 0, none⟩ = some (.slice A467_0 ((rd_T50 l0_2 x34_2).f0).length c467_0) ∧ w'.cell? ⟨gb463, 0, none⟩ = some (.string a0_0) ∧ w'.cell? ⟨gb463, 1, none⟩ = some (.slice A0_1 l0_1.length c0_1) ∧ w'.cell? ⟨gb463, 2, none⟩ = some (.slice (some ad467) l0_2.length c0_2) ∧ w'.cell? ⟨gb463, 3, none⟩ = some (.slice (some ad471) l0_3.length c0_3) ∧ w'.cell? (ad471.add (x34_2).toNat) = some (.slice A471_0 (rd_L6 l0_3 x34_2).length c471_0)) (ds := []) #[false, false, false, false, false, false, false, false, false, false, false, false, false, false, false, false, false, false, false, false, false, false, false] (by kernel_rfl) rfl rfl ⟨(blk_cell BK468.out 0).trans rfl, (blk_cell BK463.out 0).trans rfl, (blk_cell BK463.out 1).trans rfl, (blk_cell BK463.out 2).trans rfl, (blk_cell BK463.out 3).trans rfl, (bh_ HB hw471_0 :)⟩ (fun hHeld => ?_); refine with_tabW impl_IsTableau.tab6 impl_IsTableau.bits6 (fun HT_ HW_ => ?_)
          generalize w37.drew = w38 at BK463 BK468 HB HR471_0 hx471_0 hHeld ⊢
          refine tk_ 0 (some 39) hHeld ?_
          refine one_ (i := 1) (N := some 40) #[true, true, false, false, false, false, false, false, false, false, false, false, false, false, false, false, false, false, false, false, false, false, false] rfl rfl (one_of HT_.out (by kernel_rfl)) (by decide) (fun K hK => ?_)
          refine goes_ Tryz.func70 (by kernel_rfl) rfl #[.agg #[.slice A467_0 ((rd_T50 l0_2 x34_2).f0).length c467_0]] (by rfl) rfl rfl am_ ?_
          with_reducible refine (impl_IsCandidate.calls k2 _ _ ((rd_T50 l0_2 x34_2).f0) true _ ?side1 ?side2 A26.out).mono ?_
          (case side1 => exact Kd.C_below HR467_0.out (up_ HB.out))
          (case side2 => exact HC467_0.out)
          rintro e w39 ⟨rfl, hb⟩
          refine ⟨_, rfl, ?_⟩
          have n0_ := bb_ BK463 hb
          have n1_ := bb_ BK468 hb
          have n2_ := bs_ HB hb
          clear BK463
          clear BK468
          clear HB
          have BK463 := n0_
          have BK468 := n1_
          have HB := n2_
          clear n0_ n1_ n2_
          (try clear hb)
          (try clear hb2)
          (try clear hk)
          (try clear hi)
          refine hK.out _ _ ⟨(blk_cell BK468.out 0).trans rfl, (blk_cell BK463.out 0).trans rfl, (blk_cell BK463.out 1).trans rfl, (blk_cell BK463.out 2).trans rfl, (blk_cell BK463.out 3).trans rfl, (bh_ HB hw471_0 :)⟩ (fun hHeld => ?_)
          clear hK K
          refine nm_ ?_
          refine pu_ 2 (some 41) ?_
          refine pu_ 3 (some 42) ?_
          refine pu_ 6 (some 45) ?_
          refine tk_ 4 (some 43) hHeld ?_
          refine tk_ 7 (some 46) hHeld ?_
          refine one_ (i := 5) (N := some 44) #[true, true, true, true, true, true, true, true, false, false, false, false, false, false, false, false, false, false, false, false, false, false, false] rfl rfl (one_of HT_.out (by kernel_rfl)) (by decide) (fun K hK => ?_)
          refine goes_ Tryz.func71 (by kernel_rfl) rfl #[.agg #[.slice A467_0 ((rd_T50 l0_2 x34_2).f0).length c467_0]] (by rfl) rfl rfl am_ ?_
          with_reducible refine (impl_InputOf.calls k2 _ _ ((rd_T50 l0_2 x34_2).f0) t470 _ ?side1 ?side2 A28.out).mono ?_
          (case side1 => exact Kd.C_below HR467_0.out (up_ HB.out))
          (case side2 => exact HC467_0.out)
          rintro e w40 ⟨rfl, hb⟩
          refine ⟨_, rfl, ?_⟩
          have n0_ := bb_ BK463 hb
          have n1_ := bb_ BK468 hb
          have n2_ := bs_ HB hb
          clear BK463
          clear BK468
          clear HB
          have BK463 := n0_
          have BK468 := n1_
          have HB := n2_
          clear n0_ n1_ n2_
          (try clear hb)
          (try clear hb2)
          (try clear hk)
          (try clear hi)
          refine hK.out _ _ ⟨(blk_cell BK468.out 0).trans rfl, (blk_cell BK463.out 0).trans rfl, (blk_cell BK463.out 1).trans rfl, (blk_cell BK463.out 2).trans rfl, (blk_cell BK463.out 3).trans rfl, (bh_ HB hw471_0 :)⟩ (fun hHeld => ?_)
          clear hK K
          refine nm_ ?_
          refine pu_ 8 (some 47) ?_
          refine pu_ 9 (some 48) ?_
          refine pu_ 10 (some 49) ?_
          refine pu_ 11 (some 50) ?_
          refine pu_ 13 (some 52) ?_
          refine pu_ 16 (some 55) ?_
          refine tk_ 12 (some 51) hHeld ?_
          refine pu_ 14 (some 53) ?_
          refine tk_ 15 (some 54) hHeld ?_
          refine tk_ 17 (some 56) hHeld ?_
          refine tk_ 18 (some 57) hHeld ?_
          refine one_ (i := 19) (N := some 58) #[true, true, true, true, true, true, true, true, true, true, true, true, true, true, true, true, true, true, true, true, false, false, false] rfl rfl (one_of HT_.out (by kernel_rfl)) (by decide) (fun K hK => ?_)
          refine goes_ Tryz.func72 (by kernel_rfl) rfl #[.slice A0_1 l0_1.length c0_1, .agg #[.slice A467_0 ((rd_T50 l0_2 x34_2).f0).length c467_0]] (by rfl) rfl rfl am_ ?_
          with_reducible refine (impl_ProfileOf.calls k2 _ _ l0_1 _ _ ((rd_T50 l0_2 x34_2).f0) t472 _ ?side1 ?side2 ?side3 ?side4 A31.out).mono ?_
          (case side1 => exact Kd.C_below HR0_1.out (up_ HB.out))
          (case side2 => exact HC0_1.out)
          (case side3 => exact Kd.C_below HR467_0.out (up_ HB.out))
          (case side4 => exact HC467_0.out)
          rintro e w41 ⟨v473, rfl, ho0, hb⟩
          refine ⟨_, rfl, ?_⟩
          have n0_ := Aside0.mk (Kd.R_lower ho0 (below_size (up_ HB.out)))
          have n1_ := bb_ BK463 hb
          have n2_ := bb_ BK468 hb
          have n3_ := bs_ HB hb
          clear BK463
          clear BK468
          clear HB
          have HO474 := n0_
          have BK463 := n1_
          have BK468 := n2_
          have HB := n3_
          clear n0_ n1_ n2_ n3_
          (try clear hb)
          (try clear hb2)
          (try clear hk)
          (try clear hi)
          (try clear ho0)
          obtain ⟨Ao42, co42, eo42⟩ := Kd.R_slice HO474.out
          (first | subst eo42 | (injection eo42 with f1_ f2_ f3_; have f4_ := f1_.symm; have f5_ := f3_.symm; clear f1_ f2_ f3_; subst f4_; subst f5_))
          refine hK.out _ _ ⟨(blk_cell BK468.out 0).trans rfl, (blk_cell BK463.out 0).trans rfl, (blk_cell BK463.out 1).trans rfl, (blk_cell BK463.out 2).trans rfl, (blk_cell BK463.out 3).trans rfl, (bh_ HB hw471_0 :)⟩ (fun hHeld => ?_)
          clear hK K
          refine nm_ ?_
          refine one_ (i := 20) (N := some 59) #[true, true, true, true, true, true, true, true, true, true, true, true, true, true, true, true, true, true, true, true, true, false, false] rfl rfl (one_of HT_.out (by kernel_rfl)) (by decide) (fun K hK => ?_)
          refine goes_ Tryz.func39 (by kernel_rfl) rfl #[.slice A471_0 (rd_L6 l0_3 x34_2).length c471_0, .slice Ao42 t472.length co42] (by rfl) rfl rfl am_ ?_
          with_reducible refine (slices_Equal_int_int.calls k2 _ _ (rd_L6 l0_3 x34_2) _ _ t472 true _ ?side1 ?side2 ?side3 ?side4 A32.out).mono ?_
          (case side1 => exact Kd.C_below HR471_0.out (up_ HB.out))
          (case side2 => exact HC471_0.out)
          (case side3 => repeat (first | exact (Kd.R_reads' HO474.out).2.2 | (with_reducible refine Kd.C_alloc ?_ _) | (with_reducible refine Kd.C_drewN ?_ _) | (with_reducible refine Kd.C_drew ?_)))
          (case side4 => exact (Kd.R_reads' HO474.out).2.1)
          rintro e w' ⟨rfl, ⟨nd, rfl⟩⟩
          refine ⟨_, rfl, ?_⟩
          refine hK.out _ _ ⟨(blk_cell BK468.out 0).trans rfl, (blk_cell BK463.out 0).trans rfl, (blk_cell BK463.out 1).trans rfl, (blk_cell BK463.out 2).trans rfl, (blk_cell BK463.out 3).trans rfl, (bh_ HB hw471_0 :)⟩ (fun hHeld => ?_)
          clear hK K
          refine nm_ ?_
          refine pu_ 21 (some 60) ?_
          refine pu_ 22 (some 61) ?_
          refine done_ (done_of HT_.out (by kernel_rfl)) ?_
          try go_wp2
          go_roundg k2
          case measure => have := HJ1.out; have := HK2.out; omega
          case rel => exact ⟨(wrap64 (x34_2 + 1)), rs_, H', ⟨by have := HJ1.out; have := HK2.out; omega⟩, ⟨up_ BK463.out⟩, ⟨up_ HB.out⟩⟩
         ·obtain rfl := Option.some.inj H
          have p467 : 0 ≤ (x34_2 : Int) := od_
          have q467 : x34_2 < (l0_2.length : Int) := od_
          obtain ⟨ad467, A467_0, c467_0, e467, hx467_0, hl467_0, hi467_0⟩ := at_T50 HR0_2.out x34_2 p467 q467
          cases e467
          replace hx467_0 := bh_ HB hx467_0
          have HR467_0 := Aside0.mk hi467_0
          have HC467_0 := Aside0.mk hl467_0
          clear hi467_0 hl467_0
          replace p467 := eq_true p467
          replace q467 := eq_true q467
          try go_wp2_with (first | ((refine gd_ 4 ?_); (try (refine gate_guard (by rfl) ?_; dsimp only)); refine bx_ 4 #[.slice none 0 0] 50 ?_; intro gb468 hg w43 hbox hb; have BK468 := Aside0.mk (hbox); have GW468 := gw_ HB hg; have GE468 := gw_ HB hg; replace HB := bs_ HB hb; have NB463_468 := Aside0.mk ((by rw [hg]; exact Nat.ne_of_lt (blk_lt (g := gb463) (o := .cells #[.string a0_0, .slice A0_1 l0_1.length c0_1, .slice (some ad467) l0_2.length c0_2, .slice A0_3 l0_3.length c0_3] 38 (0, 0)) (up_ BK463.out)) : gb463 ≠ gb468)); have NB468_463 := Aside0.mk ((by rw [hg]; exact Nat.ne_of_gt (blk_lt (g := gb463) (o := .cells #[.string a0_0, .slice A0_1 l0_1.length c0_1, .slice (some ad467) l0_2.length c0_2, .slice A0_3 l0_3.length c0_3] 38 (0, 0)) (up_ BK463.out)) : gb468 ≠ gb463)); replace BK463 := bb_ BK463 hb; clear hb hbox hg; have hnb44 := NB468_463.out; have hnc44 := NB463_468.out; have hcz45_0 := c1_ BK468; have hfz45_0 := blk_frozen BK468.out 0))
          have n0_ : Aside0 ((w43.setCell ⟨gb468, 0, none⟩ (.slice A467_0 ((rd_T50 l0_2 x34_2).f0).length c467_0)).heap[gb463]? = some (.cells #[.string a0_0, .slice A0_1 l0_1.length c0_1, .slice (some ad467) l0_2.length c0_2, .slice A0_3 l0_3.length c0_3] 38 (0, 0))) := ⟨by (with_reducible repeat (first | refine blk_drewN ?_ _ | refine blk_drew ?_ | refine blk_alloc ?_ _)); refine blk_far ?_ NB463_468.out _; (with_reducible repeat (first | refine blk_drewN ?_ _ | refine blk_drew ?_ | refine blk_alloc ?_ _)); exact BK463.out⟩
          have n1_ : Aside0 ((w43.setCell ⟨gb468, 0, none⟩ (.slice A467_0 ((rd_T50 l0_2 x34_2).f0).length c467_0)).heap[gb468]? = some (.cells #[.slice A467_0 ((rd_T50 l0_2 x34_2).f0).length c467_0] 50 (0, 0))) := ⟨by (with_reducible repeat (first | refine blk_drewN ?_ _ | refine blk_drew ?_ | refine blk_alloc ?_ _)); refine blk_put (cs := #[.slice none 0 0]) ?_ 0 _ rfl; (with_reducible repeat (first | refine blk_drewN ?_ _ | refine blk_drew ?_ | refine blk_alloc ?_ _)); exact BK468.out⟩
          have n2_ : Aside0 (Below w.heap.size w (w43.setCell ⟨gb468, 0, none⟩ (.slice A467_0 ((rd_T50 l0_2 x34_2).f0).length c467_0))) := ⟨up_ HB.out⟩
          (try clear BK463)
          (try clear BK468)
          (try clear HB)
          generalize (w43.setCell ⟨gb468, 0, none⟩ (.slice A467_0 ((rd_T50 l0_2 x34_2).f0).length c467_0)) = w46 at n0_ n1_ n2_ ⊢
          have BK463 := n0_
          have BK468 := n1_
          have HB := n2_
          clear n0_ n1_ n2_
          have n0_ := Aside0.mk (blk_drew BK463.out)
          have n1_ := Aside0.mk (blk_drew BK468.out)
          have n2_ := Aside0.mk (below_drew1 HB.out)
          clear BK463
          clear BK468
          clear HB
          have BK463 := n0_
          have BK468 := n1_
          have HB := n2_
          clear n0_ n1_ n2_
          have p471 : 0 ≤ (x34_2 : Int) := od_
          have q471 : x34_2 < (l0_3.length : Int) := od_
          obtain ⟨ad471, A471_0, c471_0, e471, hx471_0, hl471_0, hi471_0⟩ := at_L6 HR0_3.out x34_2 p471 q471
          have hw471_0 := hx471_0
          cases e471
          replace hx471_0 := bh_ HB hx471_0
          have HR471_0 := Aside0.mk hi471_0
          have HC471_0 := Aside0.mk hl471_0
          clear hi471_0 hl471_0
          replace p471 := eq_true p471
          replace q471 := eq_true q471
          refine start_ (n := 23) (S := fun w' => w'.cell? ⟨gb468, 0, none⟩ = some (.slice A467_0 ((rd_T50 l0_2 x34_2).f0).length c467_0) ∧ w'.cell? ⟨gb463, 0, none⟩ = some (.string a0_0) ∧ w'.cell? ⟨gb463, 1, none⟩ = some (.slice A0_1 l0_1.length c0_1) ∧ w'.cell? ⟨gb463, 2, none⟩ = some (.slice (some ad467) l0_2.length c0_2) ∧ w'.cell? ⟨gb463, 3, none⟩ = some (.slice (some ad471) l0_3.length c0_3) ∧ w'.cell? (ad471.add (x34_2).toNat) = some (.slice A471_0 (rd_L6 l0_3 x34_2).length c471_0)) (ds := []) #[false, false, false, false, false, false, false, false, false, false, false, false, false, false, false, false, false, false, false, false, false, false, false] (by kernel_rfl) rfl rfl ⟨(blk_cell BK468.out 0).trans rfl, (blk_cell BK463.out 0).trans rfl, (blk_cell BK463.out 1).trans rfl, (blk_cell BK463.out 2).trans rfl, (blk_cell BK463.out 3).trans rfl, (bh_ HB hw471_0 :)⟩ (fun hHeld => ?_); refine with_tabW impl_IsTableau.tab6 impl_IsTableau.bits6 (fun HT_ HW_ => ?_)
          generalize w46.drew = w47 at BK463 BK468 HB HR471_0 hx471_0 hHeld ⊢
          refine tk_ 0 (some 39) hHeld ?_
          refine one_ (i := 1) (N := some 40) #[true, true, false, false, false, false, false, false, false, false, false, false, false, false, false, false, false, false, false, false, false, false, false] rfl rfl (one_of HT_.out (by kernel_rfl)) (by decide) (fun K hK => ?_)
          refine goes_ Tryz.func70 (by kernel_rfl) rfl #[.agg #[.slice A467_0 ((rd_T50 l0_2 x34_2).f0).length c467_0]] (by rfl) rfl rfl am_ ?_
          with_reducible refine (impl_IsCandidate.calls k2 _ _ ((rd_T50 l0_2 x34_2).f0) true _ ?side1 ?side2 A26.out).mono ?_
          (case side1 => exact Kd.C_below HR467_0.out (up_ HB.out))
          (case side2 => exact HC467_0.out)
          rintro e w48 ⟨rfl, hb⟩
          refine ⟨_, rfl, ?_⟩
          have n0_ := bb_ BK463 hb
          have n1_ := bb_ BK468 hb
          have n2_ := bs_ HB hb
          clear BK463
          clear BK468
          clear HB
          have BK463 := n0_
          have BK468 := n1_
          have HB := n2_
          clear n0_ n1_ n2_
          (try clear hb)
          (try clear hb2)
          (try clear hk)
          (try clear hi)
          refine hK.out _ _ ⟨(blk_cell BK468.out 0).trans rfl, (blk_cell BK463.out 0).trans rfl, (blk_cell BK463.out 1).trans rfl, (blk_cell BK463.out 2).trans rfl, (blk_cell BK463.out 3).trans rfl, (bh_ HB hw471_0 :)⟩ (fun hHeld => ?_)
          clear hK K
          refine nm_ ?_
          refine pu_ 2 (some 41) ?_
          refine pu_ 3 (some 42) ?_
          refine pu_ 6 (some 45) ?_
          refine tk_ 4 (some 43) hHeld ?_
          refine tk_ 7 (some 46) hHeld ?_
          refine one_ (i := 5) (N := some 44) #[true, true, true, true, true, true, true, true, false, false, false, false, false, false, false, false, false, false, false, false, false, false, false] rfl rfl (one_of HT_.out (by kernel_rfl)) (by decide) (fun K hK => ?_)
          refine goes_ Tryz.func71 (by kernel_rfl) rfl #[.agg #[.slice A467_0 ((rd_T50 l0_2 x34_2).f0).length c467_0]] (by rfl) rfl rfl am_ ?_
          with_reducible refine (impl_InputOf.calls k2 _ _ ((rd_T50 l0_2 x34_2).f0) t470 _ ?side1 ?side2 A28.out).mono ?_
          (case side1 => exact Kd.C_below HR467_0.out (up_ HB.out))
          (case side2 => exact HC467_0.out)
          rintro e w49 ⟨rfl, hb⟩
          refine ⟨_, rfl, ?_⟩
          have n0_ := bb_ BK463 hb
          have n1_ := bb_ BK468 hb
          have n2_ := bs_ HB hb
          clear BK463
          clear BK468
          clear HB
          have BK463 := n0_
          have BK468 := n1_
          have HB := n2_
          clear n0_ n1_ n2_
          (try clear hb)
          (try clear hb2)
          (try clear hk)
          (try clear hi)
          refine hK.out _ _ ⟨(blk_cell BK468.out 0).trans rfl, (blk_cell BK463.out 0).trans rfl, (blk_cell BK463.out 1).trans rfl, (blk_cell BK463.out 2).trans rfl, (blk_cell BK463.out 3).trans rfl, (bh_ HB hw471_0 :)⟩ (fun hHeld => ?_)
          clear hK K
          refine nm_ ?_
          refine pu_ 8 (some 47) ?_
          refine pu_ 9 (some 48) ?_
          refine pu_ 10 (some 49) ?_
          refine pu_ 11 (some 50) ?_
          refine pu_ 13 (some 52) ?_
          refine pu_ 16 (some 55) ?_
          refine tk_ 12 (some 51) hHeld ?_
          refine pu_ 14 (some 53) ?_
          refine tk_ 15 (some 54) hHeld ?_
          refine tk_ 17 (some 56) hHeld ?_
          refine tk_ 18 (some 57) hHeld ?_
          refine one_ (i := 19) (N := some 58) #[true, true, true, true, true, true, true, true, true, true, true, true, true, true, true, true, true, true, true, true, false, false, false] rfl rfl (one_of HT_.out (by kernel_rfl)) (by decide) (fun K hK => ?_)
          refine goes_ Tryz.func72 (by kernel_rfl) rfl #[.slice A0_1 l0_1.length c0_1, .agg #[.slice A467_0 ((rd_T50 l0_2 x34_2).f0).length c467_0]] (by rfl) rfl rfl am_ ?_
          with_reducible refine (impl_ProfileOf.calls k2 _ _ l0_1 _ _ ((rd_T50 l0_2 x34_2).f0) t472 _ ?side1 ?side2 ?side3 ?side4 A31.out).mono ?_
          (case side1 => exact Kd.C_below HR0_1.out (up_ HB.out))
          (case side2 => exact HC0_1.out)
          (case side3 => exact Kd.C_below HR467_0.out (up_ HB.out))
          (case side4 => exact HC467_0.out)
          rintro e w50 ⟨v473, rfl, ho0, hb⟩
          refine ⟨_, rfl, ?_⟩
          have n0_ := Aside0.mk (Kd.R_lower ho0 (below_size (up_ HB.out)))
          have n1_ := bb_ BK463 hb
          have n2_ := bb_ BK468 hb
          have n3_ := bs_ HB hb
          clear BK463
          clear BK468
          clear HB
          have HO474 := n0_
          have BK463 := n1_
          have BK468 := n2_
          have HB := n3_
          clear n0_ n1_ n2_ n3_
          (try clear hb)
          (try clear hb2)
          (try clear hk)
          (try clear hi)
          (try clear ho0)
          obtain ⟨Ao51, co51, eo51⟩ := Kd.R_slice HO474.out
          (first | subst eo51 | (injection eo51 with f1_ f2_ f3_; have f4_ := f1_.symm; have f5_ := f3_.symm; clear f1_ f2_ f3_; subst f4_; subst f5_))
          refine hK.out _ _ ⟨(blk_cell BK468.out 0).trans rfl, (blk_cell BK463.out 0).trans rfl, (blk_cell BK463.out 1).trans rfl, (blk_cell BK463.out 2).trans rfl, (blk_cell BK463.out 3).trans rfl, (bh_ HB hw471_0 :)⟩ (fun hHeld => ?_)
          clear hK K
          refine nm_ ?_
          refine one_ (i := 20) (N := some 59) #[true, true, true, true, true, true, true, true, true, true, true, true, true, true, true, true, true, true, true, true, true, false, false] rfl rfl (one_of HT_.out (by kernel_rfl)) (by decide) (fun K hK => ?_)
          refine goes_ Tryz.func39 (by kernel_rfl) rfl #[.slice A471_0 (rd_L6 l0_3 x34_2).length c471_0, .slice Ao51 t472.length co51] (by rfl) rfl rfl am_ ?_
          with_reducible refine (slices_Equal_int_int.calls k2 _ _ (rd_L6 l0_3 x34_2) _ _ t472 false _ ?side1 ?side2 ?side3 ?side4 A32.out).mono ?_
          (case side1 => exact Kd.C_below HR471_0.out (up_ HB.out))
          (case side2 => exact HC471_0.out)
          (case side3 => repeat (first | exact (Kd.R_reads' HO474.out).2.2 | (with_reducible refine Kd.C_alloc ?_ _) | (with_reducible refine Kd.C_drewN ?_ _) | (with_reducible refine Kd.C_drew ?_)))
          (case side4 => exact (Kd.R_reads' HO474.out).2.1)
          rintro e w' ⟨rfl, ⟨nd, rfl⟩⟩
          refine ⟨_, rfl, ?_⟩
          refine hK.out _ _ ⟨(blk_cell BK468.out 0).trans rfl, (blk_cell BK463.out 0).trans rfl, (blk_cell BK463.out 1).trans rfl, (blk_cell BK463.out 2).trans rfl, (blk_cell BK463.out 3).trans rfl, (bh_ HB hw471_0 :)⟩ (fun hHeld => ?_)
          clear hK K
          refine nm_ ?_
          refine pu_ 21 (some 60) ?_
          refine pu_ 22 (some 61) ?_
          refine done_ (done_of HT_.out (by kernel_rfl)) ?_
          try go_wp2
          go_ret
          exact ⟨re_, up_ HB.out⟩
        ·obtain rfl := Option.some.inj H
         have p467 : 0 ≤ (x34_2 : Int) := od_
         have q467 : x34_2 < (l0_2.length : Int) := od_
         obtain ⟨ad467, A467_0, c467_0, e467, hx467_0, hl467_0, hi467_0⟩ := at_T50 HR0_2.out x34_2 p467 q467
         cases e467
         replace hx467_0 := bh_ HB hx467_0
         have HR467_0 := Aside0.mk hi467_0
         have HC467_0 := Aside0.mk hl467_0
         clear hi467_0 hl467_0
         replace p467 := eq_true p467
         replace q467 := eq_true q467
         try go_wp2_with (first | ((refine gd_ 4 ?_); (try (refine gate_guard (by rfl) ?_; dsimp only)); refine bx_ 4 #[.slice none 0 0] 50 ?_; intro gb468 hg w52 hbox hb; have BK468 := Aside0.mk (hbox); have GW468 := gw_ HB hg; have GE468 := gw_ HB hg; replace HB := bs_ HB hb; have NB463_468 := Aside0.mk ((by rw [hg]; exact Nat.ne_of_lt (blk_lt (g := gb463) (o := .cells #[.string a0_0, .slice A0_1 l0_1.length c0_1, .slice (some ad467) l0_2.length c0_2, .slice A0_3 l0_3.length c0_3] 38 (0, 0)) (up_ BK463.out)) : gb463 ≠ gb468)); have NB468_463 := Aside0.mk ((by rw [hg]; exact Nat.ne_of_gt (blk_lt (g := gb463) (o := .cells #[.string a0_0, .slice A0_1 l0_1.length c0_1, .slice (some ad467) l0_2.length c0_2, .slice A0_3 l0_3.length c0_3] 38 (0, 0)) (up_ BK463.out)) : gb468 ≠ gb463)); replace BK463 := bb_ BK463 hb; clear hb hbox hg; have hnb53 := NB468_463.out; have hnc53 := NB463_468.out; have hcz54_0 := c1_ BK468; have hfz54_0 := blk_frozen BK468.out 0))
         have n0_ : Aside0 ((w52.setCell ⟨gb468, 0, none⟩ (.slice A467_0 ((rd_T50 l0_2 x34_2).f0).length c467_0)).heap[gb463]? = some (.cells #[.string a0_0, .slice A0_1 l0_1.length c0_1, .slice (some ad467) l0_2.length c0_2, .slice A0_3 l0_3.length c0_3] 38 (0, 0))) := ⟨by (with_reducible repeat (first | refine blk_drewN ?_ _ | refine blk_drew ?_ | refine blk_alloc ?_ _)); refine blk_far ?_ NB463_468.out _; (with_reducible repeat (first | refine blk_drewN ?_ _ | refine blk_drew ?_ | refine blk_alloc ?_ _)); exact BK463.out⟩
         have n1_ : Aside0 ((w52.setCell ⟨gb468, 0, none⟩ (.slice A467_0 ((rd_T50 l0_2 x34_2).f0).length c467_0)).heap[gb468]? = some (.cells #[.slice A467_0 ((rd_T50 l0_2 x34_2).f0).length c467_0] 50 (0, 0))) := ⟨by (with_reducible repeat (first | refine blk_drewN ?_ _ | refine blk_drew ?_ | refine blk_alloc ?_ _)); refine blk_put (cs := #[.slice none 0 0]) ?_ 0 _ rfl; (with_reducible repeat (first | refine blk_drewN ?_ _ | refine blk_drew ?_ | refine blk_alloc ?_ _)); exact BK468.out⟩
         have n2_ : Aside0 (Below w.heap.size w (w52.setCell ⟨gb468, 0, none⟩ (.slice A467_0 ((rd_T50 l0_2 x34_2).f0).length c467_0))) := ⟨up_ HB.out⟩
         (try clear BK463)
         (try clear BK468)
         (try clear HB)
         generalize (w52.setCell ⟨gb468, 0, none⟩ (.slice A467_0 ((rd_T50 l0_2 x34_2).f0).length c467_0)) = w55 at n0_ n1_ n2_ ⊢
         have BK463 := n0_
         have BK468 := n1_
         have HB := n2_
         clear n0_ n1_ n2_
         have n0_ := Aside0.mk (blk_drew BK463.out)
         have n1_ := Aside0.mk (blk_drew BK468.out)
         have n2_ := Aside0.mk (below_drew1 HB.out)
         clear BK463
         clear BK468
         clear HB
         have BK463 := n0_
         have BK468 := n1_
         have HB := n2_
         clear n0_ n1_ n2_
         refine start_ (n := 23) (S := fun w' => w'.cell? ⟨gb468, 0, none⟩ = some (.slice A467_0 ((rd_T50 l0_2 x34_2).f0).length c467_0) ∧ w'.cell? ⟨gb463, 0, none⟩ = some (.string a0_0) ∧ w'.cell? ⟨gb463, 1, none⟩ = some (.slice A0_1 l0_1.length c0_1) ∧ w'.cell? ⟨gb463, 2, none⟩ = some (.slice (some ad467) l0_2.length c0_2) ∧ w'.cell? ⟨gb463, 3, none⟩ = some (.slice A0_3 l0_3.length c0_3)) (ds := []) #[false, false, false, false, false, false, false, false, false, false, false, false, false, false, false, false, false, false, false, false, false, false, false] (by kernel_rfl) rfl rfl ⟨(blk_cell BK468.out 0).trans rfl, (blk_cell BK463.out 0).trans rfl, (blk_cell BK463.out 1).trans rfl, (blk_cell BK463.out 2).trans rfl, (blk_cell BK463.out 3).trans rfl⟩ (fun hHeld => ?_); refine with_tabW impl_IsTableau.tab6 impl_IsTableau.bits6 (fun HT_ HW_ => ?_)
         generalize w55.drew = w56 at BK463 BK468 HB hHeld ⊢
         refine tk_ 0 (some 39) hHeld ?_
         refine one_ (i := 1) (N := some 40) #[true, true, false, false, false, false, false, false, false, false, false, false, false, false, false, false, false, false, false, false, false, false, false] rfl rfl (one_of HT_.out (by kernel_rfl)) (by decide) (fun K hK => ?_)
         refine goes_ Tryz.func70 (by kernel_rfl) rfl #[.agg #[.slice A467_0 ((rd_T50 l0_2 x34_2).f0).length c467_0]] (by rfl) rfl rfl am_ ?_
         with_reducible refine (impl_IsCandidate.calls k2 _ _ ((rd_T50 l0_2 x34_2).f0) true _ ?side1 ?side2 A26.out).mono ?_
         (case side1 => exact Kd.C_below HR467_0.out (up_ HB.out))
         (case side2 => exact HC467_0.out)
         rintro e w57 ⟨rfl, hb⟩
         refine ⟨_, rfl, ?_⟩
         have n0_ := bb_ BK463 hb
         have n1_ := bb_ BK468 hb
         have n2_ := bs_ HB hb
         clear BK463
         clear BK468
         clear HB
         have BK463 := n0_
         have BK468 := n1_
         have HB := n2_
         clear n0_ n1_ n2_
         (try clear hb)
         (try clear hb2)
         (try clear hk)
         (try clear hi)
         refine hK.out _ _ ⟨(blk_cell BK468.out 0).trans rfl, (blk_cell BK463.out 0).trans rfl, (blk_cell BK463.out 1).trans rfl, (blk_cell BK463.out 2).trans rfl, (blk_cell BK463.out 3).trans rfl⟩ (fun hHeld => ?_)
         clear hK K
         refine nm_ ?_
         refine pu_ 2 (some 41) ?_
         refine pu_ 3 (some 42) ?_
         refine pu_ 6 (some 45) ?_
         refine tk_ 4 (some 43) hHeld ?_
         refine tk_ 7 (some 46) hHeld ?_
         refine one_ (i := 5) (N := some 44) #[true, true, true, true, true, true, true, true, false, false, false, false, false, false, false, false, false, false, false, false, false, false, false] rfl rfl (one_of HT_.out (by kernel_rfl)) (by decide) (fun K hK => ?_)
         refine goes_ Tryz.func71 (by kernel_rfl) rfl #[.agg #[.slice A467_0 ((rd_T50 l0_2 x34_2).f0).length c467_0]] (by rfl) rfl rfl am_ ?_
         with_reducible refine (impl_InputOf.calls k2 _ _ ((rd_T50 l0_2 x34_2).f0) t470 _ ?side1 ?side2 A28.out).mono ?_
         (case side1 => exact Kd.C_below HR467_0.out (up_ HB.out))
         (case side2 => exact HC467_0.out)
         rintro e w58 ⟨rfl, hb⟩
         refine ⟨_, rfl, ?_⟩
         have n0_ := bb_ BK463 hb
         have n1_ := bb_ BK468 hb
         have n2_ := bs_ HB hb
         clear BK463
         clear BK468
         clear HB
         have BK463 := n0_
         have BK468 := n1_
         have HB := n2_
         clear n0_ n1_ n2_
         (try clear hb)
         (try clear hb2)
         (try clear hk)
         (try clear hi)
         refine hK.out _ _ ⟨(blk_cell BK468.out 0).trans rfl, (blk_cell BK463.out 0).trans rfl, (blk_cell BK463.out 1).trans rfl, (blk_cell BK463.out 2).trans rfl, (blk_cell BK463.out 3).trans rfl⟩ (fun hHeld => ?_)
         clear hK K
         refine nm_ ?_
         refine pu_ 8 (some 47) ?_
         refine pu_ 9 (some 48) ?_
         refine pu_ 10 (some 49) ?_
         refine po_ 11 (some 50) ?_
         refine po_ 12 (some 51) ?_
         refine po_ 13 (some 52) ?_
         refine po_ 14 (some 53) ?_
         refine po_ 15 (some 54) ?_
         refine po_ 16 (some 55) ?_
         refine po_ 17 (some 56) ?_
         refine po_ 18 (some 57) ?_
         refine po_ 19 (some 58) ?_
         refine po_ 20 (some 59) ?_
         refine po_ 21 (some 60) ?_
         refine pu_ 22 (some 61) ?_
         refine done_ (done_of HT_.out (by kernel_rfl)) ?_
         try go_wp2
         go_ret
         exact ⟨re_, up_ HB.out⟩
       ·obtain rfl := Option.some.inj H
        have p467 : 0 ≤ (x34_2 : Int) := od_
        have q467 : x34_2 < (l0_2.length : Int) := od_
        obtain ⟨ad467, A467_0, c467_0, e467, hx467_0, hl467_0, hi467_0⟩ := at_T50 HR0_2.out x34_2 p467 q467
        cases e467
        replace hx467_0 := bh_ HB hx467_0
        have HR467_0 := Aside0.mk hi467_0
        have HC467_0 := Aside0.mk hl467_0
        clear hi467_0 hl467_0
        replace p467 := eq_true p467
        replace q467 := eq_true q467
        try go_wp2_with (first | ((refine gd_ 4 ?_); (try (refine gate_guard (by rfl) ?_; dsimp only)); refine bx_ 4 #[.slice none 0 0] 50 ?_; intro gb468 hg w59 hbox hb; have BK468 := Aside0.mk (hbox); have GW468 := gw_ HB hg; have GE468 := gw_ HB hg; replace HB := bs_ HB hb; have NB463_468 := Aside0.mk ((by rw [hg]; exact Nat.ne_of_lt (blk_lt (g := gb463) (o := .cells #[.string a0_0, .slice A0_1 l0_1.length c0_1, .slice (some ad467) l0_2.length c0_2, .slice A0_3 l0_3.length c0_3] 38 (0, 0)) (up_ BK463.out)) : gb463 ≠ gb468)); have NB468_463 := Aside0.mk ((by rw [hg]; exact Nat.ne_of_gt (blk_lt (g := gb463) (o := .cells #[.string a0_0, .slice A0_1 l0_1.length c0_1, .slice (some ad467) l0_2.length c0_2, .slice A0_3 l0_3.length c0_3] 38 (0, 0)) (up_ BK463.out)) : gb468 ≠ gb463)); replace BK463 := bb_ BK463 hb; clear hb hbox hg; have hnb60 := NB468_463.out; have hnc60 := NB463_468.out; have hcz61_0 := c1_ BK468; have hfz61_0 := blk_frozen BK468.out 0))
        have n0_ : Aside0 ((w59.setCell ⟨gb468, 0, none⟩ (.slice A467_0 ((rd_T50 l0_2 x34_2).f0).length c467_0)).heap[gb463]? = some (.cells #[.string a0_0, .slice A0_1 l0_1.length c0_1, .slice (some ad467) l0_2.length c0_2, .slice A0_3 l0_3.length c0_3] 38 (0, 0))) := ⟨by (with_reducible repeat (first | refine blk_drewN ?_ _ | refine blk_drew ?_ | refine blk_alloc ?_ _)); refine blk_far ?_ NB463_468.out _; (with_reducible repeat (first | refine blk_drewN ?_ _ | refine blk_drew ?_ | refine blk_alloc ?_ _)); exact BK463.out⟩
        have n1_ : Aside0 ((w59.setCell ⟨gb468, 0, none⟩ (.slice A467_0 ((rd_T50 l0_2 x34_2).f0).length c467_0)).heap[gb468]? = some (.cells #[.slice A467_0 ((rd_T50 l0_2 x34_2).f0).length c467_0] 50 (0, 0))) := ⟨by (with_reducible repeat (first | refine blk_drewN ?_ _ | refine blk_drew ?_ | refine blk_alloc ?_ _)); refine blk_put (cs := #[.slice none 0 0]) ?_ 0 _ rfl; (with_reducible repeat (first | refine blk_drewN ?_ _ | refine blk_drew ?_ | refine blk_alloc ?_ _)); exact BK468.out⟩
        have n2_ : Aside0 (Below w.heap.size w (w59.setCell ⟨gb468, 0, none⟩ (.slice A467_0 ((rd_T50 l0_2 x34_2).f0).length c467_0))) := ⟨up_ HB.out⟩
        (try clear BK463)
        (try clear BK468)
        (try clear HB)
        generalize (w59.setCell ⟨gb468, 0, none⟩ (.slice A467_0 ((rd_T50 l0_2 x34_2).f0).length c467_0)) = w62 at n0_ n1_ n2_ ⊢
        have BK463 := n0_
        have BK468 := n1_
        have HB := n2_
        clear n0_ n1_ n2_
        have n0_ := Aside0.mk (blk_drew BK463.out)
        have n1_ := Aside0.mk (blk_drew BK468.out)
        have n2_ := Aside0.mk (below_drew1 HB.out)
        clear BK463
        clear BK468
        clear HB
        have BK463 := n0_
        have BK468 := n1_
        have HB := n2_
        clear n0_ n1_ n2_
        refine start_ (n := 23) (S := fun w' => w'.cell? ⟨gb468, 0, none⟩ = some (.slice A467_0 ((rd_T50 l0_2 x34_2).f0).length c467_0)) (ds := []) #[false, false, false, false, false, false, false, false, false, false, false, false, false, false, false, false, false, false, false, false, false, false, false] (by kernel_rfl) rfl rfl ((blk_cell BK468.out 0).trans rfl) (fun hHeld => ?_); refine with_tabW impl_IsTableau.tab6 impl_IsTableau.bits6 (fun HT_ HW_ => ?_)
        generalize w62.drew = w63 at BK463 BK468 HB hHeld ⊢
        refine tk_ 0 (some 39) hHeld ?_
        refine one_ (i := 1) (N := some 40) #[true, true, false, false, false, false, false, false, false, false, false, false, false, false, false, false, false, false, false, false, false, false, false] rfl rfl (one_of HT_.out (by kernel_rfl)) (by decide) (fun K hK => ?_)
        refine goes_ Tryz.func70 (by kernel_rfl) rfl #[.agg #[.slice A467_0 ((rd_T50 l0_2 x34_2).f0).length c467_0]] (by rfl) rfl rfl am_ ?_
        with_reducible refine (impl_IsCandidate.calls k2 _ _ ((rd_T50 l0_2 x34_2).f0) false _ ?side1 ?side2 A26.out).mono ?_
        (case side1 => exact Kd.C_below HR467_0.out (up_ HB.out))
        (case side2 => exact HC467_0.out)
        rintro e w64 ⟨rfl, hb⟩
        refine ⟨_, rfl, ?_⟩
        have n0_ := bb_ BK463 hb
        have n1_ := bb_ BK468 hb
        have n2_ := bs_ HB hb
        clear BK463
        clear BK468
        clear HB
        have BK463 := n0_
        have BK468 := n1_
        have HB := n2_
        clear n0_ n1_ n2_
        (try clear hb)
        (try clear hb2)
        (try clear hk)
        (try clear hi)
        refine hK.out _ _ ((blk_cell BK468.out 0).trans rfl) (fun hHeld => ?_)
        clear hK K
        refine nm_ ?_
        refine pu_ 2 (some 41) ?_
        refine pu_ 3 (some 42) ?_
        refine po_ 4 (some 43) ?_
        refine po_ 5 (some 44) ?_
        refine po_ 6 (some 45) ?_
        refine po_ 7 (some 46) ?_
        refine po_ 8 (some 47) ?_
        refine pu_ 9 (some 48) ?_
        refine pu_ 10 (some 49) ?_
        refine po_ 11 (some 50) ?_
        refine po_ 12 (some 51) ?_
        refine po_ 13 (some 52) ?_
        refine po_ 14 (some 53) ?_
        refine po_ 15 (some 54) ?_
        refine po_ 16 (some 55) ?_
        refine po_ 17 (some 56) ?_
        refine po_ 18 (some 57) ?_
        refine po_ 19 (some 58) ?_
        refine po_ 20 (some 59) ?_
        refine po_ 21 (some 60) ?_
        refine pu_ 22 (some 61) ?_
        refine done_ (done_of HT_.out (by kernel_rfl)) ?_
        try go_wp2
        go_ret
        exact ⟨re_, up_ HB.out⟩
      ·obtain rfl := Option.some.inj H
       go_wp2
       go_ret
       exact ⟨re_, up_ HB.out⟩

end Go.Proofs.YtkddpilambnicaaGreat.PFnExactDifferencesFor
