/- Walks of Go functions that the law FnExactHearAll uses: written by this session's program out of the kit's printer; each shows that a call comes to the answers of the Lean function beside it. Conditions: each contract's own. -/
import Derived.Test.YtkddpilambnicaaPFnExactHearAllx0
import Derived.Test.YtkddpilambnicaaPFnExactHearAllx3
import Derived.Test.YtkddpilambnicaaPFnExactHearAllx4
namespace Go.Proofs.Ytkddpilambnicaa.PFnExactHearAll
open Go.RowKit Go.Proofs.YtkddpilambnicaaW.PrintWords Go.Proofs.YtkddpilambnicaaW.PrintLast Go.Proofs.YtkddpilambnicaaW.PrintMore Go.Proofs.Ytkddpilambnicaa.Mac Go.Proofs.Ytkddpilambnicaa.Law
attribute [local go_sem] max2_int min2_int max_two min_two max_three min_three max_four min_four   -- for this text's walks alone
set_option linter.unusedVariables false
set_option linter.unusedSimpArgs false

/-! ### spec_StrataSatisfy: function 79 -/
mutual
def spec_StrataSatisfy.j0 : Nat → List (List Int) → Bool → List Int → Option (Bool)
 | 0, _, _, _ => none
 | k + 1, x0, x22, x179000 => if x22 = true then (some false) else (spec_StrataSatisfy.l0 k x0 0 x179000)
def spec_StrataSatisfy.l0 : Nat → List (List Int) → Int → List Int → Option (Bool)
 | 0, _, _, _ => none
 | k + 1, x0, x5, x179000 => if x5 < (x0.length : Int) then (spec_StrataSatisfy.l1 k x0 x5 false false 0 x179000) else (some true)
def spec_StrataSatisfy.l1 : Nat → List (List Int) → Int → Bool → Bool → Int → List Int → Option (Bool)
 | 0, _, _, _, _, _, _ => none
 | k + 1, x0, x5, x6, x7, x8, x179000 => if 0 ≤ x5 then (if x5 < (x0.length : Int) then (if x8 < ((rd_L1 x0 x5).length : Int) then (if x6 = true then (if x7 = true then (spec_StrataSatisfy.l1 k x0 x5 true true (wrap64 (x8 + 1)) x179000) else (if 0 ≤ x8 then (if 0 ≤ (rd (rd_L1 x0 x5) x8) then (if (rd (rd_L1 x0 x5) x8) < (x179000.length : Int) then (spec_StrataSatisfy.l1 k x0 x5 true ((rd x179000 (rd (rd_L1 x0 x5) x8)) == (-1)) (wrap64 (x8 + 1)) x179000) else (none)) else (none)) else (none))) else (if 0 ≤ x8 then (if 0 ≤ (rd (rd_L1 x0 x5) x8) then (if (rd (rd_L1 x0 x5) x8) < (x179000.length : Int) then (if x7 = true then (spec_StrataSatisfy.l1 k x0 x5 ((rd x179000 (rd (rd_L1 x0 x5) x8)) == 1) true (wrap64 (x8 + 1)) x179000) else (spec_StrataSatisfy.l1 k x0 x5 ((rd x179000 (rd (rd_L1 x0 x5) x8)) == 1) ((rd x179000 (rd (rd_L1 x0 x5) x8)) == (-1)) (wrap64 (x8 + 1)) x179000)) else (none)) else (none)) else (none))) else (if x6 = true then (some (!x7)) else (if x7 = true then (some false) else (spec_StrataSatisfy.l0 k x0 (wrap64 (x5 + 1)) x179000)))) else (none)) else (none)
end
def spec_StrataSatisfy.f (k : Nat) (l0 : List (List Int)) (l1_0 : List Int) : Option (Bool) := (spec_AreStrata.f k l0 (l1_0.length : Int)).bind fun t179 => (if t179 = true then ((spec_IsRow.f k l1_0 (l1_0.length : Int)).bind fun t180 => (spec_StrataSatisfy.j0 k l0 (!t180) l1_0)) else (spec_StrataSatisfy.j0 k l0 true l1_0))
set_option maxHeartbeats 8000000 in
set_option maxRecDepth 100000 in
theorem spec_StrataSatisfy.calls (k : Nat) (A0 : Option Addr) (c0 : Nat) (l0 : List (List Int)) (A1_0 : Option Addr) (c1_0 : Nat) (l1_0 : List Int) (r : Bool) (w : World) (hr0 : Kd.C (Kd.slice 3 (Kd.int .i64)) w A0 l0.length l0) (hc0 : l0.length ≤ c0) (hr1_0 : Kd.C (Kd.int .i64) w A1_0 l1_0.length l1_0) (hc1_0 : l1_0.length ≤ c1_0) (h : spec_StrataSatisfy.f k l0 l1_0 = some r) :
  Calls Try.prog 79 #[.slice A0 l0.length c0, .agg #[.slice A1_0 l1_0.length c1_0]] w fun e w' => e = .returned (.bool r) ∧ Below w.heap.size w w' := by
 have hu34 := Try.underlying34
 have HR0 := Aside0.mk hr0
 have HC0 := Aside0.mk hc0
 clear hr0 hc0
 have HR1_0 := Aside0.mk hr1_0
 have HC1_0 := Aside0.mk hc1_0
 clear hr1_0 hc1_0
 have HB := Aside0.mk (Below.refl w.heap.size w)
 have H : ((spec_AreStrata.f k l0 (l1_0.length : Int)).bind fun t179 => (if t179 = true then ((spec_IsRow.f k l1_0 (l1_0.length : Int)).bind fun t180 => (spec_StrataSatisfy.j0 k l0 (!t180) l1_0)) else (spec_StrataSatisfy.j0 k l0 true l1_0))) = some r := h
 clear h
 have HC3 := Aside0.mk H
 clear H
 go_enter Try.func79, Try.ntmps79
 go_upto_region 1 with (first | ((refine gd_ 3 ?_); (try (refine gate_guard (by rfl) ?_; dsimp only)); refine bx_ 3 #[.slice A1_0 l1_0.length c1_0] 34 ?_; intro gb178 hg w4 hbox hb; have BK178 := Aside0.mk (hbox); have GW178 := gw_ HB hg; have GE178 := gw_ HB hg; replace HB := bs_ HB hb; clear hb hbox hg))
 repeat (go_quiet (first | ((refine gd_ 3 ?_); (try (refine gate_guard (by rfl) ?_; dsimp only)); refine bx_ 3 #[.slice A1_0 l1_0.length c1_0] 34 ?_; intro gb178 hg w4 hbox hb; have BK178 := Aside0.mk (hbox); have GW178 := gw_ HB hg; have GE178 := gw_ HB hg; replace HB := bs_ HB hb; clear hb hbox hg)); go_upto_region 1 with (first | ((refine gd_ 3 ?_); (try (refine gate_guard (by rfl) ?_; dsimp only)); refine bx_ 3 #[.slice A1_0 l1_0.length c1_0] 34 ?_; intro gb178 hg w4 hbox hb; have BK178 := Aside0.mk (hbox); have GW178 := gw_ HB hg; have GE178 := gw_ HB hg; replace HB := bs_ HB hb; clear hb hbox hg)))
 (try simp only [Act.put, List.setIfInBounds_toArray, List.set_cons_zero, List.set_cons_succ])
 go_cut [22] (fun v22 wc => ∃ (kq : Nat) (x22_2 : Bool), v22 = .bool x22_2 ∧ Aside0 (spec_StrataSatisfy.j0 kq l0 x22_2 l1_0 = some r) ∧ Aside0 (kq ≤ k) ∧ Aside0 (wc.heap[gb178]? = some (.cells #[(.slice A1_0 l1_0.length c1_0)] 34 (0, 0))) ∧ Aside0 (Below w.heap.size w wc))
 case first =>
  have H := HC3.out
  clear HC3
  replace H := bnd_ H; obtain ⟨t179, A5, H⟩ := H
  replace H := itb_ H; rcases H with ⟨rfl, H⟩ | ⟨rfl, H⟩
  ·replace H := bnd_ H; obtain ⟨t180, A7, H⟩ := H
   have H' := Aside0.mk H
   clear H
   have hcz8_0 := c1_ BK178
   have hfz8_0 := blk_frozen BK178.out 0
   go_wp2_with (first | (go_at_call 146; (with_reducible refine (spec_AreStrata.calls k _ _ l0 (l1_0.length : Int) true _ (Kd.C_below HR0.out (up_ HB.out)) HC0.out A5.out).mono ?_); rintro e w9 ⟨rfl, hb⟩; replace BK178 := bb_ BK178 hb; replace HB := bs_ HB hb; (try clear hb); (try clear hb2); (try clear hk); (try clear hi); have hcz10_0 := c1_ BK178; have hfz10_0 := blk_frozen BK178.out 0) | (go_at_call 78; (with_reducible refine (spec_IsRow.calls k _ _ l1_0 (l1_0.length : Int) t180 _ (Kd.C_below HR1_0.out (up_ HB.out)) HC1_0.out A7.out).mono ?_); rintro e w11 ⟨rfl, hb⟩; replace BK178 := bb_ BK178 hb; replace HB := bs_ HB hb; (try clear hb); (try clear hb2); (try clear hk); (try clear hi)))
   repeat (go_quiet (first | (go_at_call 146; (with_reducible refine (spec_AreStrata.calls k _ _ l0 (l1_0.length : Int) true _ (Kd.C_below HR0.out (up_ HB.out)) HC0.out A5.out).mono ?_); rintro e w9 ⟨rfl, hb⟩; replace BK178 := bb_ BK178 hb; replace HB := bs_ HB hb; (try clear hb); (try clear hb2); (try clear hk); (try clear hi); have hcz10_0 := c1_ BK178; have hfz10_0 := blk_frozen BK178.out 0) | (go_at_call 78; (with_reducible refine (spec_IsRow.calls k _ _ l1_0 (l1_0.length : Int) t180 _ (Kd.C_below HR1_0.out (up_ HB.out)) HC1_0.out A7.out).mono ?_); rintro e w11 ⟨rfl, hb⟩; replace BK178 := bb_ BK178 hb; replace HB := bs_ HB hb; (try clear hb); (try clear hb2); (try clear hk); (try clear hi))); try go_wp2_with (first | (go_at_call 146; (with_reducible refine (spec_AreStrata.calls k _ _ l0 (l1_0.length : Int) true _ (Kd.C_below HR0.out (up_ HB.out)) HC0.out A5.out).mono ?_); rintro e w9 ⟨rfl, hb⟩; replace BK178 := bb_ BK178 hb; replace HB := bs_ HB hb; (try clear hb); (try clear hb2); (try clear hk); (try clear hi); have hcz10_0 := c1_ BK178; have hfz10_0 := blk_frozen BK178.out 0) | (go_at_call 78; (with_reducible refine (spec_IsRow.calls k _ _ l1_0 (l1_0.length : Int) t180 _ (Kd.C_below HR1_0.out (up_ HB.out)) HC1_0.out A7.out).mono ?_); rintro e w11 ⟨rfl, hb⟩; replace BK178 := bb_ BK178 hb; replace HB := bs_ HB hb; (try clear hb); (try clear hb2); (try clear hk); (try clear hi))))
   go_meet
   case rel => exact ⟨_, (!t180), rs_, H', ⟨by first | omega | exact Nat.le_refl _⟩, ⟨up_ BK178.out⟩, ⟨up_ HB.out⟩⟩
  ·have H' := Aside0.mk H
   clear H
   have hcz12_0 := c1_ BK178
   have hfz12_0 := blk_frozen BK178.out 0
   go_wp2_with (first | (go_at_call 146; (with_reducible refine (spec_AreStrata.calls k _ _ l0 (l1_0.length : Int) false _ (Kd.C_below HR0.out (up_ HB.out)) HC0.out A5.out).mono ?_); rintro e w13 ⟨rfl, hb⟩; replace BK178 := bb_ BK178 hb; replace HB := bs_ HB hb; (try clear hb); (try clear hb2); (try clear hk); (try clear hi)))
   repeat (go_quiet (first | (go_at_call 146; (with_reducible refine (spec_AreStrata.calls k _ _ l0 (l1_0.length : Int) false _ (Kd.C_below HR0.out (up_ HB.out)) HC0.out A5.out).mono ?_); rintro e w13 ⟨rfl, hb⟩; replace BK178 := bb_ BK178 hb; replace HB := bs_ HB hb; (try clear hb); (try clear hb2); (try clear hk); (try clear hi))); try go_wp2_with (first | (go_at_call 146; (with_reducible refine (spec_AreStrata.calls k _ _ l0 (l1_0.length : Int) false _ (Kd.C_below HR0.out (up_ HB.out)) HC0.out A5.out).mono ?_); rintro e w13 ⟨rfl, hb⟩; replace BK178 := bb_ BK178 hb; replace HB := bs_ HB hb; (try clear hb); (try clear hb2); (try clear hk); (try clear hi))))
   go_meet
   case rel => exact ⟨_, (true), rs_, H', ⟨by first | omega | exact Nat.le_refl _⟩, ⟨up_ BK178.out⟩, ⟨up_ HB.out⟩⟩
 case rest =>
  clear HC3
  try clear c1
  try clear p2
  try clear c6
  try clear c7
  try clear hcz10_0
  try clear hcz12_0
  try clear hcz8_0
  try clear hfz10_0
  try clear hfz12_0
  try clear hfz8_0
  obtain ⟨kq, x22_2, rfl, HA, HJ2, BK178, HB⟩ := hcut
  cases kq with
  | zero => exact absurd HA.out (by simp [spec_StrataSatisfy.j0])
  | succ kj2 =>
   have H := HA.out
   clear HA
   simp only [spec_StrataSatisfy.j0] at H
   replace H := itb_ H; rcases H with ⟨rfl, H⟩ | ⟨rfl, H⟩
   ·obtain rfl := Option.some.inj H
    go_wp2
    repeat (go_quiet (fail); try go_wp2)
    go_ret
    exact ⟨re_, up_ HB.out⟩
   ·have H' := Aside0.mk H
    clear H
    go_wp2
    repeat (go_quiet (fail); try go_wp2)
    go_loopg [5] kj2 (fun kq v5 w' => ∃ (x5_2 : Int), v5 = .int .i64 x5_2 ∧ Aside0 (spec_StrataSatisfy.l0 kq l0 x5_2 l1_0 = some r) ∧ Aside0 (kq ≤ kj2) ∧ Aside0 (w'.heap[gb178]? = some (.cells #[(.slice A1_0 l1_0.length c1_0)] 34 (0, 0))) ∧ Aside0 (Below w.heap.size w w'))
    case atStart => exact ⟨(0), rs_, H', ⟨Nat.le_refl _⟩, ⟨up_ BK178.out⟩, ⟨up_ HB.out⟩⟩
    case round =>
     clear H'
     try clear c1
     try clear p2
     try clear c6
     try clear c7
     try clear c14
     try clear hcz10_0
     try clear hcz12_0
     try clear hcz8_0
     try clear hfz10_0
     try clear hfz12_0
     try clear hfz8_0
     try clear p2
     obtain ⟨x5_2, rfl, HA, HK2, BK178, HB⟩ := hrel
     cases gk with
     | zero => exact absurd HA.out (by simp [spec_StrataSatisfy.l0])
     | succ k2 =>
      have H := HA.out
      clear HA
      simp only [spec_StrataSatisfy.l0] at H
      replace H := its_ H; rcases H with ⟨c15b0, H⟩ | ⟨c15b0, H⟩
      ·have H' := Aside0.mk H
       clear H
       go_wp2
       repeat (go_quiet (fail); try go_wp2)
       go_loopg [6, 7, 8] k2 (fun kq v6 v7 v8 w' => ∃ (x6_3 : Bool) (x7_3 : Bool) (x8_3 : Int), v6 = .bool x6_3 ∧ v7 = .bool x7_3 ∧ v8 = .int .i64 x8_3 ∧ Aside0 (spec_StrataSatisfy.l1 kq l0 x5_2 x6_3 x7_3 x8_3 l1_0 = some r) ∧ Aside0 (kq ≤ k2) ∧ Aside0 (w'.heap[gb178]? = some (.cells #[(.slice A1_0 l1_0.length c1_0)] 34 (0, 0))) ∧ Aside0 (Below w.heap.size w w'))
       case atStart => exact ⟨(false), (false), (0), rs_, rs_, rs_, H', ⟨Nat.le_refl _⟩, ⟨up_ BK178.out⟩, ⟨up_ HB.out⟩⟩
       case round =>
        clear H'
        try clear c1
        try clear p2
        try clear c6
        try clear c7
        try clear c14
        try clear c15
        try clear c15b0
        try clear hcz10_0
        try clear hcz12_0
        try clear hcz8_0
        try clear hfz10_0
        try clear hfz12_0
        try clear hfz8_0
        try clear p2
        obtain ⟨x6_3, x7_3, x8_3, rfl, rfl, rfl, HA, HK3, BK178, HB⟩ := hrel
        cases gk with
        | zero => exact absurd HA.out (by simp [spec_StrataSatisfy.l1])
        | succ k3 =>
         have H := HA.out
         clear HA
         simp only [spec_StrataSatisfy.l1] at H
         replace H := its_ H; rcases H with ⟨c16b0, H⟩ | ⟨_, ⟨⟩⟩
         replace H := its_ H; rcases H with ⟨c17b0, H⟩ | ⟨_, ⟨⟩⟩
         replace H := its_ H; rcases H with ⟨c18b0, H⟩ | ⟨c18b0, H⟩
         ·replace H := itb_ H; rcases H with ⟨rfl, H⟩ | ⟨rfl, H⟩
          ·replace H := itb_ H; rcases H with ⟨rfl, H⟩ | ⟨rfl, H⟩
           ·have H' := Aside0.mk H
            clear H
            have p181 : 0 ≤ (x5_2 : Int) := od_
            have q181 : x5_2 < (l0.length : Int) := od_
            obtain ⟨ad181, A181_0, c181_0, e181, hx181_0, hl181_0, hi181_0⟩ := at_L1 HR0.out x5_2 p181 q181
            cases e181
            replace hx181_0 := bh_ HB hx181_0
            have HR181_0 := Aside0.mk hi181_0
            have HC181_0 := Aside0.mk hl181_0
            clear hi181_0 hl181_0
            replace p181 := eq_true p181
            replace q181 := eq_true q181
            go_wp2
            repeat (go_quiet (fail); try go_wp2)
            go_roundg k3
            case measure => have := HJ2.out; have := HK2.out; have := HK3.out; omega
            case rel => exact ⟨(true), (true), (wrap64 (x8_3 + 1)), rs_, rs_, rs_, H', ⟨by have := HJ2.out; have := HK2.out; have := HK3.out; omega⟩, ⟨up_ BK178.out⟩, ⟨up_ HB.out⟩⟩
           ·replace H := its_ H; rcases H with ⟨c21b0, H⟩ | ⟨_, ⟨⟩⟩
            replace H := its_ H; rcases H with ⟨c22b0, H⟩ | ⟨_, ⟨⟩⟩
            replace H := its_ H; rcases H with ⟨c23b0, H⟩ | ⟨_, ⟨⟩⟩
            have H' := Aside0.mk H
            clear H
            have p181 : 0 ≤ (x5_2 : Int) := od_
            have q181 : x5_2 < (l0.length : Int) := od_
            obtain ⟨ad181, A181_0, c181_0, e181, hx181_0, hl181_0, hi181_0⟩ := at_L1 HR0.out x5_2 p181 q181
            cases e181
            replace hx181_0 := bh_ HB hx181_0
            have HR181_0 := Aside0.mk hi181_0
            have HC181_0 := Aside0.mk hl181_0
            clear hi181_0 hl181_0
            replace p181 := eq_true p181
            replace q181 := eq_true q181
            have hcz24_0 := c1_ BK178
            have hfz24_0 := blk_frozen BK178.out 0
            have p182 : 0 ≤ (x5_2 : Int) := od_
            have q182 : x5_2 < (l0.length : Int) := od_
            obtain ⟨ad182, A182_0, c182_0, e182, hx182_0, hl182_0, hi182_0⟩ := at_L1 HR0.out x5_2 p182 q182
            obtain rfl : ad181 = ad182 := (by injection e182)
            replace hx182_0 := bh_ HB hx182_0
            have HR182_0 := Aside0.mk hi182_0
            have HC182_0 := Aside0.mk hl182_0
            clear hi182_0 hl182_0
            replace p182 := eq_true p182
            replace q182 := eq_true q182
            have ea_ := Option.some.inj (hx181_0.symm.trans hx182_0)
            injection ea_ with ea_ en_ ec_
            subst ea_
            subst ec_
            clear en_
            have p183 : 0 ≤ (x8_3 : Int) := od_
            have q183 : x8_3 < ((rd_L1 l0 x5_2).length : Int) := od_
            obtain ⟨ad183, e183, hx183_0⟩ := Kd.at_int HR182_0.out x8_3 p183 q183
            cases e183
            replace hx183_0 := bh_ HB hx183_0
            replace p183 := eq_true p183
            replace q183 := eq_true q183
            have p184 : 0 ≤ ((rd (rd_L1 l0 x5_2) x8_3) : Int) := od_
            have q184 : (rd (rd_L1 l0 x5_2) x8_3) < (l1_0.length : Int) := od_
            obtain ⟨ad184, e184, hx184_0⟩ := Kd.at_int HR1_0.out (rd (rd_L1 l0 x5_2) x8_3) p184 q184
            cases e184
            replace hx184_0 := bh_ HB hx184_0
            replace p184 := eq_true p184
            replace q184 := eq_true q184
            go_wp2
            repeat (go_quiet (fail); try go_wp2)
            go_roundg k3
            case measure => have := HJ2.out; have := HK2.out; have := HK3.out; omega
            case rel => exact ⟨(true), (((rd l1_0 (rd (rd_L1 l0 x5_2) x8_3)) == (-1))), (wrap64 (x8_3 + 1)), rs_, rs_, rs_, H', ⟨by have := HJ2.out; have := HK2.out; have := HK3.out; omega⟩, ⟨up_ BK178.out⟩, ⟨up_ HB.out⟩⟩
          ·replace H := its_ H; rcases H with ⟨c25b0, H⟩ | ⟨_, ⟨⟩⟩
           replace H := its_ H; rcases H with ⟨c26b0, H⟩ | ⟨_, ⟨⟩⟩
           replace H := its_ H; rcases H with ⟨c27b0, H⟩ | ⟨_, ⟨⟩⟩
           replace H := itb_ H; rcases H with ⟨rfl, H⟩ | ⟨rfl, H⟩
           ·have H' := Aside0.mk H
            clear H
            have p181 : 0 ≤ (x5_2 : Int) := od_
            have q181 : x5_2 < (l0.length : Int) := od_
            obtain ⟨ad181, A181_0, c181_0, e181, hx181_0, hl181_0, hi181_0⟩ := at_L1 HR0.out x5_2 p181 q181
            cases e181
            replace hx181_0 := bh_ HB hx181_0
            have HR181_0 := Aside0.mk hi181_0
            have HC181_0 := Aside0.mk hl181_0
            clear hi181_0 hl181_0
            replace p181 := eq_true p181
            replace q181 := eq_true q181
            have hcz29_0 := c1_ BK178
            have hfz29_0 := blk_frozen BK178.out 0
            have p185 : 0 ≤ (x5_2 : Int) := od_
            have q185 : x5_2 < (l0.length : Int) := od_
            obtain ⟨ad185, A185_0, c185_0, e185, hx185_0, hl185_0, hi185_0⟩ := at_L1 HR0.out x5_2 p185 q185
            obtain rfl : ad181 = ad185 := (by injection e185)
            replace hx185_0 := bh_ HB hx185_0
            have HR185_0 := Aside0.mk hi185_0
            have HC185_0 := Aside0.mk hl185_0
            clear hi185_0 hl185_0
            replace p185 := eq_true p185
            replace q185 := eq_true q185
            have ea_ := Option.some.inj (hx181_0.symm.trans hx185_0)
            injection ea_ with ea_ en_ ec_
            subst ea_
            subst ec_
            clear en_
            have p186 : 0 ≤ (x8_3 : Int) := od_
            have q186 : x8_3 < ((rd_L1 l0 x5_2).length : Int) := od_
            obtain ⟨ad186, e186, hx186_0⟩ := Kd.at_int HR185_0.out x8_3 p186 q186
            cases e186
            replace hx186_0 := bh_ HB hx186_0
            replace p186 := eq_true p186
            replace q186 := eq_true q186
            have p187 : 0 ≤ ((rd (rd_L1 l0 x5_2) x8_3) : Int) := od_
            have q187 : (rd (rd_L1 l0 x5_2) x8_3) < (l1_0.length : Int) := od_
            obtain ⟨ad187, e187, hx187_0⟩ := Kd.at_int HR1_0.out (rd (rd_L1 l0 x5_2) x8_3) p187 q187
            cases e187
            replace hx187_0 := bh_ HB hx187_0
            replace p187 := eq_true p187
            replace q187 := eq_true q187
            go_wp2
            repeat (go_quiet (fail); try go_wp2)
            go_roundg k3
            case measure => have := HJ2.out; have := HK2.out; have := HK3.out; omega
            case rel => exact ⟨(((rd l1_0 (rd (rd_L1 l0 x5_2) x8_3)) == 1)), (true), (wrap64 (x8_3 + 1)), rs_, rs_, rs_, H', ⟨by have := HJ2.out; have := HK2.out; have := HK3.out; omega⟩, ⟨up_ BK178.out⟩, ⟨up_ HB.out⟩⟩
           ·have H' := Aside0.mk H
            clear H
            have p181 : 0 ≤ (x5_2 : Int) := od_
            have q181 : x5_2 < (l0.length : Int) := od_
            obtain ⟨ad181, A181_0, c181_0, e181, hx181_0, hl181_0, hi181_0⟩ := at_L1 HR0.out x5_2 p181 q181
            cases e181
            replace hx181_0 := bh_ HB hx181_0
            have HR181_0 := Aside0.mk hi181_0
            have HC181_0 := Aside0.mk hl181_0
            clear hi181_0 hl181_0
            replace p181 := eq_true p181
            replace q181 := eq_true q181
            have hcz30_0 := c1_ BK178
            have hfz30_0 := blk_frozen BK178.out 0
            have p185 : 0 ≤ (x5_2 : Int) := od_
            have q185 : x5_2 < (l0.length : Int) := od_
            obtain ⟨ad185, A185_0, c185_0, e185, hx185_0, hl185_0, hi185_0⟩ := at_L1 HR0.out x5_2 p185 q185
            obtain rfl : ad181 = ad185 := (by injection e185)
            replace hx185_0 := bh_ HB hx185_0
            have HR185_0 := Aside0.mk hi185_0
            have HC185_0 := Aside0.mk hl185_0
            clear hi185_0 hl185_0
            replace p185 := eq_true p185
            replace q185 := eq_true q185
            have ea_ := Option.some.inj (hx181_0.symm.trans hx185_0)
            injection ea_ with ea_ en_ ec_
            subst ea_
            subst ec_
            clear en_
            have p186 : 0 ≤ (x8_3 : Int) := od_
            have q186 : x8_3 < ((rd_L1 l0 x5_2).length : Int) := od_
            obtain ⟨ad186, e186, hx186_0⟩ := Kd.at_int HR185_0.out x8_3 p186 q186
            cases e186
            replace hx186_0 := bh_ HB hx186_0
            replace p186 := eq_true p186
            replace q186 := eq_true q186
            have p187 : 0 ≤ ((rd (rd_L1 l0 x5_2) x8_3) : Int) := od_
            have q187 : (rd (rd_L1 l0 x5_2) x8_3) < (l1_0.length : Int) := od_
            obtain ⟨ad187, e187, hx187_0⟩ := Kd.at_int HR1_0.out (rd (rd_L1 l0 x5_2) x8_3) p187 q187
            cases e187
            replace hx187_0 := bh_ HB hx187_0
            replace p187 := eq_true p187
            replace q187 := eq_true q187
            have p188 : 0 ≤ (x5_2 : Int) := od_
            have q188 : x5_2 < (l0.length : Int) := od_
            obtain ⟨ad188, A188_0, c188_0, e188, hx188_0, hl188_0, hi188_0⟩ := at_L1 HR0.out x5_2 p188 q188
            obtain rfl : ad181 = ad188 := (by injection e188)
            replace hx188_0 := bh_ HB hx188_0
            have HR188_0 := Aside0.mk hi188_0
            have HC188_0 := Aside0.mk hl188_0
            clear hi188_0 hl188_0
            replace p188 := eq_true p188
            replace q188 := eq_true q188
            have ea_ := Option.some.inj (hx181_0.symm.trans hx188_0)
            injection ea_ with ea_ en_ ec_
            subst ea_
            subst ec_
            clear en_
            have p189 : 0 ≤ (x8_3 : Int) := od_
            have q189 : x8_3 < ((rd_L1 l0 x5_2).length : Int) := od_
            obtain ⟨ad189, e189, hx189_0⟩ := Kd.at_int HR188_0.out x8_3 p189 q189
            cases e189
            replace hx189_0 := bh_ HB hx189_0
            replace p189 := eq_true p189
            replace q189 := eq_true q189
            have p190 : 0 ≤ ((rd (rd_L1 l0 x5_2) x8_3) : Int) := od_
            have q190 : (rd (rd_L1 l0 x5_2) x8_3) < (l1_0.length : Int) := od_
            obtain ⟨ad190, e190, hx190_0⟩ := Kd.at_int HR1_0.out (rd (rd_L1 l0 x5_2) x8_3) p190 q190
            obtain rfl : ad187 = ad190 := (by injection e190)
            replace hx190_0 := bh_ HB hx190_0
            replace p190 := eq_true p190
            replace q190 := eq_true q190
            go_wp2
            repeat (go_quiet (fail); try go_wp2)
            go_roundg k3
            case measure => have := HJ2.out; have := HK2.out; have := HK3.out; omega
            case rel => exact ⟨(((rd l1_0 (rd (rd_L1 l0 x5_2) x8_3)) == 1)), (((rd l1_0 (rd (rd_L1 l0 x5_2) x8_3)) == (-1))), (wrap64 (x8_3 + 1)), rs_, rs_, rs_, H', ⟨by have := HJ2.out; have := HK2.out; have := HK3.out; omega⟩, ⟨up_ BK178.out⟩, ⟨up_ HB.out⟩⟩
         ·replace H := itb_ H; rcases H with ⟨rfl, H⟩ | ⟨rfl, H⟩
          ·obtain rfl := Option.some.inj H
           have p181 : 0 ≤ (x5_2 : Int) := od_
           have q181 : x5_2 < (l0.length : Int) := od_
           obtain ⟨ad181, A181_0, c181_0, e181, hx181_0, hl181_0, hi181_0⟩ := at_L1 HR0.out x5_2 p181 q181
           cases e181
           replace hx181_0 := bh_ HB hx181_0
           have HR181_0 := Aside0.mk hi181_0
           have HC181_0 := Aside0.mk hl181_0
           clear hi181_0 hl181_0
           replace p181 := eq_true p181
           replace q181 := eq_true q181
           go_wp2
           repeat (go_quiet (fail); try go_wp2)
           go_ret
           exact ⟨re_, up_ HB.out⟩
          ·replace H := itb_ H; rcases H with ⟨rfl, H⟩ | ⟨rfl, H⟩
           ·obtain rfl := Option.some.inj H
            have p181 : 0 ≤ (x5_2 : Int) := od_
            have q181 : x5_2 < (l0.length : Int) := od_
            obtain ⟨ad181, A181_0, c181_0, e181, hx181_0, hl181_0, hi181_0⟩ := at_L1 HR0.out x5_2 p181 q181
            cases e181
            replace hx181_0 := bh_ HB hx181_0
            have HR181_0 := Aside0.mk hi181_0
            have HC181_0 := Aside0.mk hl181_0
            clear hi181_0 hl181_0
            replace p181 := eq_true p181
            replace q181 := eq_true q181
            go_wp2
            repeat (go_quiet (fail); try go_wp2)
            go_ret
            exact ⟨re_, up_ HB.out⟩
           ·have H' := Aside0.mk H
            clear H
            have p181 : 0 ≤ (x5_2 : Int) := od_
            have q181 : x5_2 < (l0.length : Int) := od_
            obtain ⟨ad181, A181_0, c181_0, e181, hx181_0, hl181_0, hi181_0⟩ := at_L1 HR0.out x5_2 p181 q181
            cases e181
            replace hx181_0 := bh_ HB hx181_0
            have HR181_0 := Aside0.mk hi181_0
            have HC181_0 := Aside0.mk hl181_0
            clear hi181_0 hl181_0
            replace p181 := eq_true p181
            replace q181 := eq_true q181
            go_wp2
            repeat (go_quiet (fail); try go_wp2)
            go_roundg k3
            case measure => have := HJ2.out; have := HK2.out; have := HK3.out; omega
            case rel => exact ⟨(wrap64 (x5_2 + 1)), rs_, H', ⟨by have := HJ2.out; have := HK2.out; have := HK3.out; omega⟩, ⟨up_ BK178.out⟩, ⟨up_ HB.out⟩⟩
      ·obtain rfl := Option.some.inj H
       go_wp2
       repeat (go_quiet (fail); try go_wp2)
       go_ret
       exact ⟨re_, up_ HB.out⟩

/-! ### spec_l22Stratum: function 80 -/
def spec_l22Stratum.l0 : Nat → List (List Int) → Int → Int → Option (Int)
 | 0, _, _, _ => none
 | k + 1, x0, x1, x5 => if x5 < (x0.length : Int) then (if 0 ≤ x5 then ((spec_l12Has.f k (rd_L1 x0 x5) x1).bind fun t192 => (if t192 = true then (some x5) else (spec_l22Stratum.l0 k x0 x1 (wrap64 (x5 + 1))))) else (none)) else (some (-1))
def spec_l22Stratum.f (k : Nat) (l0 : List (List Int)) (a1 : Int) : Option (Int) := spec_l22Stratum.l0 k l0 a1 0
set_option maxHeartbeats 8000000 in
set_option maxRecDepth 100000 in
theorem spec_l22Stratum.calls (k : Nat) (A0 : Option Addr) (c0 : Nat) (l0 : List (List Int)) (a1 : Int) (r : Int) (w : World) (hr0 : Kd.C (Kd.slice 3 (Kd.int .i64)) w A0 l0.length l0) (hc0 : l0.length ≤ c0) (h : spec_l22Stratum.f k l0 a1 = some r) :
  Calls Try.prog 80 #[.slice A0 l0.length c0, .int .i64 a1] w fun e w' => e = .returned (.int .i64 r) ∧ Drawn0 w w' := by
 have HR0 := Aside0.mk hr0
 have HC0 := Aside0.mk hc0
 clear hr0 hc0
 have H : (spec_l22Stratum.l0 k l0 a1 0) = some r := h
 clear h
 have H' := Aside0.mk H
 clear H
 go_enter Try.func80, Try.ntmps80
 go_wp2
 go_loopg [5] k (fun kq v5 w' => ∃ (x5_1 : Int), v5 = .int .i64 x5_1 ∧ Aside0 (spec_l22Stratum.l0 kq l0 a1 x5_1 = some r) ∧ Aside0 (kq ≤ k) ∧ Drawn0 w w')
 case atStart => exact ⟨(0), rs_, H', ⟨Nat.le_refl _⟩, dn_⟩
 case round =>
  clear H'
  try clear p2
  obtain ⟨x5_1, rfl, HA, HK1, ⟨m1, rfl⟩⟩ := hrel
  cases gk with
  | zero => exact absurd HA.out (by simp [spec_l22Stratum.l0])
  | succ k1 =>
   have H := HA.out
   clear HA
   simp only [spec_l22Stratum.l0] at H
   replace H := its_ H; rcases H with ⟨c3b0, H⟩ | ⟨c3b0, H⟩
   ·replace H := its_ H; rcases H with ⟨c4b0, H⟩ | ⟨_, ⟨⟩⟩
    replace H := bnd_ H; obtain ⟨t192, A5, H⟩ := H
    replace H := itb_ H; rcases H with ⟨rfl, H⟩ | ⟨rfl, H⟩
    ·obtain rfl := Option.some.inj H
     have p191 : 0 ≤ (x5_1 : Int) := od_
     have q191 : x5_1 < (l0.length : Int) := od_
     obtain ⟨ad191, A191_0, c191_0, e191, hx191_0, hl191_0, hi191_0⟩ := at_L1 HR0.out x5_1 p191 q191
     cases e191
     have HR191_0 := Aside0.mk hi191_0
     have HC191_0 := Aside0.mk hl191_0
     clear hi191_0 hl191_0
     replace p191 := eq_true p191
     replace q191 := eq_true q191
     go_wp2_with (first | ((refine gc_ 147 ?_); refine goesL_ (some 17) rfl rfl Try.func147 (by kernel_rfl) rfl #[.slice A191_0 (rd_L1 l0 x5_1).length c191_0, .int .i64 a1] rfl am_ ?_; (with_reducible refine (spec_l12Has.calls k1 _ _ (rd_L1 l0 x5_1) a1 true _ ?side1 ?side2 A5.out).mono ?_); (case side1 => repeat (first | exact HR191_0.out | (with_reducible refine Kd.C_alloc ?_ _) | (with_reducible refine Kd.C_drewN ?_ _) | (with_reducible refine Kd.C_drew ?_))); (case side2 => exact HC191_0.out); rintro e w' ⟨rfl, ⟨nd, rfl⟩⟩; refine ⟨_, rfl, ?_⟩))
     go_ret
     exact ⟨rs_, dn_⟩
    ·have H' := Aside0.mk H
     clear H
     have p191 : 0 ≤ (x5_1 : Int) := od_
     have q191 : x5_1 < (l0.length : Int) := od_
     obtain ⟨ad191, A191_0, c191_0, e191, hx191_0, hl191_0, hi191_0⟩ := at_L1 HR0.out x5_1 p191 q191
     cases e191
     have HR191_0 := Aside0.mk hi191_0
     have HC191_0 := Aside0.mk hl191_0
     clear hi191_0 hl191_0
     replace p191 := eq_true p191
     replace q191 := eq_true q191
     go_wp2_with (first | ((refine gc_ 147 ?_); refine goesL_ (some 17) rfl rfl Try.func147 (by kernel_rfl) rfl #[.slice A191_0 (rd_L1 l0 x5_1).length c191_0, .int .i64 a1] rfl am_ ?_; (with_reducible refine (spec_l12Has.calls k1 _ _ (rd_L1 l0 x5_1) a1 false _ ?side1 ?side2 A5.out).mono ?_); (case side1 => repeat (first | exact HR191_0.out | (with_reducible refine Kd.C_alloc ?_ _) | (with_reducible refine Kd.C_drewN ?_ _) | (with_reducible refine Kd.C_drew ?_))); (case side2 => exact HC191_0.out); rintro e w' ⟨rfl, ⟨nd, rfl⟩⟩; refine ⟨_, rfl, ?_⟩))
     go_roundg k1
     case measure => have := HK1.out; omega
     case rel => exact ⟨(wrap64 (x5_1 + 1)), rs_, H', ⟨by have := HK1.out; omega⟩, dn_⟩
   ·obtain rfl := Option.some.inj H
    go_wp2
    go_ret
    exact ⟨rs_, dn_⟩

/-! ### spec_l22Sorted: function 81 -/
def spec_l22Sorted.l0 : Nat → List Int → List Int → Int → Option (List Int)
 | 0, _, _, _ => none
 | k + 1, x0, x3, x4 => if x4 < 5 then ((spec_l12Has.f k x0 x4).bind fun t196 => (if t196 = true then (if x3.length < 17592186044416 then (spec_l22Sorted.l0 k x0 (x3 ++ [x4]) (wrap64 (x4 + 1))) else (none)) else (spec_l22Sorted.l0 k x0 x3 (wrap64 (x4 + 1))))) else (some x3)
def spec_l22Sorted.f (k : Nat) (l0 : List Int) : Option (List Int) := spec_l22Sorted.l0 k l0 (([] : List Int)) 0
set_option maxHeartbeats 8000000 in
set_option maxRecDepth 100000 in
theorem spec_l22Sorted.calls (k : Nat) (A0 : Option Addr) (c0 : Nat) (l0 : List Int) (r : List Int) (w : World) (hr0 : Kd.C (Kd.int .i64) w A0 l0.length l0) (hc0 : l0.length ≤ c0) (h : spec_l22Sorted.f k l0 = some r) :
  Calls Try.prog 81 #[.slice A0 l0.length c0] w fun e w' => ∃ v0_ : Value, e = .returned (v0_) ∧ Kd.R (Kd.int .i64) 3 w' w.heap.size (fun _ => True) v0_ r ∧ Below w.heap.size w w' := by
 have HR0 := Aside0.mk hr0
 have HC0 := Aside0.mk hc0
 clear hr0 hc0
 have HB := Aside0.mk (Below.refl w.heap.size w)
 have H : (spec_l22Sorted.l0 k l0 (([] : List Int)) 0) = some r := h
 clear h
 obtain ⟨y193, hy193⟩ : ∃ y_ : List Int, y_ = (([] : List Int)) := ⟨_, rfl⟩
 replace H : (spec_l22Sorted.l0 k l0 y193 0) = some r := rh_ hy193 H
 have Ny193 := Aside0.mk hy193
 clear hy193
 have H' := Aside0.mk H
 clear H
 go_enter Try.func81, Try.ntmps81
 go_wp2_with (first | ((refine gd_ 5 ?_); refine Kd.R_lit (Kd.int .i64) _ 3 ?hg (N := 5) ?hd (xs := ([] : List Int)) (inner := []) (ok := fun _ => True) (okp := fun _ => True) ?hr ?hp (fun _ hk => hk) trivial (Below.refl _ _) (Nat.le_refl _) (by simp) ?_; (case hd => rfl); (case hg => rfl); (case hr => first | (go_simp; done) | (go_simp; rfl)); (case hp => exact (Reps.none _ _)); intro v194 w2 ho3 hb hg_ hnew_; clear hg_ hnew_; (first | rw [← Ny193.out] at ho3 | (simp only [Int.reduceToNat] at ho3; rw [← Ny193.out] at ho3)); have HO195 := Aside0.mk (Kd.R_lower ho3 (below_size (up_ HB.out))); replace HB := bs_ HB hb; clear hb ho3))
 go_loopg [3, 4] k (fun kq v3 v4 w' => ∃ (x3_1 : List Int) (x4_1 : Int), v4 = .int .i64 x4_1 ∧ Aside0 (spec_l22Sorted.l0 kq l0 x3_1 x4_1 = some r) ∧ Aside0 (kq ≤ k) ∧ Aside0 (Kd.R (Kd.int .i64) 3 w' w.heap.size (fun _ => True) v3 x3_1) ∧ Aside0 (Below w.heap.size w w'))
 case atStart => exact ⟨(y193), (0), rs_, H', ⟨Nat.le_refl _⟩, ⟨up_ HO195.out⟩, ⟨up_ HB.out⟩⟩
 case round =>
  clear H'
  try clear p2
  obtain ⟨x3_1, x4_1, rfl, HA, HK1, HO_3, HB⟩ := hrel
  cases gk with
  | zero => exact absurd HA.out (by simp [spec_l22Sorted.l0])
  | succ k1 =>
   have H := HA.out
   clear HA
   simp only [spec_l22Sorted.l0] at H
   replace H := its_ H; rcases H with ⟨c4b0, H⟩ | ⟨c4b0, H⟩
   ·replace H := bnd_ H; obtain ⟨t196, A5, H⟩ := H
    replace H := itb_ H; rcases H with ⟨rfl, H⟩ | ⟨rfl, H⟩
    ·by_cases c7 : x3_1.length < 17592186044416
     ·rw [if_pos c7] at H
      have LMc7 := Aside0.mk c7
      clear c7
      obtain ⟨y197, hy197⟩ : ∃ y_ : List Int, y_ = (x3_1 ++ [x4_1]) := ⟨_, rfl⟩
      replace H : (spec_l22Sorted.l0 k1 l0 y197 (wrap64 (x4_1 + 1))) = some r := rh_ hy197 H
      have Ny197 := Aside0.mk hy197
      clear hy197
      have H' := Aside0.mk H
      clear H
      go_wp2_with (first | ((refine gc_ 147 ?_); refine gq_ (some 12) Try.func147 (spec_l12Has.calls k1 _ _ l0 x4_1 true _ (Kd.C_below HR0.out (up_ HB.out)) HC0.out A5.out) (fun nd => ?_)) | ((with_reducible refine gate_builtin (b := .append) (xs := #[.tmp 13, .tmp 15]) rfl ?_); at_builtin; refine Kd.R_append (Kd.int .i64) (w0 := w) w.heap.size rfl (.tmp 13) (.tmp 15) 25 3 (.int .i64 0) 8 rfl Try.underlying25 info3 rfl (by decide) (by omega) u3 x3_1 x4_1 [.int .i64 x4_1] (fun _ => True) (fun _ => False) rfl rfl ?aP (fun _ hk => hk.elim) ?aF ?aO ?aB ?aS ?aL ?_; (case aP => exact rfl); (case aB => exact (up_ HB.out)); (case aF => exact (fun _ _ => trivial)); (case aO => exact (up_ HO_3.out)); (case aS => exact (below_size (up_ HB.out))); (case aL => have := LMc7.out; omega); intro v198 w8 ho hb hg hat; rw [← Ny197.out] at ho; have n0_ := Aside0.mk (hb); have n1_ := Aside0.mk (ho); clear HB; clear HO_3; have HB := n0_; have HO199 := n1_; clear n0_ n1_; clear ho hb hg hat))
      go_roundg k1
      case measure => have := HK1.out; omega
      case rel => exact ⟨(y197), (wrap64 (x4_1 + 1)), rs_, H', ⟨by have := HK1.out; omega⟩, ⟨up_ HO199.out⟩, ⟨up_ HB.out⟩⟩
     ·rw [if_neg c7] at H
      exact absurd H (by simp)
    ·have H' := Aside0.mk H
     clear H
     go_wp2_with (first | ((refine gc_ 147 ?_); refine gq_ (some 12) Try.func147 (spec_l12Has.calls k1 _ _ l0 x4_1 false _ (Kd.C_below HR0.out (up_ HB.out)) HC0.out A5.out) (fun nd => ?_)))
     go_roundg k1
     case measure => have := HK1.out; omega
     case rel => exact ⟨(x3_1), (wrap64 (x4_1 + 1)), rs_, H', ⟨by have := HK1.out; omega⟩, ⟨up_ HO_3.out⟩, ⟨up_ HB.out⟩⟩
   ·obtain rfl := Option.some.inj H
    go_wp2
    go_ret
    exact ⟨_, re_, by (with_reducible repeat (first | apply Kd.R_alloc | apply Kd.R_drewN | apply Kd.R_drew)); exact HO_3.out, up_ HB.out⟩

end Go.Proofs.Ytkddpilambnicaa.PFnExactHearAll
