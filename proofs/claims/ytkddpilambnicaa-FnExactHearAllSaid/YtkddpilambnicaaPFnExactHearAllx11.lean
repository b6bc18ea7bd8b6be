/- Walks of Go functions that the law FnExactHearAll uses: written by this session's program out of the kit's printer; each shows that a call comes to the answers of the Lean function beside it. Conditions: each contract's own. -/
import Derived.Test.YtkddpilambnicaaPFnExactHearAllx0
import Derived.Test.YtkddpilambnicaaPFnExactHearAllx10
namespace Go.Proofs.Ytkddpilambnicaa.PFnExactHearAll
open Go.RowKit Go.Proofs.YtkddpilambnicaaW.PrintWords Go.Proofs.YtkddpilambnicaaW.PrintLast Go.Proofs.YtkddpilambnicaaW.PrintMore Go.Proofs.Ytkddpilambnicaa.Mac Go.Proofs.Ytkddpilambnicaa.Law
attribute [local go_sem] max2_int min2_int max_two min_two max_three min_three max_four min_four   -- for this text's walks alone
set_option linter.unusedVariables false
set_option linter.unusedSimpArgs false

/-! ### impl_copyRows: function 91 -/
def impl_copyRows.l0 : Nat → List (List Int) → List (List Int) → Int → Int → Option ((List (List Int)))
 | 0, _, _, _, _ => none
 | k + 1, x3, x7, x8, x9 => if x9 < x8 then (if 0 ≤ x9 then (if x9 < (x7.length : Int) then ((slices_Clone_int_int.f (rd_L1 x7 x9)).bind fun t338 => (if x3.length < 5864062014805 then (impl_copyRows.l0 k (x3 ++ [t338]) x7 x8 (wrap64 (x9 + 1))) else (none))) else (none)) else (none)) else (some x3)
def impl_copyRows.f (k : Nat) (l0 : List (List Int)) : Option ((List (List Int))) := impl_copyRows.l0 k (([] : List (List Int))) l0 (l0.length : Int) 0
set_option maxHeartbeats 8000000 in
set_option maxRecDepth 100000 in
theorem impl_copyRows.calls (k : Nat) (A0 : Option Addr) (c0 : Nat) (l0 : List (List Int)) (r : List (List Int)) (w : World) (hr0 : Kd.C (Kd.slice 3 (Kd.int .i64)) w A0 l0.length l0) (hc0 : l0.length ≤ c0) (h : impl_copyRows.f k l0 = some r) :
  Calls Try.prog 91 #[.slice A0 l0.length c0] w fun e w' => ∃ v0_ : Value, e = .returned (v0_) ∧ Kd.S (Kd.slice 3 (Kd.int .i64)) 25 w' w.heap.size (fun _ => True) v0_ r ∧ Below w.heap.size w w' := by
 have HR0 := Aside0.mk hr0
 have HC0 := Aside0.mk hc0
 clear hr0 hc0
 have HB := Aside0.mk (Below.refl w.heap.size w)
 have H : (impl_copyRows.l0 k (([] : List (List Int))) l0 (l0.length : Int) 0) = some r := h
 clear h
 obtain ⟨y334, hy334⟩ : ∃ y_ : List (List Int), y_ = (([] : List (List Int))) := ⟨_, rfl⟩
 replace H : (impl_copyRows.l0 k y334 l0 (l0.length : Int) 0) = some r := rh_ hy334 H
 have Ny334 := Aside0.mk hy334
 clear hy334
 have H' := Aside0.mk H
 clear H
 go_enter Try.func91, Try.ntmps91
 go_wp2_with (first | ((refine gd_ 6 ?_); refine Kd.S_lit (Kd.slice 3 (Kd.int .i64)) _ 25 ?hg (N := 6) ?hd (xs := ([] : List (List Int))) (inner := []) (ok := fun _ => True) (okp := fun _ => True) ?hr ?hp (fun _ hk => hk) trivial (Below.refl _ _) (Nat.le_refl _) (by simp) ?_; (case hd => rfl); (case hg => rfl); (case hr => first | (go_simp; done) | (go_simp; rfl)); (case hp => exact (Reps.none _ _)); intro v335 w2 ho3 hb hg_ hnew_; clear hg_ hnew_; (first | rw [← Ny334.out] at ho3 | (simp only [Int.reduceToNat] at ho3; rw [← Ny334.out] at ho3)); have HO336 := Aside0.mk (Kd.S_lower ho3 (below_size (up_ HB.out))); replace HB := bs_ HB hb; clear hb ho3))
 go_loopg [3, 9] k (fun kq v3 v9 w' => ∃ (x3_1 : List (List Int)) (x9_1 : Int), v9 = .int .i64 x9_1 ∧ Aside0 (impl_copyRows.l0 kq x3_1 l0 (l0.length : Int) x9_1 = some r) ∧ Aside0 (kq ≤ k) ∧ Aside0 (Kd.S (Kd.slice 3 (Kd.int .i64)) 25 w' w.heap.size (fun _ => True) v3 x3_1) ∧ Aside0 (Below w.heap.size w w'))
 case atStart => exact ⟨(y334), (0), rs_, H', ⟨Nat.le_refl _⟩, ⟨up_ HO336.out⟩, ⟨up_ HB.out⟩⟩
 case round =>
  clear H'
  try clear p2
  obtain ⟨x3_1, x9_1, rfl, HA, HK1, HO_3, HB⟩ := hrel
  cases gk with
  | zero => exact absurd HA.out (by simp [impl_copyRows.l0])
  | succ k1 =>
   have H := HA.out
   clear HA
   simp only [impl_copyRows.l0] at H
   replace H := its_ H; rcases H with ⟨c4b0, H⟩ | ⟨c4b0, H⟩
   ·replace H := its_ H; rcases H with ⟨c5b0, H⟩ | ⟨_, ⟨⟩⟩
    replace H := its_ H; rcases H with ⟨c6b0, H⟩ | ⟨_, ⟨⟩⟩
    replace H := bnd_ H; obtain ⟨t338, A7, H⟩ := H
    by_cases c8 : x3_1.length < 5864062014805
    ·rw [if_pos c8] at H
     have LMc8 := Aside0.mk c8
     clear c8
     obtain ⟨y341, hy341⟩ : ∃ y_ : List (List Int), y_ = (x3_1 ++ [t338]) := ⟨_, rfl⟩
     replace H : (impl_copyRows.l0 k1 y341 l0 (l0.length : Int) (wrap64 (x9_1 + 1))) = some r := rh_ hy341 H
     have Ny341 := Aside0.mk hy341
     clear hy341
     have H' := Aside0.mk H
     clear H
     have p337 : 0 ≤ (x9_1 : Int) := od_
     have q337 : x9_1 < (l0.length : Int) := od_
     obtain ⟨ad337, A337_0, c337_0, e337, hx337_0, hl337_0, hi337_0⟩ := at_L1 HR0.out x9_1 p337 q337
     cases e337
     replace hx337_0 := bh_ HB hx337_0
     have HR337_0 := Aside0.mk hi337_0
     have HC337_0 := Aside0.mk hl337_0
     clear hi337_0 hl337_0
     replace p337 := eq_true p337
     replace q337 := eq_true q337
     go_wp2_with (first | ((refine gc_ 110 ?_); refine gl_ (some 15) Try.func110 (slices_Clone_int_int.calls _ _ (rd_L1 l0 x9_1) t338 _ (Kd.C_below HR337_0.out (up_ HB.out)) HC337_0.out A7.out) ?_; rintro e w9 ⟨v339, rfl, ho0, hb⟩; refine ⟨_, rfl, ?_⟩; replace HO_3 := Aside0.mk (Kd.S_elder' (up_ HO_3.out) (Kd.R_base ho0) hb); have HO340 := Aside0.mk (Kd.R_lower ho0 (below_size (up_ HB.out))); replace HB := bs_ HB hb; (try clear hb); (try clear hb2); (try clear hk); (try clear hi); (try clear ho0); obtain ⟨Ao11, co11, eo11⟩ := Kd.R_slice HO340.out; subst eo11) | ((with_reducible refine gate_builtin (b := .append) (xs := #[.tmp 13, .tmp 16]) rfl ?_); at_builtin; refine Kd.S_append (Kd.slice 3 (Kd.int .i64)) (w0 := w) w.heap.size rfl (.tmp 13) (.tmp 16) 22 25 (.slice none 0 0) 24 rfl Try.underlying22 info25 rfl (by decide) (by omega) u3 x3_1 t338 [.slice Ao11 t338.length co11] (fun _ => True) (fun k_ => some k_ = (.slice Ao11 t338.length co11 : Value).ownBlock) rfl rfl ?aP (fun k_ hk_ => ((Kd.R_mono (ok' := fun k_ => ((fun _ => True)) k_ ∧ some k_ ≠ (u3 : Value).ownBlock) (Kd.R_apart' (HO340.out) (Kd.S_typed HO_3.out) (by decide)) (fun k_ hk => ⟨trivial, hk.2⟩))).1 k_ hk_.symm) ?aF ?aO ?aB ?aS ?aL ?_; (case aP => exact Kd.M_row (Kd.R_mono (Kd.R_tight rfl (Kd.R_mono (ok' := fun k_ => ((fun _ => True)) k_ ∧ some k_ ≠ (u3 : Value).ownBlock) (Kd.R_apart' (HO340.out) (Kd.S_typed HO_3.out) (by decide)) (fun k_ hk => ⟨trivial, hk.2⟩))) (fun _ h_ => h_))); (case aB => exact (up_ HB.out)); (case aF => exact (fun _ _ => trivial)); (case aO => exact (by (with_reducible repeat (first | apply Kd.S_alloc | apply Kd.S_drewN | apply Kd.S_drew)); exact Kd.S_mono HO_3.out (fun k_ hk => ⟨trivial, fun e_ => hk.2 e_⟩))); (case aS => exact (below_size (up_ HB.out))); (case aL => have := LMc8.out; omega); intro v342 w10 ho hb hg hat; rw [← Ny341.out] at ho; have n0_ := Aside0.mk (hb); have n1_ := Aside0.mk (ho); clear HB; clear HO_3; clear HO340; have HB := n0_; have HO343 := n1_; clear n0_ n1_; clear ho hb hg hat))
     go_roundg k1
     case measure => have := HK1.out; omega
     case rel => exact ⟨(y341), (wrap64 (x9_1 + 1)), rs_, H', ⟨by have := HK1.out; omega⟩, ⟨up_ HO343.out⟩, ⟨up_ HB.out⟩⟩
    ·rw [if_neg c8] at H
     exact absurd H (by simp)
   ·obtain rfl := Option.some.inj H
    go_wp2
    go_ret
    exact ⟨_, re_, by (with_reducible repeat (first | apply Kd.S_alloc | apply Kd.S_drewN | apply Kd.S_drew)); exact HO_3.out, up_ HB.out⟩

/-! ### impl_Learner_copied: function 86 -/
def impl_Learner_copied.f (k : Nat) (a0_0 : Int) (l0_1 : List (List Int)) (a0_2 : Int) : Option (Int × (List (List Int)) × Int) := (impl_copyRows.f k l0_1).bind fun t346 => (some (a0_0, t346, a0_2))
def impl_Learner_copied.T1 : Bool × List (List Nat × List Nat) := (true, [([], []), ([0], [0]), ([], []), ([2], [2]), ([3], [3]), ([], []), ([5], [5]), ([1, 4, 6], [1, 4, 6]), ([7, 4, 0, 1, 2, 3, 4, 5, 6, 7], [7])])
def impl_Learner_copied.B1 : List Nat := [0, 1, 0, 4, 12, 0, 32, 127, 255]
theorem impl_Learner_copied.tab1 : rtab .any (opsOf Try.f86 1) = impl_Learner_copied.T1 := by kernel_rfl
theorem impl_Learner_copied.bits1 : waitsOk impl_Learner_copied.T1.2 impl_Learner_copied.B1 = true := by kernel_rfl
set_option maxHeartbeats 8000000 in
set_option maxRecDepth 100000 in
theorem impl_Learner_copied.calls (k : Nat) (a0_0 : Int) (A0_1 : Option Addr) (c0_1 : Nat) (l0_1 : List (List Int)) (a0_2 : Int) (r1 : Int) (r2 : List (List Int)) (r3 : Int) (w : World) (hr0_1 : Kd.C (Kd.slice 3 (Kd.int .i64)) w A0_1 l0_1.length l0_1) (hc0_1 : l0_1.length ≤ c0_1) (h : impl_Learner_copied.f k a0_0 l0_1 a0_2 = some (r1, r2, r3)) :
  Calls Try.prog 86 #[.agg #[.int .i64 a0_0, .slice A0_1 l0_1.length c0_1, .int .i64 a0_2]] w fun e w' => ∃ v1_ : Value, e = .returned (.agg #[.int .i64 r1, v1_, .int .i64 r3]) ∧ Kd.S (Kd.slice 3 (Kd.int .i64)) 25 w' w.heap.size (fun _ => True) v1_ r2 ∧ Below w.heap.size w w' := by
 have hu30 := Try.underlying30
 have HR0_1 := Aside0.mk hr0_1
 have HC0_1 := Aside0.mk hc0_1
 clear hr0_1 hc0_1
 have HB := Aside0.mk (Below.refl w.heap.size w)
 have H : ((impl_copyRows.f k l0_1).bind fun t346 => (some (a0_0, t346, a0_2))) = some (r1, r2, r3) := h
 clear h
 replace H := Option.bind_eq_some_iff.mp H
 obtain ⟨t346, A20, H⟩ := H
 replace H : (some (a0_0, t346, a0_2)) = some (r1, r2, r3) := H
 have A2 := Aside0.mk A20
 clear A20
 simp only [Option.some.injEq, Prod.mk.injEq] at H
 obtain ⟨rfl, rfl, rfl⟩ := H
 go_enter Try.func86, Try.ntmps86
 try go_wp2_with (first | ((refine gd_ 1 ?_); refine bx_ 1 #[.int .i64 a0_0, .slice A0_1 l0_1.length c0_1, .int .i64 a0_2] 30 ?_; intro gb344 hg w3 hbox hb; have BK344 := Aside0.mk (hbox); have GW344 := gw_ HB hg; have GE344 := gw_ HB hg; replace HB := bs_ HB hb; clear hb hbox hg) | ((refine gd_ 2 ?_); refine bx_ 2 #[.int .i64 0, .slice none 0 0, .int .i64 0] 30 ?_; intro gb345 hg w4 hbox hb; have BK345 := Aside0.mk (hbox); have GW345 := gw_ HB hg; have GE345 := gw_ HB hg; replace HB := bs_ HB hb; have NB344_345 := Aside0.mk ((by rw [hg]; exact Nat.ne_of_lt (blk_lt (g := gb344) (o := .cells #[.int .i64 a0_0, .slice A0_1 l0_1.length c0_1, .int .i64 a0_2] 30 (0, 0)) (up_ BK344.out)) : gb344 ≠ gb345)); have NB345_344 := Aside0.mk ((by rw [hg]; exact Nat.ne_of_gt (blk_lt (g := gb344) (o := .cells #[.int .i64 a0_0, .slice A0_1 l0_1.length c0_1, .int .i64 a0_2] 30 (0, 0)) (up_ BK344.out)) : gb345 ≠ gb344)); replace BK344 := bb_ BK344 hb; clear hb hbox hg))
 have n0_ := Aside0.mk (blk_drew BK344.out)
 have n1_ := Aside0.mk (blk_drew BK345.out)
 have n2_ := Aside0.mk (below_drew1 HB.out)
 clear BK344
 clear BK345
 clear HB
 have BK344 := n0_
 have BK345 := n1_
 have HB := n2_
 clear n0_ n1_ n2_
 refine start_ (n := 9) (S := fun w' => w'.cell? ⟨gb344, 0, none⟩ = some (.int .i64 a0_0) ∧ w'.cell? ⟨gb344, 1, none⟩ = some (.slice A0_1 l0_1.length c0_1) ∧ w'.cell? ⟨gb344, 2, none⟩ = some (.int .i64 a0_2)) (ds := []) #[false, false, false, false, false, false, false, false, false] (by kernel_rfl) rfl rfl ⟨(blk_cell BK344.out 0).trans rfl, (blk_cell BK344.out 1).trans rfl, (blk_cell BK344.out 2).trans rfl⟩ (fun hHeld => ?_); refine with_tabW impl_Learner_copied.tab1 impl_Learner_copied.bits1 (fun HT_ HW_ => ?_)
 generalize w4.drew = w5 at BK344 BK345 HB hHeld ⊢
 refine pu_ 0 (some 3) ?_
 refine pu_ 2 (some 5) ?_
 refine pu_ 5 (some 8) ?_
 refine tk_ 1 (some 4) hHeld ?_
 refine tk_ 3 (some 6) hHeld ?_
 refine tk_ 6 (some 9) hHeld ?_
 refine one_ (i := 4) (N := some 7) #[true, true, true, true, true, true, true, false, false] rfl rfl (one_of HT_.out (by kernel_rfl)) (by decide) (fun K hK => ?_)
 refine goes_ Try.func91 (by kernel_rfl) rfl #[.slice A0_1 l0_1.length c0_1] (by rfl) rfl rfl am_ ?_
 with_reducible refine (impl_copyRows.calls k _ _ l0_1 t346 _ ?side1 ?side2 A2.out).mono ?_
 (case side1 => exact Kd.C_below HR0_1.out (up_ HB.out))
 (case side2 => exact HC0_1.out)
 rintro e w6 ⟨v347, rfl, ho0, hb⟩
 refine ⟨_, rfl, ?_⟩
 have n0_ := Aside0.mk (Kd.S_lower ho0 (below_size (up_ HB.out)))
 have n1_ := bb_ BK344 hb
 have n2_ := bb_ BK345 hb
 have n3_ := bs_ HB hb
 clear BK344
 clear BK345
 clear HB
 have HO348 := n0_
 have BK344 := n1_
 have BK345 := n2_
 have HB := n3_
 clear n0_ n1_ n2_ n3_
 (try clear hb)
 (try clear hb2)
 (try clear hk)
 (try clear hi)
 (try clear ho0)
 obtain ⟨Ao7, co7, eo7⟩ := Kd.S_slice HO348.out
 (first | subst eo7 | (injection eo7 with f1_ f2_ f3_; have f4_ := f1_.symm; have f5_ := f3_.symm; clear f1_ f2_ f3_; subst f4_; subst f5_))
 refine hK.out _ _ ⟨(blk_cell BK344.out 0).trans rfl, (blk_cell BK344.out 1).trans rfl, (blk_cell BK344.out 2).trans rfl⟩ (fun hHeld => ?_)
 clear hK K
 refine nm_ ?_
 refine pu_ 7 (some 10) ?_
 refine one_ (i := 8) (N := none) #[true, true, true, true, true, true, true, true, true] rfl rfl (one_of HT_.out (by kernel_rfl)) (by decide) (fun K hK => ?_)
 have hs8 : w6.cell? ⟨gb345, 0, none⟩ = some (.int .i64 0) := (blk_cell BK345.out 0).trans rfl
 have hfs8 := blk_frozen BK345.out 0
 have hns8_0 := NB344_345.out
 have hms8_0 := NB345_344.out
 have hs9 : w6.cell? ⟨gb345, 1, none⟩ = some (.slice none 0 0) := (blk_cell BK345.out 1).trans rfl
 have hfs9 := blk_frozen BK345.out 1
 have hns9_0 := NB344_345.out
 have hms9_0 := NB345_344.out
 have hs10 : w6.cell? ⟨gb345, 2, none⟩ = some (.int .i64 0) := (blk_cell BK345.out 2).trans rfl
 have hfs10 := blk_frozen BK345.out 2
 have hns10_0 := NB344_345.out
 have hms10_0 := NB345_344.out
 refine skip_ (w1 := ?_) (by rfl) rfl ?_ ?_
 rotate_left
 ·go_simp
  rfl
 refine hK.out _ _ ⟨((cell_far (p := ⟨gb345, _, none⟩) NB344_345.out _).trans (((cell_far (p := ⟨gb345, _, none⟩) NB344_345.out _).trans (((cell_far (p := ⟨gb345, _, none⟩) NB344_345.out _).trans (hHeld.1)))))), ((cell_far (p := ⟨gb345, _, none⟩) NB344_345.out _).trans (((cell_far (p := ⟨gb345, _, none⟩) NB344_345.out _).trans (((cell_far (p := ⟨gb345, _, none⟩) NB344_345.out _).trans (hHeld.2.1)))))), ((cell_far (p := ⟨gb345, _, none⟩) NB344_345.out _).trans (((cell_far (p := ⟨gb345, _, none⟩) NB344_345.out _).trans (((cell_far (p := ⟨gb345, _, none⟩) NB344_345.out _).trans (hHeld.2.2))))))⟩ (fun hHeld => ?_)
 clear hK K
 refine done_ (done_of HT_.out (by kernel_rfl)) ?_
 try go_wp2
 refine bodyPost_ret (results_cell_row rfl _ _ gb345 30 #[.int .i64 a0_0, .slice Ao7 t346.length co7, .int .i64 a0_2] (0, 0) _ rfl (by (with_reducible repeat (first | refine blk_drewN ?_ _ | refine blk_drew ?_ | refine blk_alloc ?_ _)); refine blk_put (cs := #[.int .i64 a0_0, .slice Ao7 t346.length co7, .int .i64 0]) ?_ 2 _ rfl; (with_reducible repeat (first | refine blk_drewN ?_ _ | refine blk_drew ?_ | refine blk_alloc ?_ _)); refine blk_put (cs := #[.int .i64 a0_0, .slice none 0 0, .int .i64 0]) ?_ 1 _ rfl; (with_reducible repeat (first | refine blk_drewN ?_ _ | refine blk_drew ?_ | refine blk_alloc ?_ _)); refine blk_put (cs := #[.int .i64 0, .slice none 0 0, .int .i64 0]) ?_ 0 _ rfl; (with_reducible repeat (first | refine blk_drewN ?_ _ | refine blk_drew ?_ | refine blk_alloc ?_ _)); exact BK345.out) Try.underlying30 rfl (by kernel_rfl)) rfl ?_
 exact ⟨_, re_, by (with_reducible repeat (first | apply Kd.S_alloc | apply Kd.S_drewN | apply Kd.S_drew)); exact Kd.S_mono (Kd.S_far (p := ⟨gb345, 2, none⟩) (Kd.S_far (p := ⟨gb345, 1, none⟩) (Kd.S_far (p := ⟨gb345, 0, none⟩) (Kd.S_types HO348.out BK345.out (by decide)) (fun _ hk => hk.2) (.int .i64 a0_0)) (fun _ hk => hk.2) (.slice Ao7 t346.length co7)) (fun _ hk => hk.2) (.int .i64 a0_2)) (fun _ hk => trivial), up_ HB.out⟩

/-! ### slices_Sort_int_int: function 92 -/
def slices_Sort_int_int.f (l0 : List Int) : Option (List Int) := if l0.length < 4611686018427387904 then some (l0.mergeSort (fun x y => decide (x ≤ y))) else none
theorem slices_Sort_int_int.calls (P0_ : Nat → Prop) (u9000_ : Value) (l0 : List Int) (r : List Int) (w0 w : World) (hB : Below w0.heap.size w0 w) (ho0 : Kd.R (Kd.int .i64) 3 w w0.heap.size P0_ u9000_ l0) (h : slices_Sort_int_int.f l0 = some r) :
  Calls Try.prog 92 #[u9000_] w fun e w' => e = .returned (.tuple #[]) ∧ Kd.R (Kd.int .i64) 3 w' w0.heap.size (fun k_ => (P0_ k_ ∨ w.heap.size ≤ k_)) u9000_ r ∧ Below w0.heap.size w0 w' ∧ Kept w w' (fun k_ => P0_ k_) := by
 unfold slices_Sort_int_int.f at h
 by_cases c : l0.length < 4611686018427387904
 ·rw [if_pos c] at h
  obtain rfl := Option.some.inj h
  exact Go.Proofs.Ytkddpilambnicaa.Seq.sortOwn P0_ u9000_ l0 w0 w hB ho0 c
 ·rw [if_neg c] at h
  cases h

/-! ### impl_HearRow_1_1: function 90 -/
def impl_HearRow_1_1.f (a0 : Int) (l1 : List (S34)) : Option (Bool) := if 0 < (l1.length : Int) then (if 0 ≤ a0 then (if a0 < (((rd_T34 l1 0).f0).length : Int) then (some ((rd ((rd_T34 l1 0).f0) a0) == 1)) else (none)) else (none)) else (none)
set_option maxHeartbeats 8000000 in
set_option maxRecDepth 100000 in
theorem impl_HearRow_1_1.calls (a0 : Int) (A1 : Option Addr) (c1 : Nat) (l1 : List (S34)) (r : Bool) (w : World) (hr1 : Kd.C k34 w A1 l1.length l1) (hc1 : l1.length ≤ c1) (h : impl_HearRow_1_1.f a0 l1 = some r) :
  Calls Try.prog 90 #[.int .i64 a0, .pointer A1] w fun e w' => e = .returned (.bool r) ∧ Drawn0 w w' := by
 have HR1 := Aside0.mk hr1
 have HC1 := Aside0.mk hc1
 clear hr1 hc1
 have H : (if 0 < (l1.length : Int) then (if 0 ≤ a0 then (if a0 < (((rd_T34 l1 0).f0).length : Int) then (some ((rd ((rd_T34 l1 0).f0) a0) == 1)) else (none)) else (none)) else (none)) = some r := h
 clear h
 by_cases c3 : 0 < (l1.length : Int)
 ·rw [if_pos c3] at H
  have c3b0 : decide (0 < (l1.length : Int)) = true := decide_eq_true c3
  have c3b1 : decide (0 < l1.length) = true := decide_eq_true (by omega)
  clear c3
  replace H := its_ H; rcases H with ⟨c4b0, H⟩ | ⟨_, ⟨⟩⟩
  replace H := its_ H; rcases H with ⟨c5b0, H⟩ | ⟨_, ⟨⟩⟩
  obtain rfl := Option.some.inj H
  have p349 : 0 ≤ (0 : Int) := (by omega)
  have q349 : 0 < (l1.length : Int) := od_
  obtain ⟨ad349, A349_0, c349_0, e349, hx349_0, hl349_0, hi349_0⟩ := at_T34 HR1.out 0 p349 q349
  cases e349
  have qi349 : (0 < l1.length) = True := eq_true (by omega)
  (try rw [show ((0 : Int)).toNat = 0 from rfl] at hx349_0)
  (try rw [Addr.add_zero'] at hx349_0)
  have HR349_0 := Aside0.mk hi349_0
  have HC349_0 := Aside0.mk hl349_0
  clear hi349_0 hl349_0
  replace p349 := eq_true p349
  replace q349 := eq_true q349
  have p350 : 0 ≤ (a0 : Int) := od_
  have q350 : a0 < (((rd_T34 l1 0).f0).length : Int) := od_
  obtain ⟨ad350, e350, hx350_0⟩ := Kd.at_int HR349_0.out a0 p350 q350
  cases e350
  replace p350 := eq_true p350
  replace q350 := eq_true q350
  go_enter Try.func90, Try.ntmps90
  go_wp2
  go_ret
  exact ⟨rs_, dn_⟩
 ·rw [if_neg c3] at H
  exact absurd H (by simp)

/-! ### v_slices_IndexFunc__HearRow_1_1: function 151 -/
def v_slices_IndexFunc__HearRow_1_1.l0 : Nat → List Int → List (S34) → Int → Int → Option (Int)
 | 0, _, _, _, _ => none
 | k + 1, x0, x1, x7, x8 => if x8 < x7 then (if 0 ≤ x8 then (if x8 < (x0.length : Int) then ((impl_HearRow_1_1.f (rd x0 x8) x1).bind fun t352 => (if t352 = true then (some x8) else (v_slices_IndexFunc__HearRow_1_1.l0 k x0 x1 x7 (wrap64 (x8 + 1))))) else (none)) else (none)) else (some (-1))
def v_slices_IndexFunc__HearRow_1_1.f (k : Nat) (l0 : List Int) (l1 : List (S34)) : Option (Int) := v_slices_IndexFunc__HearRow_1_1.l0 k l0 l1 (l0.length : Int) 0
set_option maxHeartbeats 8000000 in
set_option maxRecDepth 100000 in
theorem v_slices_IndexFunc__HearRow_1_1.calls (k : Nat) (A0 : Option Addr) (c0 : Nat) (l0 : List Int) (A1 : Option Addr) (c1 : Nat) (l1 : List (S34)) (r : Int) (w : World) (hr0 : Kd.C (Kd.int .i64) w A0 l0.length l0) (hc0 : l0.length ≤ c0) (hr1 : Kd.C k34 w A1 l1.length l1) (hc1 : l1.length ≤ c1) (h : v_slices_IndexFunc__HearRow_1_1.f k l0 l1 = some r) :
  Calls Try.prog 151 #[.slice A0 l0.length c0, .func (.func 90) #[] #[.pointer A1]] w fun e w' => e = .returned (.int .i64 r) ∧ Drawn0 w w' := by
 have HR0 := Aside0.mk hr0
 have HC0 := Aside0.mk hc0
 clear hr0 hc0
 have HR1 := Aside0.mk hr1
 have HC1 := Aside0.mk hc1
 clear hr1 hc1
 have H : (v_slices_IndexFunc__HearRow_1_1.l0 k l0 l1 (l0.length : Int) 0) = some r := h
 clear h
 have H' := Aside0.mk H
 clear H
 go_enter Try.func151, Try.ntmps151
 go_wp2
 go_loopg [8] k (fun kq v8 w' => ∃ (x8_1 : Int), v8 = .int .i64 x8_1 ∧ Aside0 (v_slices_IndexFunc__HearRow_1_1.l0 kq l0 l1 (l0.length : Int) x8_1 = some r) ∧ Aside0 (kq ≤ k) ∧ Drawn0 w w')
 case atStart => exact ⟨(0), rs_, H', ⟨Nat.le_refl _⟩, dn_⟩
 case round =>
  clear H'
  try clear c1
  try clear p2
  obtain ⟨x8_1, rfl, HA, HK1, ⟨m1, rfl⟩⟩ := hrel
  cases gk with
  | zero => exact absurd HA.out (by simp [v_slices_IndexFunc__HearRow_1_1.l0])
  | succ k1 =>
   have H := HA.out
   clear HA
   simp only [v_slices_IndexFunc__HearRow_1_1.l0] at H
   replace H := its_ H; rcases H with ⟨c3b0, H⟩ | ⟨c3b0, H⟩
   ·replace H := its_ H; rcases H with ⟨c4b0, H⟩ | ⟨_, ⟨⟩⟩
    replace H := its_ H; rcases H with ⟨c5b0, H⟩ | ⟨_, ⟨⟩⟩
    replace H := bnd_ H; obtain ⟨t352, A6, H⟩ := H
    replace H := itb_ H; rcases H with ⟨rfl, H⟩ | ⟨rfl, H⟩
    ·obtain rfl := Option.some.inj H
     have p351 : 0 ≤ (x8_1 : Int) := od_
     have q351 : x8_1 < (l0.length : Int) := od_
     obtain ⟨ad351, e351, hx351_0⟩ := Kd.at_int HR0.out x8_1 p351 q351
     cases e351
     replace p351 := eq_true p351
     replace q351 := eq_true q351
     go_wp2_with (first | ((with_reducible refine Go.Proofs.Ytkddpilambnicaa.Step.gate_calleeT rfl ?_); refine Go.Proofs.Ytkddpilambnicaa.Step.goesT_ (cap := #[.pointer A1]) (some 16) rfl rfl Try.func90 (by kernel_rfl) rfl #[.int .i64 (rd l0 x8_1), .pointer A1] rfl rfl am_ ?_; (with_reducible refine (impl_HearRow_1_1.calls (rd l0 x8_1) _ c1 l1 true _ ?side1 ?side2 A6.out).mono ?_); (case side1 => repeat (first | exact HR1.out | (with_reducible refine Kd.C_alloc ?_ _) | (with_reducible refine Kd.C_drewN ?_ _) | (with_reducible refine Kd.C_drew ?_))); (case side2 => exact HC1.out); rintro e w' ⟨rfl, ⟨nd, rfl⟩⟩; refine ⟨_, rfl, ?_⟩))
     go_ret
     exact ⟨rs_, dn_⟩
    ·have H' := Aside0.mk H
     clear H
     have p351 : 0 ≤ (x8_1 : Int) := od_
     have q351 : x8_1 < (l0.length : Int) := od_
     obtain ⟨ad351, e351, hx351_0⟩ := Kd.at_int HR0.out x8_1 p351 q351
     cases e351
     replace p351 := eq_true p351
     replace q351 := eq_true q351
     go_wp2_with (first | ((with_reducible refine Go.Proofs.Ytkddpilambnicaa.Step.gate_calleeT rfl ?_); refine Go.Proofs.Ytkddpilambnicaa.Step.goesT_ (cap := #[.pointer A1]) (some 16) rfl rfl Try.func90 (by kernel_rfl) rfl #[.int .i64 (rd l0 x8_1), .pointer A1] rfl rfl am_ ?_; (with_reducible refine (impl_HearRow_1_1.calls (rd l0 x8_1) _ c1 l1 false _ ?side1 ?side2 A6.out).mono ?_); (case side1 => repeat (first | exact HR1.out | (with_reducible refine Kd.C_alloc ?_ _) | (with_reducible refine Kd.C_drewN ?_ _) | (with_reducible refine Kd.C_drew ?_))); (case side2 => exact HC1.out); rintro e w' ⟨rfl, ⟨nd, rfl⟩⟩; refine ⟨_, rfl, ?_⟩))
     go_roundg k1
     case measure => have := HK1.out; omega
     case rel => exact ⟨(wrap64 (x8_1 + 1)), rs_, H', ⟨by have := HK1.out; omega⟩, dn_⟩
   ·obtain rfl := Option.some.inj H
    go_wp2
    go_ret
    exact ⟨rs_, dn_⟩

/-! ### v_slices_ContainsFunc__HearRow_1_1: function 89 -/
def v_slices_ContainsFunc__HearRow_1_1.f (k : Nat) (l0 : List Int) (l1 : List (S34)) : Option (Bool) := (v_slices_IndexFunc__HearRow_1_1.f k l0 l1).bind fun t353 => (some (decide (t353 ≥ 0)))
set_option maxHeartbeats 8000000 in
set_option maxRecDepth 100000 in
theorem v_slices_ContainsFunc__HearRow_1_1.calls (k : Nat) (A0 : Option Addr) (c0 : Nat) (l0 : List Int) (A1 : Option Addr) (c1 : Nat) (l1 : List (S34)) (r : Bool) (w : World) (hr0 : Kd.C (Kd.int .i64) w A0 l0.length l0) (hc0 : l0.length ≤ c0) (hr1 : Kd.C k34 w A1 l1.length l1) (hc1 : l1.length ≤ c1) (h : v_slices_ContainsFunc__HearRow_1_1.f k l0 l1 = some r) :
  Calls Try.prog 89 #[.slice A0 l0.length c0, .func (.func 90) #[] #[.pointer A1]] w fun e w' => e = .returned (.bool r) ∧ Drawn0 w w' := by
 have HR0 := Aside0.mk hr0
 have HC0 := Aside0.mk hc0
 clear hr0 hc0
 have HR1 := Aside0.mk hr1
 have HC1 := Aside0.mk hc1
 clear hr1 hc1
 have H : ((v_slices_IndexFunc__HearRow_1_1.f k l0 l1).bind fun t353 => (some (decide (t353 ≥ 0)))) = some r := h
 clear h
 replace H := bnd_ H; obtain ⟨t353, A3, H⟩ := H
 obtain rfl := Option.some.inj H
 go_enter Try.func89, Try.ntmps89
 go_wp2_with (first | ((refine gc_ 151 ?_); refine goesL_ (some 7) rfl rfl Try.func151 (by kernel_rfl) rfl #[.slice A0 l0.length c0, .func (.func 90) #[] #[.pointer A1]] rfl am_ ?_; (with_reducible refine (v_slices_IndexFunc__HearRow_1_1.calls k _ _ l0 _ c1 l1 t353 _ ?side1 ?side2 ?side3 ?side4 A3.out).mono ?_); (case side1 => repeat (first | exact HR0.out | (with_reducible refine Kd.C_alloc ?_ _) | (with_reducible refine Kd.C_drewN ?_ _) | (with_reducible refine Kd.C_drew ?_))); (case side2 => exact HC0.out); (case side3 => repeat (first | exact HR1.out | (with_reducible refine Kd.C_alloc ?_ _) | (with_reducible refine Kd.C_drewN ?_ _) | (with_reducible refine Kd.C_drew ?_))); (case side4 => exact HC1.out); rintro e w' ⟨rfl, ⟨nd, rfl⟩⟩; refine ⟨_, rfl, ?_⟩))
 go_ret
 exact ⟨rs_, dn_⟩

/-! ### impl_HearRow_1: function 88 -/
def impl_HearRow_1.f (k : Nat) (l0 : List Int) (l1 : List (S34)) : Option (Bool) := (v_slices_ContainsFunc__HearRow_1_1.f k l0 l1).bind fun t354 => (some t354)
set_option maxHeartbeats 8000000 in
set_option maxRecDepth 100000 in
theorem impl_HearRow_1.calls (k : Nat) (A0 : Option Addr) (c0 : Nat) (l0 : List Int) (A1 : Option Addr) (c1 : Nat) (l1 : List (S34)) (r : Bool) (w : World) (hr0 : Kd.C (Kd.int .i64) w A0 l0.length l0) (hc0 : l0.length ≤ c0) (hr1 : Kd.C k34 w A1 l1.length l1) (hc1 : l1.length ≤ c1) (h : impl_HearRow_1.f k l0 l1 = some r) :
  Calls Try.prog 88 #[.slice A0 l0.length c0, .pointer A1] w fun e w' => e = .returned (.bool r) ∧ Drawn0 w w' := by
 have HR0 := Aside0.mk hr0
 have HC0 := Aside0.mk hc0
 clear hr0 hc0
 have HR1 := Aside0.mk hr1
 have HC1 := Aside0.mk hc1
 clear hr1 hc1
 have H : ((v_slices_ContainsFunc__HearRow_1_1.f k l0 l1).bind fun t354 => (some t354)) = some r := h
 clear h
 replace H := bnd_ H; obtain ⟨t354, A3, H⟩ := H
 obtain rfl := Option.some.inj H
 go_enter Try.func88, Try.ntmps88
 go_wp2_with (first | ((refine gc_ 89 ?_); refine goesL_ (some 6) rfl rfl Try.func89 (by kernel_rfl) rfl #[.slice A0 l0.length c0, .func (.func 90) #[] #[.pointer A1]] rfl am_ ?_; (with_reducible refine (v_slices_ContainsFunc__HearRow_1_1.calls k _ _ l0 _ c1 l1 t354 _ ?side1 ?side2 ?side3 ?side4 A3.out).mono ?_); (case side1 => repeat (first | exact HR0.out | (with_reducible refine Kd.C_alloc ?_ _) | (with_reducible refine Kd.C_drewN ?_ _) | (with_reducible refine Kd.C_drew ?_))); (case side2 => exact HC0.out); (case side3 => repeat (first | exact HR1.out | (with_reducible refine Kd.C_alloc ?_ _) | (with_reducible refine Kd.C_drewN ?_ _) | (with_reducible refine Kd.C_drew ?_))); (case side4 => exact HC1.out); rintro e w' ⟨rfl, ⟨nd, rfl⟩⟩; refine ⟨_, rfl, ?_⟩))
 go_ret
 exact ⟨rs_, dn_⟩

/-! ### v_slices_IndexFunc__HearRow_1: function 87 -/
def v_slices_IndexFunc__HearRow_1.l0 : Nat → List (List Int) → List (S34) → Int → Int → Option (Int)
 | 0, _, _, _, _ => none
 | k + 1, x0, x1, x7, x8 => if x8 < x7 then (if 0 ≤ x8 then (if x8 < (x0.length : Int) then ((impl_HearRow_1.f k (rd_L1 x0 x8) x1).bind fun t356 => (if t356 = true then (some x8) else (v_slices_IndexFunc__HearRow_1.l0 k x0 x1 x7 (wrap64 (x8 + 1))))) else (none)) else (none)) else (some (-1))
def v_slices_IndexFunc__HearRow_1.f (k : Nat) (l0 : List (List Int)) (l1 : List (S34)) : Option (Int) := v_slices_IndexFunc__HearRow_1.l0 k l0 l1 (l0.length : Int) 0
set_option maxHeartbeats 8000000 in
set_option maxRecDepth 100000 in
theorem v_slices_IndexFunc__HearRow_1.calls (k : Nat) (A0 : Option Addr) (c0 : Nat) (l0 : List (List Int)) (A1 : Option Addr) (c1 : Nat) (l1 : List (S34)) (r : Int) (w : World) (hr0 : Kd.C (Kd.slice 3 (Kd.int .i64)) w A0 l0.length l0) (hc0 : l0.length ≤ c0) (hr1 : Kd.C k34 w A1 l1.length l1) (hc1 : l1.length ≤ c1) (h : v_slices_IndexFunc__HearRow_1.f k l0 l1 = some r) :
  Calls Try.prog 87 #[.slice A0 l0.length c0, .func (.func 88) #[] #[.pointer A1]] w fun e w' => e = .returned (.int .i64 r) ∧ Drawn0 w w' := by
 have HR0 := Aside0.mk hr0
 have HC0 := Aside0.mk hc0
 clear hr0 hc0
 have HR1 := Aside0.mk hr1
 have HC1 := Aside0.mk hc1
 clear hr1 hc1
 have H : (v_slices_IndexFunc__HearRow_1.l0 k l0 l1 (l0.length : Int) 0) = some r := h
 clear h
 have H' := Aside0.mk H
 clear H
 go_enter Try.func87, Try.ntmps87
 go_wp2
 go_loopg [8] k (fun kq v8 w' => ∃ (x8_1 : Int), v8 = .int .i64 x8_1 ∧ Aside0 (v_slices_IndexFunc__HearRow_1.l0 kq l0 l1 (l0.length : Int) x8_1 = some r) ∧ Aside0 (kq ≤ k) ∧ Drawn0 w w')
 case atStart => exact ⟨(0), rs_, H', ⟨Nat.le_refl _⟩, dn_⟩
 case round =>
  clear H'
  try clear c1
  try clear p2
  obtain ⟨x8_1, rfl, HA, HK1, ⟨m1, rfl⟩⟩ := hrel
  cases gk with
  | zero => exact absurd HA.out (by simp [v_slices_IndexFunc__HearRow_1.l0])
  | succ k1 =>
   have H := HA.out
   clear HA
   simp only [v_slices_IndexFunc__HearRow_1.l0] at H
   replace H := its_ H; rcases H with ⟨c3b0, H⟩ | ⟨c3b0, H⟩
   ·replace H := its_ H; rcases H with ⟨c4b0, H⟩ | ⟨_, ⟨⟩⟩
    replace H := its_ H; rcases H with ⟨c5b0, H⟩ | ⟨_, ⟨⟩⟩
    replace H := bnd_ H; obtain ⟨t356, A6, H⟩ := H
    replace H := itb_ H; rcases H with ⟨rfl, H⟩ | ⟨rfl, H⟩
    ·obtain rfl := Option.some.inj H
     have p355 : 0 ≤ (x8_1 : Int) := od_
     have q355 : x8_1 < (l0.length : Int) := od_
     obtain ⟨ad355, A355_0, c355_0, e355, hx355_0, hl355_0, hi355_0⟩ := at_L1 HR0.out x8_1 p355 q355
     cases e355
     have HR355_0 := Aside0.mk hi355_0
     have HC355_0 := Aside0.mk hl355_0
     clear hi355_0 hl355_0
     replace p355 := eq_true p355
     replace q355 := eq_true q355
     go_wp2_with (first | ((with_reducible refine Go.Proofs.Ytkddpilambnicaa.Step.gate_calleeT rfl ?_); refine Go.Proofs.Ytkddpilambnicaa.Step.goesT_ (cap := #[.pointer A1]) (some 16) rfl rfl Try.func88 (by kernel_rfl) rfl #[.slice A355_0 (rd_L1 l0 x8_1).length c355_0, .pointer A1] rfl rfl am_ ?_; (with_reducible refine (impl_HearRow_1.calls k1 _ _ (rd_L1 l0 x8_1) _ c1 l1 true _ ?side1 ?side2 ?side3 ?side4 A6.out).mono ?_); (case side1 => repeat (first | exact HR355_0.out | (with_reducible refine Kd.C_alloc ?_ _) | (with_reducible refine Kd.C_drewN ?_ _) | (with_reducible refine Kd.C_drew ?_))); (case side2 => exact HC355_0.out); (case side3 => repeat (first | exact HR1.out | (with_reducible refine Kd.C_alloc ?_ _) | (with_reducible refine Kd.C_drewN ?_ _) | (with_reducible refine Kd.C_drew ?_))); (case side4 => exact HC1.out); rintro e w' ⟨rfl, ⟨nd, rfl⟩⟩; refine ⟨_, rfl, ?_⟩))
     go_ret
     exact ⟨rs_, dn_⟩
    ·have H' := Aside0.mk H
     clear H
     have p355 : 0 ≤ (x8_1 : Int) := od_
     have q355 : x8_1 < (l0.length : Int) := od_
     obtain ⟨ad355, A355_0, c355_0, e355, hx355_0, hl355_0, hi355_0⟩ := at_L1 HR0.out x8_1 p355 q355
     cases e355
     have HR355_0 := Aside0.mk hi355_0
     have HC355_0 := Aside0.mk hl355_0
     clear hi355_0 hl355_0
     replace p355 := eq_true p355
     replace q355 := eq_true q355
     go_wp2_with (first | ((with_reducible refine Go.Proofs.Ytkddpilambnicaa.Step.gate_calleeT rfl ?_); refine Go.Proofs.Ytkddpilambnicaa.Step.goesT_ (cap := #[.pointer A1]) (some 16) rfl rfl Try.func88 (by kernel_rfl) rfl #[.slice A355_0 (rd_L1 l0 x8_1).length c355_0, .pointer A1] rfl rfl am_ ?_; (with_reducible refine (impl_HearRow_1.calls k1 _ _ (rd_L1 l0 x8_1) _ c1 l1 false _ ?side1 ?side2 ?side3 ?side4 A6.out).mono ?_); (case side1 => repeat (first | exact HR355_0.out | (with_reducible refine Kd.C_alloc ?_ _) | (with_reducible refine Kd.C_drewN ?_ _) | (with_reducible refine Kd.C_drew ?_))); (case side2 => exact HC355_0.out); (case side3 => repeat (first | exact HR1.out | (with_reducible refine Kd.C_alloc ?_ _) | (with_reducible refine Kd.C_drewN ?_ _) | (with_reducible refine Kd.C_drew ?_))); (case side4 => exact HC1.out); rintro e w' ⟨rfl, ⟨nd, rfl⟩⟩; refine ⟨_, rfl, ?_⟩))
     go_roundg k1
     case measure => have := HK1.out; omega
     case rel => exact ⟨(wrap64 (x8_1 + 1)), rs_, H', ⟨by have := HK1.out; omega⟩, dn_⟩
   ·obtain rfl := Option.some.inj H
    go_wp2
    go_ret
    exact ⟨rs_, dn_⟩

end Go.Proofs.Ytkddpilambnicaa.PFnExactHearAll
