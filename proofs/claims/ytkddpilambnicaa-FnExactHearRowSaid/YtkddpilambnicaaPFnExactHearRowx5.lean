/- Walks of Go functions that the law FnExactHearRow uses: written by this session's program out of the kit's printer; each shows that a call comes to the answers of the Lean function beside it. Conditions: each contract's own. -/
import Derived.Test.YtkddpilambnicaaPFnExactHearRowx0
namespace Go.Proofs.Ytkddpilambnicaa.PFnExactHearRow
open Go.RowKit Go.Proofs.YtkddpilambnicaaW.PrintWords Go.Proofs.YtkddpilambnicaaW.PrintLast Go.Proofs.YtkddpilambnicaaW.PrintMore Go.Proofs.Ytkddpilambnicaa.Mac Go.Proofs.Ytkddpilambnicaa.Law
attribute [local go_sem] max2_int min2_int max_two min_two max_three min_three max_four min_four   -- for this text's walks alone
set_option linter.unusedVariables false
set_option linter.unusedSimpArgs false

/-! ### laws_toIntS: function 66 -/
def laws_toIntS.l0 : Nat → List Int → List Int → Int → Option (List Int)
 | 0, _, _, _ => none
 | k + 1, x0, x3, x4 => if x4 < (x0.length : Int) then (if 0 ≤ x4 then (if x4 < (x3.length : Int) then (laws_toIntS.l0 k x0 (x3.set (x4 : Int).toNat (rd x0 x4)) (wrap64 (x4 + 1))) else (none)) else (none)) else (some x3)
def laws_toIntS.f (k : Nat) (l0 : List Int) : Option (List Int) := if 0 ≤ (l0.length : Int) then (if ((l0.length : Int) : Int).toNat ≤ 35184372088832 then (laws_toIntS.l0 k l0 (List.replicate ((l0.length : Int) : Int).toNat 0) 0) else (none)) else (none)
set_option maxHeartbeats 8000000 in
set_option maxRecDepth 100000 in
theorem laws_toIntS.calls (k : Nat) (A0 : Option Addr) (c0 : Nat) (l0 : List Int) (r : List Int) (w : World) (hr0 : Kd.C (Kd.int .i64) w A0 l0.length l0) (hc0 : l0.length ≤ c0) (h : laws_toIntS.f k l0 = some r) :
  Calls Try.prog 66 #[.slice A0 l0.length c0] w fun e w' => ∃ v0_ : Value, e = .returned (v0_) ∧ Kd.R (Kd.int .i64) 3 w' w.heap.size (fun _ => True) v0_ r ∧ Below w.heap.size w w' := by
 have HR0 := Aside0.mk hr0
 have HC0 := Aside0.mk hc0
 clear hr0 hc0
 have HB := Aside0.mk (Below.refl w.heap.size w)
 have H : (if 0 ≤ (l0.length : Int) then (if ((l0.length : Int) : Int).toNat ≤ 35184372088832 then (laws_toIntS.l0 k l0 (List.replicate ((l0.length : Int) : Int).toNat 0) 0) else (none)) else (none)) = some r := h
 clear h
 by_cases c2 : 0 ≤ (l0.length : Int)
 ·rw [if_pos c2] at H
  have c2b0 := eq_true c2
  have c2b1 : decide (0 ≤ (l0.length : Int)) = true := decide_eq_true c2
  clear c2
  by_cases c3 : ((l0.length : Int) : Int).toNat ≤ 35184372088832
  ·rw [if_pos c3] at H
   have c3b0 := eq_true c3
   have c3b1 : decide (((l0.length : Int) : Int).toNat ≤ 35184372088832) = true := decide_eq_true c3
   clear c3
   obtain ⟨y224, hy224⟩ : ∃ y_ : List Int, y_ = (List.replicate ((l0.length : Int) : Int).toNat 0) := ⟨_, rfl⟩
   replace H : (laws_toIntS.l0 k l0 y224 0) = some r := rh_ hy224 H
   have Ny224 := Aside0.mk hy224
   clear hy224
   have H' := Aside0.mk H
   clear H
   go_enter Try.func66, Try.ntmps66
   go_wp2_with (first | ((refine gd_ 7 ?_); refine Kd.R_make (Kd.int .i64) _ 3 rfl (N := 7) rfl 25 _ _ rfl (l0.length : Int) rfl rfl Try.underlying25 (.int .i64 0) 8 info3 rfl (by decide) (by omega) 0 (ok := fun _ => True) (okp := fun _ => True) rfl (fun _ hk => hk) trivial (od_) (Nat.le_trans (Nat.mul_le_mul_right _ (od_ : (l0.length : Int).toNat ≤ 35184372088832)) (by omega)) (Below.refl _ _) (Nat.le_refl _) ?_; intro v225 w4 ho5 hb hg_ hnew_; clear hg_ hnew_; (first | rw [← Ny224.out] at ho5 | (simp only [Int.reduceToNat] at ho5; rw [← Ny224.out] at ho5)); have HO226 := Aside0.mk (Kd.R_lower ho5 (below_size (up_ HB.out))); replace HB := bs_ HB hb; clear hb ho5))
   go_loopg [4] k (fun kq v4 w' => ∃ (x3_1 : List Int) (x4_1 : Int), v4 = .int .i64 x4_1 ∧ Aside0 (laws_toIntS.l0 kq l0 x3_1 x4_1 = some r) ∧ Aside0 (kq ≤ k) ∧ Aside0 (Kd.R (Kd.int .i64) 3 w' w.heap.size (fun _ => True) v225 x3_1) ∧ Aside0 (Below w.heap.size w w'))
   case atStart => exact ⟨(y224), (0), rs_, H', ⟨Nat.le_refl _⟩, ⟨up_ HO226.out⟩, ⟨up_ HB.out⟩⟩
   case round =>
    clear H'
    try clear c2
    try clear c2b0
    try clear c2b1
    try clear p2
    try clear c3
    try clear c3b0
    try clear c3b1
    obtain ⟨x3_1, x4_1, rfl, HA, HK1, HO_3, HB⟩ := hrel
    cases gk with
    | zero => exact absurd HA.out (by simp [laws_toIntS.l0])
    | succ k1 =>
     have H := HA.out
     clear HA
     simp only [laws_toIntS.l0] at H
     replace H := its_ H; rcases H with ⟨c6b0, H⟩ | ⟨c6b0, H⟩
     ·replace H := its_ H; rcases H with ⟨c7b0, H⟩ | ⟨_, ⟨⟩⟩
      replace H := its_ H; rcases H with ⟨c8b0, H⟩ | ⟨_, ⟨⟩⟩
      obtain ⟨y228, hy228⟩ : ∃ y_ : List Int, y_ = (x3_1.set (x4_1 : Int).toNat (rd l0 x4_1)) := ⟨_, rfl⟩
      replace H : (laws_toIntS.l0 k1 l0 y228 (wrap64 (x4_1 + 1))) = some r := rh_ hy228 H
      have Ny228 := Aside0.mk hy228
      clear hy228
      have H' := Aside0.mk H
      clear H
      have p227 : 0 ≤ (x4_1 : Int) := od_
      have q227 : x4_1 < (l0.length : Int) := od_
      obtain ⟨ad227, e227, hx227_0⟩ := Kd.at_int HR0.out x4_1 p227 q227
      cases e227
      replace hx227_0 := bh_ HB hx227_0
      replace p227 := eq_true p227
      replace q227 := eq_true q227
      have p9 : 0 ≤ (x4_1 : Int) := od_
      have q9 : (x4_1 : Int) < ((x3_1.length : Int) : Int) := od_
      obtain ⟨go9, co9, eo9, gb9, gl9, cl9, HG9⟩ := Kd.R_form HO_3.out (by omega)
      (first | cases eo9 | (injection eo9 with ea_ en_ ec_; (first | subst ea_ | (injection ea_ with ea_; subst ea_)); subst ec_; clear en_))
      have GB9 := Aside0.mk gb9
      have GG9 := Aside0.mk HG9
      clear gb9 gl9 HG9
      obtain ⟨hx9_0, hf9_0⟩ := Kd.R_celln 0 HO_3.out (x4_1 : Int) p9 q9
      replace p9 := eq_true p9
      replace q9 := eq_true q9
      have HP10 := Kd.R_putg HO_3.out (x4_1 : Int) (rd l0 x4_1)
      go_wp2_with (first | ((with_reducible refine gate_store (t := 3) (p := 20) rfl ?_); refine store_event (t := 3) (p := 20) (v := ?vo_w11) (w1 := (wr.setCell ⟨go9, (x4_1 : Int).toNat, none⟩ (.int .i64 (rd l0 x4_1)))) ?hg ?ho ?hn ?hr ?_; (case ho => rfl); (case hg => rfl); (case hn => rfl); (case hr => first | (go_simp; done) | (go_simp; rfl)); intro w11 hw; have hg : wr.grownBy w11 (some go9) := (by rw [hw]; exact HP10.2); have hp_ : Kd.R (Kd.int .i64) 3 w11 w.heap.size (fun _ => True) (.slice (some ⟨go9, 0, none⟩) x3_1.length co9) y228 := (by rw [hw, Ny228.out]; exact HP10.1); clear HP10; replace HO_3 := Aside0.mk (hp_); replace HB := Aside0.mk ((by rw [hw]; exact below_set (HB.out) GB9.out : Below w.heap.size w w11)); clear hg hw hp_))
      go_roundg k1
      case measure => have := HK1.out; omega
      case rel => exact ⟨(y228), (wrap64 (x4_1 + 1)), rs_, H', ⟨by have := HK1.out; omega⟩, ⟨up_ HO_3.out⟩, ⟨up_ HB.out⟩⟩
     ·obtain rfl := Option.some.inj H
      go_wp2
      go_ret
      exact ⟨_, re_, by (with_reducible repeat (first | apply Kd.R_alloc | apply Kd.R_drewN | apply Kd.R_drew)); exact HO_3.out, up_ HB.out⟩
  ·rw [if_neg c3] at H
   exact absurd H (by simp)
 ·rw [if_neg c2] at H
  exact absurd H (by simp)

/-! ### laws_toIntSS: function 31 -/
def laws_toIntSS.l0 : Nat → List (List Int) → List (List Int) → Int → Option ((List (List Int)))
 | 0, _, _, _ => none
 | k + 1, x0, x3, x4 => if x4 < (x0.length : Int) then (if 0 ≤ x4 then ((laws_toIntS.f k (rd_L1 x0 x4)).bind fun t233 => (if x4 < (x3.length : Int) then (laws_toIntSS.l0 k x0 (x3.set (x4 : Int).toNat t233) (wrap64 (x4 + 1))) else (none))) else (none)) else (some x3)
def laws_toIntSS.f (k : Nat) (l0 : List (List Int)) : Option ((List (List Int))) := if 0 ≤ (l0.length : Int) then (if ((l0.length : Int) : Int).toNat ≤ 11728124029610 then (laws_toIntSS.l0 k l0 (List.replicate ((l0.length : Int) : Int).toNat []) 0) else (none)) else (none)
set_option maxHeartbeats 8000000 in
set_option maxRecDepth 100000 in
theorem laws_toIntSS.calls (k : Nat) (A0 : Option Addr) (c0 : Nat) (l0 : List (List Int)) (r : List (List Int)) (w : World) (hr0 : Kd.C (Kd.slice 3 (Kd.int .i64)) w A0 l0.length l0) (hc0 : l0.length ≤ c0) (h : laws_toIntSS.f k l0 = some r) :
  Calls Try.prog 31 #[.slice A0 l0.length c0] w fun e w' => ∃ v0_ : Value, e = .returned (v0_) ∧ Kd.S (Kd.slice 3 (Kd.int .i64)) 25 w' w.heap.size (fun _ => True) v0_ r ∧ Below w.heap.size w w' := by
 have HR0 := Aside0.mk hr0
 have HC0 := Aside0.mk hc0
 clear hr0 hc0
 have HB := Aside0.mk (Below.refl w.heap.size w)
 have H : (if 0 ≤ (l0.length : Int) then (if ((l0.length : Int) : Int).toNat ≤ 11728124029610 then (laws_toIntSS.l0 k l0 (List.replicate ((l0.length : Int) : Int).toNat []) 0) else (none)) else (none)) = some r := h
 clear h
 by_cases c2 : 0 ≤ (l0.length : Int)
 ·rw [if_pos c2] at H
  have c2b0 := eq_true c2
  have c2b1 : decide (0 ≤ (l0.length : Int)) = true := decide_eq_true c2
  clear c2
  by_cases c3 : ((l0.length : Int) : Int).toNat ≤ 11728124029610
  ·rw [if_pos c3] at H
   have c3b0 := eq_true c3
   have c3b1 : decide (((l0.length : Int) : Int).toNat ≤ 11728124029610) = true := decide_eq_true c3
   clear c3
   obtain ⟨y229, hy229⟩ : ∃ y_ : List (List Int), y_ = (List.replicate ((l0.length : Int) : Int).toNat []) := ⟨_, rfl⟩
   replace H : (laws_toIntSS.l0 k l0 y229 0) = some r := rh_ hy229 H
   have Ny229 := Aside0.mk hy229
   clear hy229
   have H' := Aside0.mk H
   clear H
   go_enter Try.func31, Try.ntmps31
   go_wp2_with (first | ((refine gd_ 7 ?_); refine Kd.S_make (Kd.slice 3 (Kd.int .i64)) _ 25 rfl (N := 7) rfl 22 _ _ rfl (l0.length : Int) rfl rfl Try.underlying22 (.slice none 0 0) 24 info25 rfl (by decide) (by omega) [] (ok := fun _ => True) (okp := fun _ => True) ⟨_, rfl, Kd.R_nil _ _ _ _ _⟩ (fun _ hk => hk) trivial (od_) (Nat.le_trans (Nat.mul_le_mul_right _ (od_ : (l0.length : Int).toNat ≤ 11728124029610)) (by omega)) (Below.refl _ _) (Nat.le_refl _) ?_; intro v230 w4 ho5 hb hg_ hnew_; clear hg_ hnew_; (first | rw [← Ny229.out] at ho5 | (simp only [Int.reduceToNat] at ho5; rw [← Ny229.out] at ho5)); have HO231 := Aside0.mk (Kd.S_lower ho5 (below_size (up_ HB.out))); replace HB := bs_ HB hb; clear hb ho5))
   go_loopg [4] k (fun kq v4 w' => ∃ (x3_1 : List (List Int)) (x4_1 : Int), v4 = .int .i64 x4_1 ∧ Aside0 (laws_toIntSS.l0 kq l0 x3_1 x4_1 = some r) ∧ Aside0 (kq ≤ k) ∧ Aside0 (Kd.S (Kd.slice 3 (Kd.int .i64)) 25 w' w.heap.size (fun _ => True) v230 x3_1) ∧ Aside0 (Below w.heap.size w w'))
   case atStart => exact ⟨(y229), (0), rs_, H', ⟨Nat.le_refl _⟩, ⟨up_ HO231.out⟩, ⟨up_ HB.out⟩⟩
   case round =>
    clear H'
    try clear c2
    try clear c2b0
    try clear c2b1
    try clear p2
    try clear c3
    try clear c3b0
    try clear c3b1
    obtain ⟨x3_1, x4_1, rfl, HA, HK1, HO_3, HB⟩ := hrel
    cases gk with
    | zero => exact absurd HA.out (by simp [laws_toIntSS.l0])
    | succ k1 =>
     have H := HA.out
     clear HA
     simp only [laws_toIntSS.l0] at H
     replace H := its_ H; rcases H with ⟨c6b0, H⟩ | ⟨c6b0, H⟩
     ·replace H := its_ H; rcases H with ⟨c7b0, H⟩ | ⟨_, ⟨⟩⟩
      replace H := bnd_ H; obtain ⟨t233, A8, H⟩ := H
      replace H := its_ H; rcases H with ⟨c9b0, H⟩ | ⟨_, ⟨⟩⟩
      obtain ⟨y236, hy236⟩ : ∃ y_ : List (List Int), y_ = (x3_1.set (x4_1 : Int).toNat t233) := ⟨_, rfl⟩
      replace H : (laws_toIntSS.l0 k1 l0 y236 (wrap64 (x4_1 + 1))) = some r := rh_ hy236 H
      have Ny236 := Aside0.mk hy236
      clear hy236
      have H' := Aside0.mk H
      clear H
      have p232 : 0 ≤ (x4_1 : Int) := od_
      have q232 : x4_1 < (l0.length : Int) := od_
      obtain ⟨ad232, A232_0, c232_0, e232, hx232_0, hl232_0, hi232_0⟩ := at_L1 HR0.out x4_1 p232 q232
      cases e232
      replace hx232_0 := bh_ HB hx232_0
      have HR232_0 := Aside0.mk hi232_0
      have HC232_0 := Aside0.mk hl232_0
      clear hi232_0 hl232_0
      replace p232 := eq_true p232
      replace q232 := eq_true q232
      go_wp2_with (first | ((refine gc_ 66 ?_); refine gl_ (some 20) Try.func66 (laws_toIntS.calls k1 _ _ (rd_L1 l0 x4_1) t233 _ (Kd.C_below HR232_0.out (up_ HB.out)) HC232_0.out A8.out) ?_; rintro e w11 ⟨v234, rfl, ho0, hb⟩; refine ⟨_, rfl, ?_⟩; replace HO_3 := Aside0.mk (Kd.S_elder' (up_ HO_3.out) (Kd.R_base ho0) hb); have HO235 := Aside0.mk (Kd.R_lower ho0 (below_size (up_ HB.out))); replace HB := bs_ HB hb; (try clear hb); (try clear hb2); (try clear hk); (try clear hi); (try clear ho0); have p10 : 0 ≤ (x4_1 : Int) := od_; have q10 : (x4_1 : Int) < ((x3_1.length : Int) : Int) := od_; obtain ⟨go10, co10, eo10, gb10, gl10, cl10, HG10⟩ := Kd.S_form HO_3.out (by omega); (first | cases eo10 | (injection eo10 with ea_ en_ ec_; (first | subst ea_ | (injection ea_ with ea_; subst ea_)); subst ec_; clear en_)); have GB10 := Aside0.mk gb10; have GG10 := Aside0.mk HG10; clear gb10 gl10 HG10; obtain ⟨_, ce10, hcl10, hM10, hcc10, hfr10, _, _⟩ := Kd.S_elem HO_3.out [] (x4_1 : Int) p10 q10; obtain ⟨ve10_0, rfl, ge10_0⟩ := hM10; have hx10_0 := hcc10 0 _ rfl; have hf10_0 := hfr10 0; (try simp only [show ((Kd.slice 3 (Kd.int .i64))).sz = 1 from rfl, Nat.mul_one, Nat.add_zero] at hx10_0); (try simp only [show ((Kd.slice 3 (Kd.int .i64))).sz = 1 from rfl, Nat.mul_one, Nat.add_zero] at hf10_0); clear hcl10 hcc10 hfr10; (try clear hM10); replace p10 := eq_true p10; replace q10 := eq_true q10; have n_ := Aside0.mk (Kd.S_mono (ok' := (fun k_ => some k_ ≠ (v234 : Value).ownBlock)) HO_3.out (fun k_ hk => hk.2)); clear HO_3; have HO_3 := n_; clear n_; have HX12 := Aside0.mk (show Kd.S (Kd.slice 3 (Kd.int .i64)) 25 w11 w.heap.size (fun k_ => ((fun _ => True)) k_ ∧ ¬ ((fun k_ => some k_ = (v234 : Value).ownBlock)) k_) (.slice (some ⟨go10, 0, none⟩) x3_1.length co10) x3_1 from (by (with_reducible repeat (first | apply Kd.S_alloc | apply Kd.S_drewN | apply Kd.S_drew)); exact Kd.S_mono HO_3.out (fun k_ hk => ⟨trivial, fun e_ => hk e_⟩))); obtain ⟨oki12, ce12, hcl12, hM12, hcc12, hfr12, hoki12, hH12⟩ := Kd.S_elem HX12.out [] (x4_1 : Int) (od_) (by have h_ : (x4_1 : Int) < ((x3_1.length : Int) : Int) := od_; first | exact h_ | (have e_ := (Kd.S_reads' HO_3.out).1; omega) | simpa using h_); obtain ⟨ve12_0, rfl, ge12_0⟩ := hM12; have HP12 := Kd.S_seg hH12 (od_) (by have h_ : (x4_1 : Int) < ((x3_1.length : Int) : Int) := od_; first | exact h_ | (have e_ := (Kd.S_reads' HO_3.out).1; omega) | simpa using h_) (seg := [v234]) (j := 0) (show 1 ≤ 1 from by decide) (x' := t233) (Kd.M_row (Kd.R_mono (Kd.R_tight rfl (Kd.R_mono (ok' := fun k_ => ((fun _ => True)) k_ ∧ k_ ≠ go10) (Kd.R_apart' (HO235.out) (Kd.S_typed HO_3.out) (by decide)) (fun k_ hk => ⟨trivial, fun e_ => (hk.2) (by rw [e_]; rfl)⟩))) (fun _ h_ => Or.inr (h_)))) (fun _ hk => hk) (fun k_ hk_ => ((Kd.R_mono (ok' := fun k_ => ((fun _ => True)) k_ ∧ k_ ≠ go10) (Kd.R_apart' (HO235.out) (Kd.S_typed HO_3.out) (by decide)) (fun k_ hk => ⟨trivial, fun e_ => (hk.2) (by rw [e_]; rfl)⟩))).1 k_ hk_.symm); have hx12_0 := hcc12 0 _ rfl; (try simp only [show ((Kd.slice 3 (Kd.int .i64))).sz = 1 from rfl, Nat.mul_one, Nat.add_zero] at hx12_0); have hf12_0 := hfr12 0; (try simp only [show ((Kd.slice 3 (Kd.int .i64))).sz = 1 from rfl, Nat.mul_one, Nat.add_zero] at hf12_0); clear hcl12 hcc12 hfr12 hoki12 hH12; (try clear hM12); (try simp only [show ((Kd.slice 3 (Kd.int .i64))).sz = 1 from rfl, Nat.mul_one, Nat.add_zero] at HP12)) | ((with_reducible refine gate_store (t := 25) (p := 21) rfl ?_); refine store_event (t := 25) (p := 21) (v := ?vo_w13) (w1 := (w11.setCell ⟨go10, (x4_1 : Int).toNat, none⟩ (v234))) ?hg ?ho ?hn ?hr ?_; (case ho => rfl); (case hg => rfl); (case hn => rfl); (case hr => first | (go_simp; done) | (go_simp; rfl) | (obtain ⟨_, _, e_⟩ := Kd.R_slice HO235.out; subst e_; first | (go_simp; done) | (go_simp; rfl))); intro w13 hw; have hg : w11.grownBy w13 (some go10) := (by rw [hw]; exact HP12.2); have hp_ : Kd.S (Kd.slice 3 (Kd.int .i64)) 25 w13 w.heap.size (fun _ => True) (.slice (some ⟨go10, 0, none⟩) x3_1.length co10) y236 := (by rw [hw, Ny236.out]; exact HP12.1); clear HP12; have n0_ := Aside0.mk (hp_); have n1_ := Aside0.mk ((by rw [hw]; exact below_set (HB.out) GB10.out : Below w.heap.size w w13)); clear HO_3; clear HB; clear HO235; have HO_3 := n0_; have HB := n1_; clear n0_ n1_; clear hg hw hp_))
      go_roundg k1
      case measure => have := HK1.out; omega
      case rel => exact ⟨(y236), (wrap64 (x4_1 + 1)), rs_, H', ⟨by have := HK1.out; omega⟩, ⟨up_ HO_3.out⟩, ⟨up_ HB.out⟩⟩
     ·obtain rfl := Option.some.inj H
      go_wp2
      go_ret
      exact ⟨_, re_, by (with_reducible repeat (first | apply Kd.S_alloc | apply Kd.S_drewN | apply Kd.S_drew)); exact HO_3.out, up_ HB.out⟩
  ·rw [if_neg c3] at H
   exact absurd H (by simp)
 ·rw [if_neg c2] at H
  exact absurd H (by simp)

/-! ### laws_toLearner: function 15 -/
def laws_toLearner.f (k : Nat) (a0_0 : Int) (l0_1 : List (List Int)) (a0_2 : Int) : Option (Int × (List (List Int)) × Int) := (laws_toIntSS.f k l0_1).bind fun t240 => (some (a0_0, t240, a0_2))
set_option maxHeartbeats 8000000 in
set_option maxRecDepth 100000 in
theorem laws_toLearner.calls (k : Nat) (a0_0 : Int) (A0_1 : Option Addr) (c0_1 : Nat) (l0_1 : List (List Int)) (a0_2 : Int) (r1 : Int) (r2 : List (List Int)) (r3 : Int) (w : World) (hr0_1 : Kd.C (Kd.slice 3 (Kd.int .i64)) w A0_1 l0_1.length l0_1) (hc0_1 : l0_1.length ≤ c0_1) (h : laws_toLearner.f k a0_0 l0_1 a0_2 = some (r1, r2, r3)) :
  Calls Try.prog 15 #[.agg #[.int .i64 a0_0, .slice A0_1 l0_1.length c0_1, .int .i64 a0_2]] w fun e w' => ∃ v1_ : Value, e = .returned (.agg #[.int .i64 r1, v1_, .int .i64 r3]) ∧ Kd.S (Kd.slice 3 (Kd.int .i64)) 25 w' w.heap.size (fun _ => True) v1_ r2 ∧ Below w.heap.size w w' := by
 have hu24 := Try.underlying24
 have hu30 := Try.underlying30
 have HR0_1 := Aside0.mk hr0_1
 have HC0_1 := Aside0.mk hc0_1
 clear hr0_1 hc0_1
 have HB := Aside0.mk (Below.refl w.heap.size w)
 have H : ((laws_toIntSS.f k l0_1).bind fun t240 => (some (a0_0, t240, a0_2))) = some (r1, r2, r3) := h
 clear h
 replace H := Option.bind_eq_some_iff.mp H
 obtain ⟨t240, A20, H⟩ := H
 replace H : (some (a0_0, t240, a0_2)) = some (r1, r2, r3) := H
 have A2 := Aside0.mk A20
 clear A20
 simp only [Option.some.injEq, Prod.mk.injEq] at H
 obtain ⟨rfl, rfl, rfl⟩ := H
 go_enter Try.func15, Try.ntmps15
 go_wp2_with (first | ((refine gd_ 1 ?_); refine bx_ 1 #[.int .i64 a0_0, .slice A0_1 l0_1.length c0_1, .int .i64 a0_2] 24 ?_; intro gb237 hg w3 hbox hb; have BK237 := Aside0.mk (hbox); have GW237 := gw_ HB hg; have GE237 := gw_ HB hg; replace HB := bs_ HB hb; clear hb hbox hg) | ((refine gd_ 2 ?_); refine bx_ 2 #[.int .i64 0, .slice none 0 0, .int .i64 0] 30 ?_; intro gb238 hg w4 hbox hb; have BK238 := Aside0.mk (hbox); have GW238 := gw_ HB hg; have GE238 := gw_ HB hg; replace HB := bs_ HB hb; have NB237_238 := Aside0.mk ((by rw [hg]; exact Nat.ne_of_lt (blk_lt (g := gb237) (o := .cells #[.int .i64 a0_0, .slice A0_1 l0_1.length c0_1, .int .i64 a0_2] 24 (0, 0)) (up_ BK237.out)) : gb237 ≠ gb238)); have NB238_237 := Aside0.mk ((by rw [hg]; exact Nat.ne_of_gt (blk_lt (g := gb237) (o := .cells #[.int .i64 a0_0, .slice A0_1 l0_1.length c0_1, .int .i64 a0_2] 24 (0, 0)) (up_ BK237.out)) : gb238 ≠ gb237)); replace BK237 := bb_ BK237 hb; clear hb hbox hg) | ((refine gd_ 3 ?_); refine bx_ 3 #[.int .i64 0, .slice none 0 0, .int .i64 0] 30 ?_; intro gb239 hg w5 hbox hb; have BK239 := Aside0.mk (hbox); have GW239 := gw_ HB hg; have GE239 := gw_ HB hg; replace HB := bs_ HB hb; have NB237_239 := Aside0.mk ((by rw [hg]; exact Nat.ne_of_lt (blk_lt (g := gb237) (o := .cells #[.int .i64 a0_0, .slice A0_1 l0_1.length c0_1, .int .i64 a0_2] 24 (0, 0)) (up_ BK237.out)) : gb237 ≠ gb239)); have NB239_237 := Aside0.mk ((by rw [hg]; exact Nat.ne_of_gt (blk_lt (g := gb237) (o := .cells #[.int .i64 a0_0, .slice A0_1 l0_1.length c0_1, .int .i64 a0_2] 24 (0, 0)) (up_ BK237.out)) : gb239 ≠ gb237)); replace BK237 := bb_ BK237 hb; have NB238_239 := Aside0.mk ((by rw [hg]; exact Nat.ne_of_lt (blk_lt (g := gb238) (o := .cells #[.int .i64 0, .slice none 0 0, .int .i64 0] 30 (0, 0)) (up_ BK238.out)) : gb238 ≠ gb239)); have NB239_238 := Aside0.mk ((by rw [hg]; exact Nat.ne_of_gt (blk_lt (g := gb238) (o := .cells #[.int .i64 0, .slice none 0 0, .int .i64 0] 30 (0, 0)) (up_ BK238.out)) : gb239 ≠ gb238)); replace BK238 := bb_ BK238 hb; clear hb hbox hg; have hnb6 := NB237_238.out; have hnc6 := NB238_237.out; have hnb7 := NB237_239.out; have hnc7 := NB239_237.out; obtain ⟨hcz8_0, hcz8_1, hcz8_2⟩ := c3_ BK237; have hfz8_0 := blk_frozen BK237.out 0; have hfz8_1 := blk_frozen BK237.out 1; have hfz8_2 := blk_frozen BK237.out 2; have hnb9 := NB239_238.out; have hnc9 := NB238_239.out; obtain ⟨hcz10_0, hcz10_1, hcz10_2⟩ := c3_ BK239; have hfz10_0 := blk_frozen BK239.out 0; have hfz10_1 := blk_frozen BK239.out 1; have hfz10_2 := blk_frozen BK239.out 2) | ((refine gc_ 31 ?_); refine gl_ (some 9) Try.func31 (laws_toIntSS.calls k _ _ l0_1 t240 _ (Kd.C_below HR0_1.out (up_ HB.out)) HC0_1.out A2.out) ?_; rintro e w11 ⟨v241, rfl, ho0, hb⟩; refine ⟨_, rfl, ?_⟩; have HO242 := Aside0.mk (Kd.S_lower ho0 (below_size (up_ HB.out))); replace BK237 := Aside0.mk (blk_below (g := gb237) (o := .cells #[.int .i64 a0_0, .slice A0_1 l0_1.length c0_1, .int .i64 a0_2] 24 (0, 0)) (by (with_reducible repeat (first | refine blk_drewN ?_ _ | refine blk_drew ?_ | refine blk_alloc ?_ _)); refine blk_far ?_ NB237_239.out _; (with_reducible repeat (first | refine blk_drewN ?_ _ | refine blk_drew ?_ | refine blk_alloc ?_ _)); exact BK237.out) hb); replace BK238 := Aside0.mk (blk_below (g := gb238) (o := .cells #[.int .i64 0, .slice none 0 0, .int .i64 0] 30 (0, 0)) (by (with_reducible repeat (first | refine blk_drewN ?_ _ | refine blk_drew ?_ | refine blk_alloc ?_ _)); refine blk_far ?_ NB238_239.out _; (with_reducible repeat (first | refine blk_drewN ?_ _ | refine blk_drew ?_ | refine blk_alloc ?_ _)); exact BK238.out) hb); replace BK239 := Aside0.mk (blk_below (g := gb239) (o := .cells #[.int .i64 a0_0, .slice none 0 0, .int .i64 0] 30 (0, 0)) (by (with_reducible repeat (first | refine blk_drewN ?_ _ | refine blk_drew ?_ | refine blk_alloc ?_ _)); refine blk_put (cs := #[.int .i64 0, .slice none 0 0, .int .i64 0]) ?_ 0 _ rfl; (with_reducible repeat (first | refine blk_drewN ?_ _ | refine blk_drew ?_ | refine blk_alloc ?_ _)); exact BK239.out) hb); replace HB := bs_ HB hb; (try clear hb); (try clear hb2); (try clear hk); (try clear hi); (try clear ho0); obtain ⟨Ao12, co12, eo12⟩ := Kd.S_slice HO242.out; subst eo12; obtain ⟨hcz13_0, hcz13_1, hcz13_2⟩ := c3_ BK239; have hfz13_0 := blk_frozen BK239.out 0; have hfz13_1 := blk_frozen BK239.out 1; have hfz13_2 := blk_frozen BK239.out 2; obtain ⟨hcz14_0, hcz14_1, hcz14_2⟩ := c3_ BK237; have hfz14_0 := blk_frozen BK237.out 0; have hfz14_1 := blk_frozen BK237.out 1; have hfz14_2 := blk_frozen BK237.out 2; obtain ⟨hcz15_0, hcz15_1, hcz15_2⟩ := c3_ BK238; have hfz15_0 := blk_frozen BK238.out 0; have hfz15_1 := blk_frozen BK238.out 1; have hfz15_2 := blk_frozen BK238.out 2))
 refine bodyPost_ret (results_cell_row rfl _ _ gb238 30 #[.int .i64 a0_0, .slice Ao12 t240.length co12, .int .i64 a0_2] (0, 0) _ rfl (by (with_reducible repeat (first | refine blk_drewN ?_ _ | refine blk_drew ?_ | refine blk_alloc ?_ _)); refine blk_put (cs := #[.int .i64 a0_0, .slice Ao12 t240.length co12, .int .i64 0]) ?_ 2 _ rfl; (with_reducible repeat (first | refine blk_drewN ?_ _ | refine blk_drew ?_ | refine blk_alloc ?_ _)); refine blk_put (cs := #[.int .i64 a0_0, .slice none 0 0, .int .i64 0]) ?_ 1 _ rfl; (with_reducible repeat (first | refine blk_drewN ?_ _ | refine blk_drew ?_ | refine blk_alloc ?_ _)); refine blk_put (cs := #[.int .i64 0, .slice none 0 0, .int .i64 0]) ?_ 0 _ rfl; (with_reducible repeat (first | refine blk_drewN ?_ _ | refine blk_drew ?_ | refine blk_alloc ?_ _)); refine blk_far ?_ NB238_239.out _; (with_reducible repeat (first | refine blk_drewN ?_ _ | refine blk_drew ?_ | refine blk_alloc ?_ _)); refine blk_far ?_ NB238_239.out _; (with_reducible repeat (first | refine blk_drewN ?_ _ | refine blk_drew ?_ | refine blk_alloc ?_ _)); exact BK238.out) Try.underlying30 rfl (by kernel_rfl)) rfl ?_
 exact ⟨_, re_, by (with_reducible repeat (first | apply Kd.S_alloc | apply Kd.S_drewN | apply Kd.S_drew)); exact Kd.S_mono (Kd.S_far (p := ⟨gb238, 2, none⟩) (Kd.S_far (p := ⟨gb238, 1, none⟩) (Kd.S_far (p := ⟨gb238, 0, none⟩) (Kd.S_far (p := ⟨gb239, 2, none⟩) (Kd.S_far (p := ⟨gb239, 1, none⟩) (Kd.S_types (Kd.S_types HO242.out BK239.out (by decide)) BK238.out (by decide)) (fun _ hk => hk.1.2) (.slice Ao12 t240.length co12)) (fun _ hk => hk.1.2) (.int .i64 a0_2)) (fun _ hk => hk.2) (.int .i64 a0_0)) (fun _ hk => hk.2) (.slice Ao12 t240.length co12)) (fun _ hk => hk.2) (.int .i64 a0_2)) (fun _ hk => trivial), up_ HB.out⟩

/-! ### laws_toRow: function 16 -/
def laws_toRow.f (k : Nat) (l0_0 : List Int) : Option (List Int) := (laws_toIntS.f k l0_0).bind fun t246 => (some t246)
set_option maxHeartbeats 8000000 in
set_option maxRecDepth 100000 in
theorem laws_toRow.calls (k : Nat) (A0_0 : Option Addr) (c0_0 : Nat) (l0_0 : List Int) (r : List Int) (w : World) (hr0_0 : Kd.C (Kd.int .i64) w A0_0 l0_0.length l0_0) (hc0_0 : l0_0.length ≤ c0_0) (h : laws_toRow.f k l0_0 = some r) :
  Calls Try.prog 16 #[.agg #[.slice A0_0 l0_0.length c0_0]] w fun e w' => ∃ v0_ : Value, e = .returned (.agg #[v0_]) ∧ Kd.R (Kd.int .i64) 3 w' w.heap.size (fun _ => True) v0_ r ∧ Below w.heap.size w w' := by
 have hu27 := Try.underlying27
 have hu34 := Try.underlying34
 have HR0_0 := Aside0.mk hr0_0
 have HC0_0 := Aside0.mk hc0_0
 clear hr0_0 hc0_0
 have HB := Aside0.mk (Below.refl w.heap.size w)
 have H : ((laws_toIntS.f k l0_0).bind fun t246 => (some t246)) = some r := h
 clear h
 replace H := bnd_ H; obtain ⟨t246, A2, H⟩ := H
 obtain rfl := Option.some.inj H
 go_enter Try.func16, Try.ntmps16
 go_wp2_with (first | ((refine gd_ 1 ?_); refine bx_ 1 #[.slice A0_0 l0_0.length c0_0] 27 ?_; intro gb243 hg w3 hbox hb; have BK243 := Aside0.mk (hbox); have GW243 := gw_ HB hg; have GE243 := gw_ HB hg; replace HB := bs_ HB hb; clear hb hbox hg) | ((refine gd_ 2 ?_); refine bx_ 2 #[.slice none 0 0] 34 ?_; intro gb244 hg w4 hbox hb; have BK244 := Aside0.mk (hbox); have GW244 := gw_ HB hg; have GE244 := gw_ HB hg; replace HB := bs_ HB hb; have NB243_244 := Aside0.mk ((by rw [hg]; exact Nat.ne_of_lt (blk_lt (g := gb243) (o := .cells #[.slice A0_0 l0_0.length c0_0] 27 (0, 0)) (up_ BK243.out)) : gb243 ≠ gb244)); have NB244_243 := Aside0.mk ((by rw [hg]; exact Nat.ne_of_gt (blk_lt (g := gb243) (o := .cells #[.slice A0_0 l0_0.length c0_0] 27 (0, 0)) (up_ BK243.out)) : gb244 ≠ gb243)); replace BK243 := bb_ BK243 hb; clear hb hbox hg) | ((refine gd_ 3 ?_); refine bx_ 3 #[.slice none 0 0] 34 ?_; intro gb245 hg w5 hbox hb; have BK245 := Aside0.mk (hbox); have GW245 := gw_ HB hg; have GE245 := gw_ HB hg; replace HB := bs_ HB hb; have NB243_245 := Aside0.mk ((by rw [hg]; exact Nat.ne_of_lt (blk_lt (g := gb243) (o := .cells #[.slice A0_0 l0_0.length c0_0] 27 (0, 0)) (up_ BK243.out)) : gb243 ≠ gb245)); have NB245_243 := Aside0.mk ((by rw [hg]; exact Nat.ne_of_gt (blk_lt (g := gb243) (o := .cells #[.slice A0_0 l0_0.length c0_0] 27 (0, 0)) (up_ BK243.out)) : gb245 ≠ gb243)); replace BK243 := bb_ BK243 hb; have NB244_245 := Aside0.mk ((by rw [hg]; exact Nat.ne_of_lt (blk_lt (g := gb244) (o := .cells #[.slice none 0 0] 34 (0, 0)) (up_ BK244.out)) : gb244 ≠ gb245)); have NB245_244 := Aside0.mk ((by rw [hg]; exact Nat.ne_of_gt (blk_lt (g := gb244) (o := .cells #[.slice none 0 0] 34 (0, 0)) (up_ BK244.out)) : gb245 ≠ gb244)); replace BK244 := bb_ BK244 hb; clear hb hbox hg; have hnb6 := NB243_244.out; have hnc6 := NB244_243.out; have hnb7 := NB243_245.out; have hnc7 := NB245_243.out; have hcz8_0 := c1_ BK243; have hfz8_0 := blk_frozen BK243.out 0) | ((refine gc_ 66 ?_); refine gl_ (some 6) Try.func66 (laws_toIntS.calls k _ _ l0_0 t246 _ (Kd.C_below HR0_0.out (up_ HB.out)) HC0_0.out A2.out) ?_; rintro e w9 ⟨v247, rfl, ho0, hb⟩; refine ⟨_, rfl, ?_⟩; have HO248 := Aside0.mk (Kd.R_lower ho0 (below_size (up_ HB.out))); replace BK243 := bb_ BK243 hb; replace BK244 := bb_ BK244 hb; replace BK245 := bb_ BK245 hb; replace HB := bs_ HB hb; (try clear hb); (try clear hb2); (try clear hk); (try clear hi); (try clear ho0); obtain ⟨Ao10, co10, eo10⟩ := Kd.R_slice HO248.out; subst eo10; have hnb11 := NB245_244.out; have hnc11 := NB244_245.out; have hcz12_0 := c1_ BK245; have hfz12_0 := blk_frozen BK245.out 0; have hcz13_0 := c1_ BK244; have hfz13_0 := blk_frozen BK244.out 0))
 refine bodyPost_ret (results_cell_row rfl _ _ gb244 34 #[.slice Ao10 t246.length co10] (0, 0) _ rfl (by (with_reducible repeat (first | refine blk_drewN ?_ _ | refine blk_drew ?_ | refine blk_alloc ?_ _)); refine blk_put (cs := #[.slice none 0 0]) ?_ 0 _ rfl; (with_reducible repeat (first | refine blk_drewN ?_ _ | refine blk_drew ?_ | refine blk_alloc ?_ _)); refine blk_far ?_ NB244_245.out _; (with_reducible repeat (first | refine blk_drewN ?_ _ | refine blk_drew ?_ | refine blk_alloc ?_ _)); exact BK244.out) Try.underlying34 rfl (by kernel_rfl)) rfl ?_
 exact ⟨_, re_, by (with_reducible repeat (first | apply Kd.R_alloc | apply Kd.R_drewN | apply Kd.R_drew)); exact Kd.R_mono (Kd.R_far (p := ⟨gb244, 0, none⟩) (Kd.R_far (p := ⟨gb245, 0, none⟩) (Kd.R_types (Kd.R_types HO248.out BK245.out (by decide)) BK244.out (by decide)) (fun _ hk => hk.1.2) (.slice Ao10 t246.length co10)) (fun _ hk => hk.2) (.slice Ao10 t246.length co10)) (fun _ hk => trivial), up_ HB.out⟩

/-! ### impl_within: function 98 -/
def impl_within.f (a0 : Int) (a1 : Int) (a2 : Int) : Option (Bool) := if a1 ≤ a0 then (some (decide (a0 ≤ a2))) else (some false)
set_option maxHeartbeats 8000000 in
set_option maxRecDepth 100000 in
theorem impl_within.calls (a0 : Int) (a1 : Int) (a2 : Int) (r : Bool) (w : World) (h : impl_within.f a0 a1 a2 = some r) :
  Calls Try.prog 98 #[.int .i64 a0, .int .i64 a1, .int .i64 a2] w fun e w' => e = .returned (.bool r) ∧ Drawn0 w w' := by
 have H : (if a1 ≤ a0 then (some (decide (a0 ≤ a2))) else (some false)) = some r := h
 clear h
 replace H := its_ H; rcases H with ⟨c4b0, H⟩ | ⟨c4b0, H⟩
 ·obtain rfl := Option.some.inj H
  go_enter Try.func98, Try.ntmps98
  go_wp2
  go_ret
  exact ⟨rs_, dn_⟩
 ·obtain rfl := Option.some.inj H
  go_enter Try.func98, Try.ntmps98
  go_wp2
  go_ret
  exact ⟨rs_, dn_⟩

/-! ### impl_isStrict: function 182 -/
def impl_isStrict.l0 : Nat → List Int → Int → List Int → Int → Int → Option (Bool)
 | 0, _, _, _, _, _ => none
 | k + 1, x0, x1, x7, x8, x9 => if x9 < x8 then (if 0 ≤ x9 then (if x9 < (x7.length : Int) then ((impl_within.f (rd x7 x9) 0 (wrap64 (x1 - 1))).bind fun t250 => (if t250 = true then (if x9 > 0 then (if 0 ≤ (wrap64 (x9 - 1)) then (if (wrap64 (x9 - 1)) < (x0.length : Int) then (if (rd x7 x9) ≤ (rd x0 (wrap64 (x9 - 1))) then (some false) else (impl_isStrict.l0 k x0 x1 x7 x8 (wrap64 (x9 + 1)))) else (none)) else (none)) else (impl_isStrict.l0 k x0 x1 x7 x8 (wrap64 (x9 + 1)))) else (some false))) else (none)) else (none)) else (some true)
def impl_isStrict.f (k : Nat) (l0 : List Int) (a1 : Int) : Option (Bool) := impl_isStrict.l0 k l0 a1 l0 (l0.length : Int) 0
set_option maxHeartbeats 8000000 in
set_option maxRecDepth 100000 in
theorem impl_isStrict.calls (k : Nat) (A0 : Option Addr) (c0 : Nat) (l0 : List Int) (a1 : Int) (r : Bool) (w : World) (hr0 : Kd.C (Kd.int .i64) w A0 l0.length l0) (hc0 : l0.length ≤ c0) (h : impl_isStrict.f k l0 a1 = some r) :
  Calls Try.prog 182 #[.slice A0 l0.length c0, .int .i64 a1] w fun e w' => e = .returned (.bool r) ∧ Drawn0 w w' := by
 have HR0 := Aside0.mk hr0
 have HC0 := Aside0.mk hc0
 clear hr0 hc0
 have H : (impl_isStrict.l0 k l0 a1 l0 (l0.length : Int) 0) = some r := h
 clear h
 have H' := Aside0.mk H
 clear H
 go_enter Try.func182, Try.ntmps182
 go_wp2
 go_loopg [9] k (fun kq v9 w' => ∃ (x9_1 : Int), v9 = .int .i64 x9_1 ∧ Aside0 (impl_isStrict.l0 kq l0 a1 l0 (l0.length : Int) x9_1 = some r) ∧ Aside0 (kq ≤ k) ∧ Drawn0 w w')
 case atStart => exact ⟨(0), rs_, H', ⟨Nat.le_refl _⟩, dn_⟩
 case round =>
  clear H'
  try clear c1
  try clear p2
  obtain ⟨x9_1, rfl, HA, HK1, ⟨m1, rfl⟩⟩ := hrel
  cases gk with
  | zero => exact absurd HA.out (by simp [impl_isStrict.l0])
  | succ k1 =>
   have H := HA.out
   clear HA
   simp only [impl_isStrict.l0] at H
   replace H := its_ H; rcases H with ⟨c3b0, H⟩ | ⟨c3b0, H⟩
   ·replace H := its_ H; rcases H with ⟨c4b0, H⟩ | ⟨_, ⟨⟩⟩
    replace H := its_ H; rcases H with ⟨c5b0, H⟩ | ⟨_, ⟨⟩⟩
    replace H := bnd_ H; obtain ⟨t250, A6, H⟩ := H
    replace H := itb_ H; rcases H with ⟨rfl, H⟩ | ⟨rfl, H⟩
    ·by_cases c8 : x9_1 > 0
     ·rw [if_pos c8] at H
      have c8b0 : decide (0 < x9_1) = true := decide_eq_true c8
      clear c8
      obtain ⟨ji9, hji9⟩ : ∃ j_ : Int, (wrap64 (x9_1 - 1)) = j_ := ⟨_, rfl⟩
      replace H : (if 0 ≤ (ji9) then (if (ji9) < (l0.length : Int) then (if (rd l0 x9_1) ≤ (rd l0 (ji9)) then (some false) else (impl_isStrict.l0 k1 l0 a1 l0 (l0.length : Int) (wrap64 (x9_1 + 1)))) else (none)) else (none)) = some r := by first | (rw [hji9] at H; exact H) | (simp only [hji9] at H ⊢; exact H)
      (try rw [hji9] at A6)
      have hji9w : (IntKind.i64.wrap (x9_1 - 1)) = ji9 := (i64_w _).trans hji9
      replace H := its_ H; rcases H with ⟨c10b0, H⟩ | ⟨_, ⟨⟩⟩
      replace H := its_ H; rcases H with ⟨c11b0, H⟩ | ⟨_, ⟨⟩⟩
      replace H := its_ H; rcases H with ⟨c12b0, H⟩ | ⟨c12b0, H⟩
      ·obtain rfl := Option.some.inj H
       have p249 : 0 ≤ (x9_1 : Int) := od_
       have q249 : x9_1 < (l0.length : Int) := od_
       obtain ⟨ad249, e249, hx249_0⟩ := Kd.at_int HR0.out x9_1 p249 q249
       cases e249
       replace p249 := eq_true p249
       replace q249 := eq_true q249
       go_wp2_with (first | ((refine gc_ 98 ?_); refine gq_ (some 17) Try.func98 (impl_within.calls (rd l0 x9_1) 0 (wrap64 (a1 - 1)) true _ A6.out) (fun nd => ?_); have p251 : 0 ≤ ((ji9) : Int) := od_; have q251 : (ji9) < (l0.length : Int) := od_; obtain ⟨ad251, e251, hx251_0⟩ := Kd.at_int HR0.out (ji9) p251 q251; obtain rfl : ad249 = ad251 := (by injection e251); replace p251 := eq_true p251; replace q251 := eq_true q251))
       go_ret
       exact ⟨by first | rfl | (simp; done) | (simp only [← hji9] <;> (first | rfl | simp)) | (simp [*]; done), dn_⟩
      ·have H' := Aside0.mk H
       clear H
       have p249 : 0 ≤ (x9_1 : Int) := od_
       have q249 : x9_1 < (l0.length : Int) := od_
       obtain ⟨ad249, e249, hx249_0⟩ := Kd.at_int HR0.out x9_1 p249 q249
       cases e249
       replace p249 := eq_true p249
       replace q249 := eq_true q249
       go_wp2_with (first | ((refine gc_ 98 ?_); refine gq_ (some 17) Try.func98 (impl_within.calls (rd l0 x9_1) 0 (wrap64 (a1 - 1)) true _ A6.out) (fun nd => ?_); have p251 : 0 ≤ ((ji9) : Int) := od_; have q251 : (ji9) < (l0.length : Int) := od_; obtain ⟨ad251, e251, hx251_0⟩ := Kd.at_int HR0.out (ji9) p251 q251; obtain rfl : ad249 = ad251 := (by injection e251); replace p251 := eq_true p251; replace q251 := eq_true q251))
       go_roundg k1
       case measure => have := HK1.out; omega
       case rel => exact ⟨(wrap64 (x9_1 + 1)), rs_, H', ⟨by have := HK1.out; omega⟩, dn_⟩
     ·rw [if_neg c8] at H
      have c8b0 : decide (0 < x9_1) = false := decide_eq_false c8
      clear c8
      have H' := Aside0.mk H
      clear H
      have p249 : 0 ≤ (x9_1 : Int) := od_
      have q249 : x9_1 < (l0.length : Int) := od_
      obtain ⟨ad249, e249, hx249_0⟩ := Kd.at_int HR0.out x9_1 p249 q249
      cases e249
      replace p249 := eq_true p249
      replace q249 := eq_true q249
      go_wp2_with (first | ((refine gc_ 98 ?_); refine gq_ (some 17) Try.func98 (impl_within.calls (rd l0 x9_1) 0 (wrap64 (a1 - 1)) true _ A6.out) (fun nd => ?_)))
      go_roundg k1
      case measure => have := HK1.out; omega
      case rel => exact ⟨(wrap64 (x9_1 + 1)), rs_, H', ⟨by have := HK1.out; omega⟩, dn_⟩
    ·obtain rfl := Option.some.inj H
     have p249 : 0 ≤ (x9_1 : Int) := od_
     have q249 : x9_1 < (l0.length : Int) := od_
     obtain ⟨ad249, e249, hx249_0⟩ := Kd.at_int HR0.out x9_1 p249 q249
     cases e249
     replace p249 := eq_true p249
     replace q249 := eq_true q249
     go_wp2_with (first | ((refine gc_ 98 ?_); refine gq_ (some 17) Try.func98 (impl_within.calls (rd l0 x9_1) 0 (wrap64 (a1 - 1)) false _ A6.out) (fun nd => ?_)))
     go_ret
     exact ⟨rs_, dn_⟩
   ·obtain rfl := Option.some.inj H
    go_wp2
    go_ret
    exact ⟨rs_, dn_⟩

/-! ### impl_IsRanking: function 139 -/
def impl_IsRanking.f (k : Nat) (l0 : List Int) (a1 : Int) : Option (Bool) := (impl_within.f a1 1 5).bind fun t => if t = true then (if (l0.length : Int) = a1 then impl_isStrict.f k (l0.mergeSort (fun x y => decide (x ≤ y))) a1 else some false) else some false
set_option maxHeartbeats 8000000 in
set_option maxRecDepth 100000 in
theorem impl_IsRanking.calls (k : Nat) (A0 : Option Addr) (c0 : Nat) (l0 : List Int) (a1 : Int) (r : Bool) (w : World) (hr0 : Kd.C (Kd.int .i64) w A0 l0.length l0) (hc0 : l0.length ≤ c0) (h : impl_IsRanking.f k l0 a1 = some r) :
  Calls Try.prog 139 #[.slice A0 l0.length c0, .int .i64 a1] w fun e w' => e = .returned (.bool r) ∧ Below w.heap.size w w' := by
 obtain ⟨t, ht, h⟩ := Option.bind_eq_some_iff.mp h
 have hB0 := Below.refl w.heap.size w
 have hdr : ∀ {w' : World}, Drawn0 w w' → Below w.heap.size w w' := fun ⟨m, e⟩ => by subst e; exact pw_below_drewN hB0 m
 cases t with
 | false =>
  rw [if_neg (by decide)] at h
  obtain rfl := Option.some.inj h
  go_enter Try.func139, Try.ntmps139
  go_wp2_with (go_at_call 98; refine (impl_within.calls a1 1 5 false w ht).mono ?_; rintro e w' ⟨rfl, ⟨m, rfl⟩⟩)
  go_ret
  exact ⟨rfl, pw_below_drewN hB0 m⟩
 | true =>
  rw [if_pos rfl] at h
  by_cases hl : (l0.length : Int) = a1
  ·rw [if_pos hl] at h
   have hl5 : l0.length ≤ 5 := by
    unfold impl_within.f at ht
    split at ht
    ·have := of_decide_eq_true (Option.some.inj ht); omega
    ·cases ht
   have hb0 : decide ((l0.length : Int) = a1) = true := decide_eq_true hl
   have hl1 : l0.length ≤ maxLen := by unfold maxLen; omega
   have hl2 : l0.length * 8 ≤ 140737488355328 := by omega
   go_enter Try.func139, Try.ntmps139
   go_wp2_with (first
    | (go_at_call 98; refine (impl_within.calls a1 1 5 true w ht).mono ?_; rintro e w' ⟨rfl, ⟨m, rfl⟩⟩)
    | (go_at_call 184; refine (Go.Proofs.Ytkddpilambnicaa.Seq.values A0 l0.length c0 _).mono ?_; rintro e w' ⟨rfl, rfl⟩)
    | (go_at_call 183; refine (Go.Proofs.Ytkddpilambnicaa.Seq.sortedV _ A0 c0 l0 hl1 hl2 (Kd.C_drewN hr0 m)).mono ?_; rintro e w1 ⟨q, B, c, hq, rfl, hle, hCC, hb1⟩; rw [hq] at h)
    | (go_at_call 182; refine (impl_isStrict.calls k B c q a1 r w1 hCC hle h).mono ?_; rintro e w' ⟨rfl, ⟨m2, rfl⟩⟩))
   go_ret
   exact ⟨rfl, pw_below_drewN ((pw_below_drewN hB0 m).trans (hb1.mono (by simp))) m2⟩
  ·rw [if_neg hl] at h
   obtain rfl := Option.some.inj h
   have hb0 : decide ((l0.length : Int) = a1) = false := decide_eq_false hl
   go_enter Try.func139, Try.ntmps139
   go_wp2_with (go_at_call 98; refine (impl_within.calls a1 1 5 true w ht).mono ?_; rintro e w' ⟨rfl, ⟨m, rfl⟩⟩)
   go_ret
   exact ⟨rfl, pw_below_drewN hB0 m⟩

/-! ### v_slices_GrowNil_int: function 209 -/
def v_slices_GrowNil_int.f (a0 : Int) : Option (List Int) := if 0 ≤ a0 ∧ a0 ≤ 17592186044416 then some [] else none
theorem v_slices_GrowNil_int.calls (a0 : Int) (r : List Int) (w : World) (h : v_slices_GrowNil_int.f a0 = some r) :
  Calls Try.prog 209 #[.slice none 0 0, .int .i64 a0] w fun e w' => ∃ v0_ : Value, e = .returned (v0_) ∧ Kd.R (Kd.int .i64) 3 w' w.heap.size (fun _ => True) v0_ r ∧ Below w.heap.size w w' := by
 unfold v_slices_GrowNil_int.f at h
 by_cases c : 0 ≤ a0 ∧ a0 ≤ 17592186044416
 ·rw [if_pos c] at h
  obtain rfl := Option.some.inj h
  obtain ⟨n, rfl⟩ : ∃ n : Nat, a0 = (n : Int) := ⟨a0.toNat, by omega⟩
  exact Go.Proofs.Ytkddpilambnicaa.Seq.growNil n w (by omega)
 ·rw [if_neg c] at h
  cases h

/-! ### slices_Concat_int_int: function 189 -/
mutual
def slices_Concat_int_int.l0 : Nat → List (List Int) → Int → List (List Int) → Int → Int → Option (List Int)
 | 0, _, _, _, _, _ => none
 | k + 1, x0, x3, x9, x10, x11 => if x11 < x10 then (if 0 ≤ x11 then (if x11 < (x9.length : Int) then (if (wrap64 (x3 + ((rd_L1 x9 x11).length : Int))) < 0 then (none) else (slices_Concat_int_int.l0 k x0 (wrap64 (x3 + ((rd_L1 x9 x11).length : Int))) x9 x10 (wrap64 (x11 + 1)))) else (none)) else (none)) else ((v_slices_GrowNil_int.f x3).bind fun t253 => (slices_Concat_int_int.l1 k t253 x0 (x0.length : Int) 0))
def slices_Concat_int_int.l1 : Nat → List Int → List (List Int) → Int → Int → Option (List Int)
 | 0, _, _, _, _ => none
 | k + 1, x6, x25, x26, x27 => if x27 < x26 then (if 0 ≤ x27 then (if x27 < (x25.length : Int) then (if x6.length + (rd_L1 x25 x27).length < 17592186044416 then (slices_Concat_int_int.l1 k (x6 ++ (rd_L1 x25 x27)) x25 x26 (wrap64 (x27 + 1))) else (none)) else (none)) else (none)) else (some x6)
end
def slices_Concat_int_int.f (k : Nat) (l0 : List (List Int)) : Option (List Int) := slices_Concat_int_int.l0 k l0 0 l0 (l0.length : Int) 0
set_option maxHeartbeats 8000000 in
set_option maxRecDepth 100000 in
theorem slices_Concat_int_int.calls (k : Nat) (A0 : Option Addr) (c0 : Nat) (l0 : List (List Int)) (r : List Int) (w : World) (hr0 : Kd.C (Kd.slice 3 (Kd.int .i64)) w A0 l0.length l0) (hc0 : l0.length ≤ c0) (h : slices_Concat_int_int.f k l0 = some r) :
  Calls Try.prog 189 #[.slice A0 l0.length c0] w fun e w' => ∃ v0_ : Value, e = .returned (v0_) ∧ Kd.R (Kd.int .i64) 3 w' w.heap.size (fun _ => True) v0_ r ∧ Below w.heap.size w w' := by
 have HR0 := Aside0.mk hr0
 have HC0 := Aside0.mk hc0
 clear hr0 hc0
 have HB := Aside0.mk (Below.refl w.heap.size w)
 have H : (slices_Concat_int_int.l0 k l0 0 l0 (l0.length : Int) 0) = some r := h
 clear h
 have H' := Aside0.mk H
 clear H
 go_enter Try.func189, Try.ntmps189
 go_wp2
 go_loopg [3, 11] k (fun kq v3 v11 w' => ∃ (x3_1 : Int) (x11_1 : Int), v3 = .int .i64 x3_1 ∧ v11 = .int .i64 x11_1 ∧ Aside0 (slices_Concat_int_int.l0 kq l0 x3_1 l0 (l0.length : Int) x11_1 = some r) ∧ Aside0 (kq ≤ k) ∧ Aside0 (Below w.heap.size w w'))
 case atStart => exact ⟨(0), (0), rs_, rs_, H', ⟨Nat.le_refl _⟩, ⟨up_ HB.out⟩⟩
 case round =>
  clear H'
  try clear c1
  obtain ⟨x3_1, x11_1, rfl, rfl, HA, HK1, HB⟩ := hrel
  cases gk with
  | zero => exact absurd HA.out (by simp [slices_Concat_int_int.l0])
  | succ k1 =>
   have H := HA.out
   clear HA
   simp only [slices_Concat_int_int.l0] at H
   replace H := its_ H; rcases H with ⟨c2b0, H⟩ | ⟨c2b0, H⟩
   ·replace H := its_ H; rcases H with ⟨c3b0, H⟩ | ⟨_, ⟨⟩⟩
    replace H := its_ H; rcases H with ⟨c4b0, H⟩ | ⟨_, ⟨⟩⟩
    replace H := its_ H; rcases H with ⟨_, ⟨⟩⟩ | ⟨c5b0, H⟩
    have H' := Aside0.mk H
    clear H
    have p252 : 0 ≤ (x11_1 : Int) := od_
    have q252 : x11_1 < (l0.length : Int) := od_
    obtain ⟨ad252, A252_0, c252_0, e252, hx252_0, hl252_0, hi252_0⟩ := at_L1 HR0.out x11_1 p252 q252
    cases e252
    replace hx252_0 := bh_ HB hx252_0
    have HR252_0 := Aside0.mk hi252_0
    have HC252_0 := Aside0.mk hl252_0
    clear hi252_0 hl252_0
    replace p252 := eq_true p252
    replace q252 := eq_true q252
    go_wp2
    go_roundg k1
    case measure => have := HK1.out; omega
    case rel => exact ⟨(wrap64 (x3_1 + ((rd_L1 l0 x11_1).length : Int))), (wrap64 (x11_1 + 1)), rs_, rs_, H', ⟨by have := HK1.out; omega⟩, ⟨up_ HB.out⟩⟩
   ·replace H := bnd_ H; obtain ⟨t253, A6, H⟩ := H
    have H' := Aside0.mk H
    clear H
    go_wp2_with (first | ((refine gc_ 209 ?_); refine gl_ (some 24) Try.func209 (v_slices_GrowNil_int.calls x3_1 t253 _ A6.out) ?_; rintro e w7 ⟨v254, rfl, ho0, hb⟩; refine ⟨_, rfl, ?_⟩; have HO255 := Aside0.mk (Kd.R_lower ho0 (below_size (up_ HB.out))); replace HB := bs_ HB hb; (try clear hb); (try clear hb2); (try clear hk); (try clear hi); (try clear ho0)))
    go_loopg [6, 27] k1 (fun kq v6 v27 w' => ∃ (x6_2 : List Int) (x27_2 : Int), v27 = .int .i64 x27_2 ∧ Aside0 (slices_Concat_int_int.l1 kq x6_2 l0 (l0.length : Int) x27_2 = some r) ∧ Aside0 (kq ≤ k1) ∧ Aside0 (Kd.R (Kd.int .i64) 3 w' w.heap.size (fun _ => True) v6 x6_2) ∧ Aside0 (Below w.heap.size w w'))
    case atStart => exact ⟨(t253), (0), rs_, H', ⟨Nat.le_refl _⟩, ⟨up_ HO255.out⟩, ⟨up_ HB.out⟩⟩
    case round =>
     clear H'
     try clear c1
     try clear c2
     try clear c2b0
     try clear p2
     try clear q2
     try clear hx2
     try clear c3
     try clear c3b0
     try clear c4
     try clear c4b0
     try clear c5
     try clear c5b0
     try clear p6
     try clear c7
     try clear hx252_0
     try clear p252
     try clear q252
     obtain ⟨x6_2, x27_2, rfl, HA, HK2, HO_6, HB⟩ := hrel
     cases gk with
     | zero => exact absurd HA.out (by simp [slices_Concat_int_int.l1])
     | succ k2 =>
      have H := HA.out
      clear HA
      simp only [slices_Concat_int_int.l1] at H
      replace H := its_ H; rcases H with ⟨c8b0, H⟩ | ⟨c8b0, H⟩
      ·replace H := its_ H; rcases H with ⟨c9b0, H⟩ | ⟨_, ⟨⟩⟩
       replace H := its_ H; rcases H with ⟨c10b0, H⟩ | ⟨_, ⟨⟩⟩
       by_cases c11 : x6_2.length + (rd_L1 l0 x27_2).length < 17592186044416
       ·rw [if_pos c11] at H
        have LMc11 := Aside0.mk c11
        clear c11
        obtain ⟨y257, hy257⟩ : ∃ y_ : List Int, y_ = (x6_2 ++ (rd_L1 l0 x27_2)) := ⟨_, rfl⟩
        replace H : (slices_Concat_int_int.l1 k2 y257 l0 (l0.length : Int) (wrap64 (x27_2 + 1))) = some r := rh_ hy257 H
        have Ny257 := Aside0.mk hy257
        clear hy257
        have H' := Aside0.mk H
        clear H
        have p256 : 0 ≤ (x27_2 : Int) := od_
        have q256 : x27_2 < (l0.length : Int) := od_
        obtain ⟨ad256, A256_0, c256_0, e256, hx256_0, hl256_0, hi256_0⟩ := at_L1 HR0.out x27_2 p256 q256
        cases e256
        replace hx256_0 := bh_ HB hx256_0
        have HR256_0 := Aside0.mk hi256_0
        have HC256_0 := Aside0.mk hl256_0
        clear hi256_0 hl256_0
        replace p256 := eq_true p256
        replace q256 := eq_true q256
        go_wp2_with (first | ((with_reducible refine gate_builtin (b := .append) (xs := #[.tmp 31, .tmp 32]) rfl ?_); at_builtin; refine Kd.R_append_rows (Kd.int .i64) (w0 := w) w.heap.size rfl (.tmp 31) (.tmp 32) 25 3 (.int .i64 0) 8 rfl Try.underlying25 info3 rfl (by decide) (by omega) u6 x6_2 (rd_L1 l0 x27_2) _ _ _ (fun _ => True) (fun _ => False) rfl rfl ?aO ?aR (fun _ _ h => h) (fun _ h => h.elim) ?aF ?aB ?aS ?aL ?_; (case aR => exact Kd.C_below HR256_0.out (up_ HB.out)); (case aB => exact (up_ HB.out)); (case aF => exact (fun _ _ => trivial)); (case aO => exact (up_ HO_6.out)); (case aS => exact (below_size (up_ HB.out))); (case aL => have := LMc11.out; omega); intro v258 w12 ho hb hg hat; rw [← Ny257.out] at ho; have n0_ := Aside0.mk (hb); have n1_ := Aside0.mk (ho); clear HB; clear HO_6; have HB := n0_; have HO259 := n1_; clear n0_ n1_; clear ho hb hg hat))
        go_roundg k2
        case measure => have := HK1.out; have := HK2.out; omega
        case rel => exact ⟨(y257), (wrap64 (x27_2 + 1)), rs_, H', ⟨by have := HK1.out; have := HK2.out; omega⟩, ⟨up_ HO259.out⟩, ⟨up_ HB.out⟩⟩
       ·rw [if_neg c11] at H
        exact absurd H (by simp)
      ·obtain rfl := Option.some.inj H
       go_wp2
       go_ret
       exact ⟨_, re_, by (with_reducible repeat (first | apply Kd.R_alloc | apply Kd.R_drewN | apply Kd.R_drew)); exact HO_6.out, up_ HB.out⟩

end Go.Proofs.Ytkddpilambnicaa.PFnExactHearRow
