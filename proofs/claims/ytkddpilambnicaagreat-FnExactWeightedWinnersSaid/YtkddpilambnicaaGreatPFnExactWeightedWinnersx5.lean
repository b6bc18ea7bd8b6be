/- Walks of Go functions that the law FnExactWeightedWinners uses: written by this session's program out of the kit's printer; each shows that a call comes to the answers of the Lean function beside it. Conditions: each contract's own. -/
import Derived.Test.YtkddpilambnicaaGreatPFnExactWeightedWinnersx0
import Derived.Test.YtkddpilambnicaaGreatPFnExactWeightedWinnersx4
namespace Go.Proofs.YtkddpilambnicaaGreat.PFnExactWeightedWinners
open Go.RowKit Go.Proofs.YtkddpilambnicaaGreatW.PrintWords Go.Proofs.YtkddpilambnicaaGreatW.PrintLast Go.Proofs.YtkddpilambnicaaGreatW.PrintMore Go.Proofs.YtkddpilambnicaaGreat.Mac Go.Proofs.YtkddpilambnicaaGreat.Law
attribute [local go_sem] max2_int min2_int max_two min_two max_three min_three max_four min_four   -- for this text's walks alone
set_option linter.unusedVariables false
set_option linter.unusedSimpArgs false

/-! ### laws_markCandidateS: function 42 -/
def laws_markCandidateS.l0 : Nat → List (S50) → Int → Int → Option (Int × List (S50))
 | 0, _, _, _ => none
 | k + 1, x0, x1, x5 => if x5 < (x0.length : Int) then (if 0 ≤ x5 then ((laws_markLinkS.f k (x0.getD x5.toNat z50).f0 x1).bind fun bt => laws_markCandidateS.l0 k (x0.set x5.toNat ⟨bt.2⟩) bt.1 (wrap64 (x5 + 1))) else none) else some (x1, x0)
def laws_markCandidateS.f (k : Nat) (l0 : List (S50)) (a1 : Int) : Option (Int × List (S50)) := laws_markCandidateS.l0 k l0 a1 0
theorem laws_markCandidateS.mono_l : ∀ k, (∀ y0 y1 y2, LeO (laws_markCandidateS.l0 k y0 y1 y2) (laws_markCandidateS.l0 (k + 1) y0 y1 y2))
 | 0 => fun _ _ _ r h => by simp [laws_markCandidateS.l0] at h
 | k + 1 => by
  have ih0 := laws_markCandidateS.mono_l k
  intro y0 y1 y2
  unfold laws_markCandidateS.l0
  exact LeO.ite (LeO.ite (LeO.bind (laws_markLinkS.mono _ _ _) (fun _ => ih0 _ _ _)) (LeO.none _)) (LeO.refl _)
set_option maxHeartbeats 2000000 in
set_option maxRecDepth 100000 in
theorem laws_markCandidateS.calls (k : Nat) (P0_ : Nat → Prop) (u9000_ : Value) (l0 : List (S50)) (a1 : Int) (r1 : Int) (r2 : List (S50)) (w0 w : World) (hB : Below w0.heap.size w0 w) (ho0 : Kd.S k50 50 w w0.heap.size P0_ u9000_ l0) (h : laws_markCandidateS.f k l0 a1 = some (r1, r2)) :
  Calls Tryz.prog 42 #[u9000_, .int .i64 a1] w fun e w' => e = .returned (.int .i64 r1) ∧ Kd.S k50 50 w' w0.heap.size (fun k_ => (P0_ k_ ∨ w.heap.size ≤ k_)) u9000_ r2 ∧ Below w0.heap.size w0 w' ∧ Kept w w' (fun k_ => P0_ k_) := by
 have H' : laws_markCandidateS.l0 k l0 a1 0 = some (r1, r2) := h
 clear h
 obtain ⟨A, c, rfl⟩ := Kd.S_slice ho0
 generalize hln : l0.length = ln at *
 go_enter Tryz.func42, Tryz.ntmps42
 go_wp2
 go_loopg [1, 5] k (fun kq v1 v5 w' => ∃ (x0_1 : List (S50)) (x1_1 : Int) (x5_1 : Int), v1 = .int .i64 x1_1 ∧ v5 = .int .i64 x5_1 ∧ Aside0 (laws_markCandidateS.l0 kq x0_1 x1_1 x5_1 = some (r1, r2)) ∧ Aside0 (kq ≤ k) ∧ Aside0 (Kd.S k50 50 w' w0.heap.size P0_ (.slice A ln c) x0_1) ∧ Aside0 (Kept w w' (fun k_ => P0_ k_)) ∧ Aside0 (Below w0.heap.size w0 w'))
 case atStart => exact ⟨l0, a1, 0, rfl, rfl, ⟨H'⟩, ⟨Nat.le_refl _⟩, ⟨by (with_reducible repeat (first | apply Kd.S_alloc | apply Kd.S_drewN | apply Kd.S_drew)); exact ho0⟩, ⟨Kept.refl _ _⟩, ⟨hB⟩⟩
 case round =>
  clear H'
  obtain ⟨x0_1, x1_1, x5_1, rfl, rfl, HA, HK1, HS, HK, HB⟩ := hrel
  have hl := Aside0.mk ((Kd.S_reads' HS.out).1)
  cases gk with
  | zero => exact absurd HA.out (by simp [laws_markCandidateS.l0])
  | succ k1 =>
   have H := HA.out
   clear HA
   simp only [laws_markCandidateS.l0] at H
   by_cases c3 : x5_1 < (x0_1.length : Int)
   ·rw [if_pos c3] at H
    have c3b0 : decide (x5_1 < (ln : Int)) = true := decide_eq_true (by have := hl.out; omega)
    by_cases c4 : 0 ≤ x5_1
    ·rw [if_pos c4] at H
     obtain ⟨⟨y1, y2⟩, hm, H⟩ := Option.bind_eq_some_iff.mp H
     obtain ⟨g, cap, hAe, hbase, hg, cells, hcells⟩ := Kd.S_form HS.out (by omega)
     injection hAe with e1 e2 e3
     subst e1
     subst e3
     clear e2
     obtain ⟨oki, cs, hcl, hM, hcc, hoki, hH⟩ := Kd.S_lend HS.out z50 x5_1 c4 (by have := hl.out; omega)
     obtain ⟨y0, hy0⟩ : ∃ y : S50, x0_1.getD x5_1.toNat z50 = y := ⟨_, rfl⟩
     rw [hy0] at hM hm
     clear hy0
     obtain ⟨y0⟩ := y0
     obtain ⟨v, rfl, hR⟩ := hM
     have hcell : wr.cell? ⟨g, x5_1.toNat, none⟩ = some v := by
      have := hcc 0 v rfl
      rw [show k50.sz = 1 from rfl] at this
      simpa using this
     replace hR : Kd.R k70 70 wr w0.heap.size oki v y0 := hR
     obtain ⟨vA, vc, rfl⟩ := Kd.R_slice hR
     have p5 : (0 ≤ x5_1) = True := eq_true c4
     have q5 : (x5_1 < (ln : Int)) = True := eq_true (by have := hl.out; omega)
     have hcall := laws_markLinkS.calls k1 oki _ _ x1_1 y1 y2 w0 wr HB.out hR hm
     clear hcc
     go_wp2_with (go_at_call 67; (with_reducible refine hcall.mono ?_); rintro e w2 ⟨rfl, hR2, hB2, hK2⟩)
     have hR3 : Kd.R k70 70 w2 w0.heap.size oki _ y2 := Kd.R_reok rfl hR2 hR.1
     have hS2 := Kd.H_back (Kd.H_step hH (fun k_ _ hn hlt => hK2.2 k_ hlt hn)) (x' := (⟨y2⟩ : S50)) (okp := oki) ⟨_, rfl, hR3⟩ (fun _ hk => hk)
     go_roundg k1
     case measure => have := HK1.out; omega
     case rel => exact ⟨x0_1.set x5_1.toNat ⟨y2⟩, y1, wrap64 (x5_1 + 1), rfl, (by first | rfl | (simp; done)), ⟨H⟩, ⟨by have := HK1.out; omega⟩, ⟨hS2⟩, ⟨HK.out.then_ hK2 (fun k_ hk => .inl (hoki k_ hk).1)⟩, ⟨hB2⟩⟩
    ·rw [if_neg c4] at H
     exact absurd H (by simp)
   ·rw [if_neg c3] at H
    have c3b0 : decide (x5_1 < (ln : Int)) = false := decide_eq_false (by have := hl.out; omega)
    simp only [Option.some.injEq, Prod.mk.injEq] at H
    obtain ⟨rfl, rfl⟩ := H
    go_wp2
    go_ret
    exact ⟨rfl, Kd.S_mono HS.out (fun _ hk => .inl hk), HB.out, HK.out⟩

/-! ### laws_markIntS: function 24 -/
def laws_markIntS.l0 : Nat → List Int → Int → Int → Option (Int × List Int)
 | 0, _, _, _ => none
 | k + 1, x0, x1, x5 => if x5 < (x0.length : Int) then (if 0 ≤ x5 then (laws_markIntS.l0 k (x0.set (x5 : Int).toNat x1) (wrap64 (x1 + 1)) (wrap64 (x5 + 1))) else (none)) else (some (x1, x0))
def laws_markIntS.f (k : Nat) (l0 : List Int) (a1 : Int) : Option (Int × List Int) := laws_markIntS.l0 k l0 a1 0
set_option maxHeartbeats 8000000 in
set_option maxRecDepth 100000 in
theorem laws_markIntS.calls (k : Nat) (P0_ : Nat → Prop) (u9000_ : Value) (l0 : List Int) (a1 : Int) (r1 : Int) (r2 : List Int) (w0 w : World) (hB : Below w0.heap.size w0 w) (ho0 : Kd.R (Kd.int .i64) 3 w w0.heap.size P0_ u9000_ l0) (h : laws_markIntS.f k l0 a1 = some (r1, r2)) :
  Calls Tryz.prog 24 #[u9000_, .int .i64 a1] w fun e w' => e = .returned (.int .i64 r1) ∧ Kd.R (Kd.int .i64) 3 w' w0.heap.size (fun k_ => (P0_ k_ ∨ w.heap.size ≤ k_)) u9000_ r2 ∧ Below w0.heap.size w0 w' ∧ Kept w w' (fun k_ => P0_ k_) := by
 have HO0 := Aside0.mk (show Kd.R (Kd.int .i64) 3 w w0.heap.size (fun k_ => (P0_ k_ ∨ w.heap.size ≤ k_)) u9000_ l0 from Kd.R_mono ho0 (fun k_ hk => (.inl hk)))
 have HK := Aside0.mk (Kept.refl w (fun k_ => P0_ k_))
 have HW0 := Aside0.mk hB.size
 have HB := Aside0.mk hB
 clear hB
 have H : (laws_markIntS.l0 k l0 a1 0) = some (r1, r2) := h
 clear h
 have H' := Aside0.mk H
 clear H
 go_enter Tryz.func24, Tryz.ntmps24
 go_wp2
 go_loopg [1, 5] k (fun kq v1 v5 w' => ∃ (x0_1 : List Int) (x1_1 : Int) (x5_1 : Int), v1 = .int .i64 x1_1 ∧ v5 = .int .i64 x5_1 ∧ Aside0 (laws_markIntS.l0 kq x0_1 x1_1 x5_1 = some (r1, r2)) ∧ Aside0 (kq ≤ k) ∧ Aside0 (Kd.R (Kd.int .i64) 3 w' w0.heap.size (fun k_ => (P0_ k_ ∨ w.heap.size ≤ k_)) u9000_ x0_1) ∧ Aside0 (Kept w w' (fun k_ => P0_ k_)) ∧ Aside0 (Below w0.heap.size w0 w'))
 case atStart => exact ⟨(l0), (a1), (0), rs_, rs_, H', ⟨Nat.le_refl _⟩, ⟨up_ HO0.out⟩, ⟨by repeat (first | (with_reducible first | exact HK.out | apply Kept.alloc | apply Kept.drewN | apply Kept.drew) | exact HK.out)⟩, ⟨up_ HB.out⟩⟩
 case round =>
  clear H'
  try clear c2
  try clear p2
  obtain ⟨x0_1, x1_1, x5_1, rfl, rfl, HA, HK1, HO_0, HK, HB⟩ := hrel
  cases gk with
  | zero => exact absurd HA.out (by simp [laws_markIntS.l0])
  | succ k1 =>
   have H := HA.out
   clear HA
   simp only [laws_markIntS.l0] at H
   replace H := its_ H; rcases H with ⟨c3b0, H⟩ | ⟨c3b0, H⟩
   ·replace H := its_ H; rcases H with ⟨c4b0, H⟩ | ⟨_, ⟨⟩⟩
    obtain ⟨y196, hy196⟩ : ∃ y_ : List Int, y_ = (x0_1.set (x5_1 : Int).toNat x1_1) := ⟨_, rfl⟩
    replace H : (laws_markIntS.l0 k1 y196 (wrap64 (x1_1 + 1)) (wrap64 (x5_1 + 1))) = some (r1, r2) := rh_ hy196 H
    have Ny196 := Aside0.mk hy196
    clear hy196
    have H' := Aside0.mk H
    clear H
    obtain ⟨Ao6, co6, eo6⟩ := Kd.R_slice HO_0.out
    subst eo6
    have p5 : 0 ≤ (x5_1 : Int) := od_
    have q5 : (x5_1 : Int) < ((x0_1.length : Int) : Int) := od_
    obtain ⟨go5, co5, eo5, gb5, gl5, cl5, HG5⟩ := Kd.R_form HO_0.out (by omega)
    (first | cases eo5 | (injection eo5 with ea_ en_ ec_; (first | subst ea_ | (injection ea_ with ea_; subst ea_)); subst ec_; clear en_))
    have GB5 := Aside0.mk gb5
    have GG5 := Aside0.mk HG5
    clear gb5 gl5 HG5
    have HMgo5 := Aside0.mk (show (P0_ go5 ∨ w.heap.size ≤ go5) from (HO_0.out.1 _ rfl))
    obtain ⟨hx5_0, hf5_0⟩ := Kd.R_celln 0 HO_0.out (x5_1 : Int) p5 q5
    replace p5 := eq_true p5
    replace q5 := eq_true q5
    have HP7 := Kd.R_putg HO_0.out (x5_1 : Int) x1_1
    go_wp2_with (first | ((with_reducible refine gate_store (t := 3) (p := 15) rfl ?_); refine store_event (t := 3) (p := 15) (v := ?vo_w8) (w1 := (wr.setCell ⟨go5, (x5_1 : Int).toNat, none⟩ (.int .i64 x1_1))) ?hg ?ho ?hn ?hr ?_; (case ho => rfl); (case hg => rfl); (case hn => rfl); (case hr => first | (go_simp; done) | (go_simp; rfl)); intro w8 hw; have hg : wr.grownBy w8 (some go5) := (by rw [hw]; exact HP7.2); have hp_ : Kd.R (Kd.int .i64) 3 w8 w0.heap.size (fun k_ => (P0_ k_ ∨ w.heap.size ≤ k_)) (.slice (some ⟨go5, 0, none⟩) x0_1.length co6) y196 := (by rw [hw, Ny196.out]; exact HP7.1); clear HP7; replace HB := Aside0.mk ((by rw [hw]; exact below_set (HB.out) GB5.out : Below w0.heap.size w0 w8)); replace HK := Aside0.mk (Kept.of_grown (S := (fun k_ => P0_ k_)) hg (by repeat (first | (with_reducible first | exact HK.out | apply Kept.alloc | apply Kept.drewN | apply Kept.drew) | exact HK.out)) (fun k_ e_ => (HO_0.out.1 k_ e_))); replace HO_0 := Aside0.mk (hp_); clear hg hw hp_))
    go_roundg k1
    case measure => have := HK1.out; omega
    case rel => exact ⟨(y196), (wrap64 (x1_1 + 1)), (wrap64 (x5_1 + 1)), rs_, rs_, H', ⟨by have := HK1.out; omega⟩, ⟨up_ HO_0.out⟩, ⟨by repeat (first | (with_reducible first | exact HK.out | apply Kept.alloc | apply Kept.drewN | apply Kept.drew) | exact HK.out)⟩, ⟨up_ HB.out⟩⟩
   ·simp only [Option.some.injEq, Prod.mk.injEq] at H
    obtain ⟨rfl, rfl⟩ := H
    obtain ⟨Ao9, co9, eo9⟩ := Kd.R_slice HO_0.out
    subst eo9
    go_wp2
    go_ret
    exact ⟨re_, by (with_reducible repeat (first | apply Kd.R_alloc | apply Kd.R_drewN | apply Kd.R_drew)); exact HO_0.out, up_ HB.out, by repeat (first | (with_reducible first | exact HK.out | apply Kept.alloc | apply Kept.drewN | apply Kept.drew) | exact HK.out)⟩

/-! ### laws_markIntSS: function 20 -/
def laws_markIntSS.l0 : Nat → List (List Int) → Int → Int → Option (Int × List (List Int))
 | 0, _, _, _ => none
 | k + 1, x0, x1, x5 => if x5 < (x0.length : Int) then (if 0 ≤ x5 then ((laws_markIntS.f k (x0.getD x5.toNat []) x1).bind fun bt => laws_markIntSS.l0 k (x0.set x5.toNat bt.2) bt.1 (wrap64 (x5 + 1))) else none) else some (x1, x0)
def laws_markIntSS.f (k : Nat) (l0 : List (List Int)) (a1 : Int) : Option (Int × List (List Int)) := laws_markIntSS.l0 k l0 a1 0
set_option maxHeartbeats 2000000 in
set_option maxRecDepth 100000 in
theorem laws_markIntSS.calls (k : Nat) (P0_ : Nat → Prop) (u9000_ : Value) (l0 : List (List Int)) (a1 : Int) (r1 : Int) (r2 : List (List Int)) (w0 w : World) (hB : Below w0.heap.size w0 w) (ho0 : Kd.S (Kd.slice 3 (Kd.int .i64)) 23 w w0.heap.size P0_ u9000_ l0) (h : laws_markIntSS.f k l0 a1 = some (r1, r2)) :
  Calls Tryz.prog 20 #[u9000_, .int .i64 a1] w fun e w' => e = .returned (.int .i64 r1) ∧ Kd.S (Kd.slice 3 (Kd.int .i64)) 23 w' w0.heap.size (fun k_ => (P0_ k_ ∨ w.heap.size ≤ k_)) u9000_ r2 ∧ Below w0.heap.size w0 w' ∧ Kept w w' (fun k_ => P0_ k_) := by
 have H' : laws_markIntSS.l0 k l0 a1 0 = some (r1, r2) := h
 clear h
 obtain ⟨A, c, rfl⟩ := Kd.S_slice ho0
 generalize hln : l0.length = ln at *
 go_enter Tryz.func20, Tryz.ntmps20
 go_wp2
 go_loopg [1, 5] k (fun kq v1 v5 w' => ∃ (x0_1 : List (List Int)) (x1_1 : Int) (x5_1 : Int), v1 = .int .i64 x1_1 ∧ v5 = .int .i64 x5_1 ∧ Aside0 (laws_markIntSS.l0 kq x0_1 x1_1 x5_1 = some (r1, r2)) ∧ Aside0 (kq ≤ k) ∧ Aside0 (Kd.S (Kd.slice 3 (Kd.int .i64)) 23 w' w0.heap.size P0_ (.slice A ln c) x0_1) ∧ Aside0 (Kept w w' (fun k_ => P0_ k_)) ∧ Aside0 (Below w0.heap.size w0 w'))
 case atStart => exact ⟨l0, a1, 0, rfl, rfl, ⟨H'⟩, ⟨Nat.le_refl _⟩, ⟨by (with_reducible repeat (first | apply Kd.S_alloc | apply Kd.S_drewN | apply Kd.S_drew)); exact ho0⟩, ⟨Kept.refl _ _⟩, ⟨hB⟩⟩
 case round =>
  clear H'
  obtain ⟨x0_1, x1_1, x5_1, rfl, rfl, HA, HK1, HS, HK, HB⟩ := hrel
  have hl := Aside0.mk ((Kd.S_reads' HS.out).1)
  cases gk with
  | zero => exact absurd HA.out (by simp [laws_markIntSS.l0])
  | succ k1 =>
   have H := HA.out
   clear HA
   simp only [laws_markIntSS.l0] at H
   by_cases c3 : x5_1 < (x0_1.length : Int)
   ·rw [if_pos c3] at H
    have c3b0 : decide (x5_1 < (ln : Int)) = true := decide_eq_true (by have := hl.out; omega)
    by_cases c4 : 0 ≤ x5_1
    ·rw [if_pos c4] at H
     obtain ⟨⟨y1, y2⟩, hm, H⟩ := Option.bind_eq_some_iff.mp H
     obtain ⟨g, cap, hAe, hbase, hg, cells, hcells⟩ := Kd.S_form HS.out (by omega)
     injection hAe with e1 e2 e3
     subst e1
     subst e3
     clear e2
     obtain ⟨oki, cs, hcl, hM, hcc, hoki, hH⟩ := Kd.S_lend HS.out ([] : List Int) x5_1 c4 (by have := hl.out; omega)
     obtain ⟨y0, hy0⟩ : ∃ y : List Int, x0_1.getD x5_1.toNat [] = y := ⟨_, rfl⟩
     rw [hy0] at hM hm
     clear hy0
     obtain ⟨v, rfl, hR⟩ := hM
     have hcell : wr.cell? ⟨g, x5_1.toNat, none⟩ = some v := by
      have := hcc 0 v rfl
      rw [show (Kd.slice 3 (Kd.int .i64)).sz = 1 from rfl] at this
      simpa using this
     obtain ⟨vA, vc, rfl⟩ := Kd.R_slice hR
     have p5 : (0 ≤ x5_1) = True := eq_true c4
     have q5 : (x5_1 < (ln : Int)) = True := eq_true (by have := hl.out; omega)
     have hcall := laws_markIntS.calls k1 oki _ _ x1_1 y1 y2 w0 wr HB.out hR hm
     clear hcc
     go_wp2_with (go_at_call 24; (with_reducible refine hcall.mono ?_); rintro e w2 ⟨rfl, hR2, hB2, hK2⟩)
     have hR3 : Kd.R (Kd.int .i64) 3 w2 w0.heap.size oki _ y2 := Kd.R_reok rfl hR2 hR.1
     have hS2 := Kd.H_back (Kd.H_step hH (fun k_ _ hn hlt => hK2.2 k_ hlt hn)) (x' := y2) (okp := oki) ⟨_, rfl, hR3⟩ (fun _ hk => hk)
     go_roundg k1
     case measure => have := HK1.out; omega
     case rel => exact ⟨x0_1.set x5_1.toNat y2, y1, wrap64 (x5_1 + 1), rfl, (by first | rfl | (simp; done)), ⟨H⟩, ⟨by have := HK1.out; omega⟩, ⟨hS2⟩, ⟨HK.out.then_ hK2 (fun k_ hk => .inl (hoki k_ hk).1)⟩, ⟨hB2⟩⟩
    ·rw [if_neg c4] at H
     exact absurd H (by simp)
   ·rw [if_neg c3] at H
    have c3b0 : decide (x5_1 < (ln : Int)) = false := decide_eq_false (by have := hl.out; omega)
    simp only [Option.some.injEq, Prod.mk.injEq] at H
    obtain ⟨rfl, rfl⟩ := H
    go_wp2
    go_ret
    exact ⟨rfl, Kd.S_mono HS.out (fun _ hk => .inl hk), HB.out, HK.out⟩

/-! ### laws_markTableau: function 19 -/
def laws_markTableau.f (k : Nat) (a0_0 : ByteArray) (l0_1 : List ByteArray) (l0_2 : List (S50)) (l0_3 : List (List Int)) (a1 : Int) : Option (Int × List ByteArray × List (S50) × List (List Int)) :=
 (laws_markStringS.f k l0_1 a1).bind fun b1 => (laws_markCandidateS.f k l0_2 b1.1).bind fun b2 => (laws_markIntSS.f k l0_3 b2.1).bind fun b3 => some (b3.1, b1.2, b2.2, b3.2)
set_option maxHeartbeats 4000000 in
set_option maxRecDepth 100000 in
theorem laws_markTableau.calls (k : Nat) (a0_0 : ByteArray) (P0_1_ : Nat → Prop) (u9000_ : Value) (l0_1 : List ByteArray) (P0_2_ : Nat → Prop) (u9001_ : Value) (l0_2 : List (S50)) (P0_3_ : Nat → Prop) (u9002_ : Value) (l0_3 : List (List Int)) (a1 : Int) (r1 : Int) (r2 : List ByteArray) (r3 : List (S50)) (r4 : List (List Int)) (w0 w : World) (hB : Below w0.heap.size w0 w) (ho0_1 : Kd.R Kd.string 9 w w0.heap.size P0_1_ u9000_ l0_1) (ho0_2 : Kd.S k50 50 w w0.heap.size P0_2_ u9001_ l0_2) (ho0_3 : Kd.S (Kd.slice 3 (Kd.int .i64)) 23 w w0.heap.size P0_3_ u9002_ l0_3) (h12 : ∀ k_, P0_1_ k_ → P0_2_ k_ → False) (h13 : ∀ k_, P0_1_ k_ → P0_3_ k_ → False) (h23 : ∀ k_, P0_2_ k_ → P0_3_ k_ → False) (h : laws_markTableau.f k a0_0 l0_1 l0_2 l0_3 a1 = some (r1, r2, r3, r4)) :
  Calls Tryz.prog 19 #[.agg #[.string a0_0, u9000_, u9001_, u9002_], .int .i64 a1] w fun e w' => e = .returned (.int .i64 r1) ∧ Kd.R Kd.string 9 w' w0.heap.size (fun k_ => (P0_1_ k_ ∨ w.heap.size ≤ k_)) u9000_ r2 ∧ Kd.S k50 50 w' w0.heap.size (fun k_ => (P0_2_ k_ ∨ w.heap.size ≤ k_)) u9001_ r3 ∧ Kd.S (Kd.slice 3 (Kd.int .i64)) 23 w' w0.heap.size (fun k_ => (P0_3_ k_ ∨ w.heap.size ≤ k_)) u9002_ r4 ∧ Below w0.heap.size w0 w' ∧ Kept w w' (fun k_ => P0_1_ k_ ∨ P0_2_ k_ ∨ P0_3_ k_) := by
 obtain ⟨⟨n1, s1⟩, E1, h⟩ := Option.bind_eq_some_iff.mp h
 obtain ⟨⟨n2, s2⟩, E2, h⟩ := Option.bind_eq_some_iff.mp h
 obtain ⟨⟨n3, s3⟩, E3, h⟩ := Option.bind_eq_some_iff.mp h
 simp only [Option.some.injEq, Prod.mk.injEq] at h
 obtain ⟨rfl, rfl, rfl, rfl⟩ := h
 have A1 := Aside0.mk E1
 have A2 := Aside0.mk (show laws_markCandidateS.f k l0_2 n1 = some (n2, s2) from E2)
 have A3 := Aside0.mk (show laws_markIntSS.f k l0_3 n2 = some (n3, s3) from E3)
 clear E1 E2 E3
 obtain ⟨Aa, ca, rfl⟩ := Kd.R_slice ho0_1
 obtain ⟨Ab, cb, rfl⟩ := Kd.S_slice ho0_2
 obtain ⟨Ac, cc, rfl⟩ := Kd.S_slice ho0_3
 have HB := Aside0.mk hB
 have HO1 := Aside0.mk (Kd.R_bound ho0_1)
 have HO2 := Aside0.mk (Kd.S_bound ho0_2)
 have HO3 := Aside0.mk (Kd.S_bound ho0_3)
 clear hB ho0_1 ho0_2 ho0_3
 go_enter Tryz.func19, Tryz.ntmps19
 go_wp2_with (first | ((refine gd_ 2 ?_); refine bx_ 2 #[.string a0_0, .slice Aa l0_1.length ca, .slice Ab l0_2.length cb, .slice Ac l0_3.length cc] 38 ?_; intro g hg w1 hbox hb; have HG := Aside0.mk (show w.heap.size ≤ g from by rw [hg]; exact Nat.le_refl _); have HS := Aside0.mk hb; have HB1 := Aside0.mk (below_step HB.out hb); have HP1 := Aside0.mk (Kd.R_below HO1.out hb); have HP2 := Aside0.mk (Kd.S_below HO2.out hb); have HP3 := Aside0.mk (Kd.S_below HO3.out hb); have BK := Aside0.mk hbox; have hc1 : w1.cell? ⟨g, 1, none⟩ = some (.slice Aa l0_1.length ca) := (blk_cell hbox 1).trans rfl; clear HO1 HO2 HO3 HB hbox hb hg) | ((refine gc_ 41 ?_); refine goesL_ (some 8) rfl rfl Tryz.func41 (by kernel_rfl) rfl #[.slice Aa l0_1.length ca, .int .i64 a1] rfl (by (try simp only [List.map_toArray, List.map_cons, List.map_nil]); first | done | rfl) ?_; (with_reducible refine (laws_markStringS.calls k _ _ l0_1 a1 n1 s1 w0 _ HB1.out HP1.out A1.out).mono ?_); rintro e w2 ⟨rfl, hS, hB2, hK⟩; refine ⟨_, rfl, ?_⟩; have HQ1 := Aside0.mk hS; have HR2 := Aside0.mk (Kd.S_kept HP2.out hK (fun k_ h2_ h1_ => h12 k_ h1_.1 h2_.1)); have HR3 := Aside0.mk (Kd.S_kept HP3.out hK (fun k_ h2_ h1_ => h13 k_ h1_.1 h2_.1)); have BK2 := Aside0.mk (blk_kept BK.out hK (fun hP_ => by have := hP_.2.2.1; have := HG.out; omega)); have HK1 := Aside0.mk ((Kept.of_below HS.out (fun k_ => P0_1_ k_ ∨ P0_2_ k_ ∨ P0_3_ k_)).then_ hK (fun k_ hk => .inl (.inl hk.1))); have HB2 := Aside0.mk hB2; have HZ1 := Aside0.mk (below_size HS.out); have HZ2 := Aside0.mk hK.1; have hc2 : w2.cell? ⟨g, 2, none⟩ = some (.slice Ab l0_2.length cb) := (blk_cell BK2.out 2).trans rfl; clear hS hB2 hK HB1 HP1 HP2 HP3 BK HS hc1) | ((refine gc_ 42 ?_); refine goesL_ (some 12) rfl rfl Tryz.func42 (by kernel_rfl) rfl #[.slice Ab l0_2.length cb, .int .i64 n1] rfl (by (try simp only [List.map_toArray, List.map_cons, List.map_nil]); first | done | rfl) ?_; (with_reducible refine (laws_markCandidateS.calls k _ _ l0_2 n1 n2 s2 w0 _ HB2.out HR2.out A2.out).mono ?_); rintro e w3 ⟨rfl, hS, hB2, hK⟩; refine ⟨_, rfl, ?_⟩; have HQ2 := Aside0.mk hS; have HT1 := Aside0.mk (Kd.R_kept HQ1.out hK (fun k_ h1_ h2_ => h1_.elim (fun h1_ => h12 k_ h1_.1 h2_.1) (fun h1_ => by have := h2_.2.2.1; have := HZ1.out; omega))); have HT3 := Aside0.mk (Kd.S_kept HR3.out hK (fun k_ h3_ h2_ => h23 k_ h2_.1 h3_.1)); have BK3 := Aside0.mk (blk_kept BK2.out hK (fun hP_ => by have := hP_.2.2.1; have := HG.out; omega)); have HK2 := Aside0.mk (HK1.out.then_ hK (fun k_ hk => .inl (.inr (.inl hk.1)))); have HB3 := Aside0.mk hB2; have HZ3 := Aside0.mk hK.1; have hc3 : w3.cell? ⟨g, 3, none⟩ = some (.slice Ac l0_3.length cc) := (blk_cell BK3.out 3).trans rfl; clear hS hB2 hK HB2 HQ1 HR2 HR3 BK2 HK1 hc2) | ((refine gc_ 20 ?_); refine goesL_ (some 16) rfl rfl Tryz.func20 (by kernel_rfl) rfl #[.slice Ac l0_3.length cc, .int .i64 n2] rfl (by (try simp only [List.map_toArray, List.map_cons, List.map_nil]); first | done | rfl) ?_; (with_reducible refine (laws_markIntSS.calls k _ _ l0_3 n2 n3 s3 w0 _ HB3.out HT3.out A3.out).mono ?_); rintro e w4 ⟨rfl, hS, hB2, hK⟩; refine ⟨_, rfl, ?_⟩; have HU3 := Aside0.mk hS; have HU1 := Aside0.mk (Kd.R_kept HT1.out hK (fun k_ h1_ h3_ => h1_.elim (fun h1_ => h13 k_ h1_.1 h3_.1) (fun h1_ => by have := h3_.2.2.1; have := HZ1.out; omega))); have HU2 := Aside0.mk (Kd.S_kept HQ2.out hK (fun k_ h2_ h3_ => h2_.elim (fun h2_ => h23 k_ h2_.1 h3_.1) (fun h2_ => by have := h3_.2.2.1; have := HZ1.out; have := HZ2.out; omega))); have HK3 := Aside0.mk (HK2.out.then_ hK (fun k_ hk => .inl (.inr (.inr hk.1)))); have HB4 := Aside0.mk hB2; clear hS hB2 hK HB3 HT1 HT3 BK3 HQ2 HK2 hc3))
 go_ret
 exact ⟨rfl, Kd.R_mono HU1.out (fun k_ hk => hk.imp (fun h => h.1) (fun h => Nat.le_trans HZ1.out h)), Kd.S_mono HU2.out (fun k_ hk => hk.imp (fun h => h.1) (fun h => Nat.le_trans (Nat.le_trans HZ1.out HZ2.out) h)), Kd.S_mono HU3.out (fun k_ hk => hk.imp (fun h => h.1) (fun h => Nat.le_trans (Nat.le_trans (Nat.le_trans HZ1.out HZ2.out) HZ3.out) h)), HB4.out, HK3.out⟩

/-! ### spec_l1In: function 58 -/
def spec_l1In.f (a0 : Int) (a1 : Int) (a2 : Int) : Option (Bool) := if a0 ≥ a1 then (some (decide (a0 ≤ a2))) else (some false)
set_option maxHeartbeats 8000000 in
set_option maxRecDepth 100000 in
theorem spec_l1In.calls (a0 : Int) (a1 : Int) (a2 : Int) (r : Bool) (w : World) (h : spec_l1In.f a0 a1 a2 = some r) :
  Calls Tryz.prog 58 #[.int .i64 a0, .int .i64 a1, .int .i64 a2] w fun e w' => e = .returned (.bool r) ∧ Drawn0 w w' := by
 have H : (if a0 ≥ a1 then (some (decide (a0 ≤ a2))) else (some false)) = some r := h
 clear h
 by_cases c4 : a0 ≥ a1
 ·rw [if_pos c4] at H
  have c4b0 : decide (a1 ≤ a0) = true := decide_eq_true c4
  clear c4
  obtain rfl := Option.some.inj H
  go_enter Tryz.func58, Tryz.ntmps58
  go_wp2
  go_ret
  exact ⟨rs_, dn_⟩
 ·rw [if_neg c4] at H
  have c4b0 : decide (a1 ≤ a0) = false := decide_eq_false c4
  clear c4
  obtain rfl := Option.some.inj H
  go_enter Tryz.func58, Tryz.ntmps58
  go_wp2
  go_ret
  exact ⟨rs_, dn_⟩

/-! ### spec_l3Has: function 74 -/
def spec_l3Has.l0 : Nat → List ByteArray → ByteArray → Int → Option (Bool)
 | 0, _, _, _ => none
 | k + 1, x0, x1, x5 => if x5 < (x0.length : Int) then (if 0 ≤ x5 then (if (rdOf ByteArray.empty x0 x5).toList = x1.toList then (some true) else (spec_l3Has.l0 k x0 x1 (wrap64 (x5 + 1)))) else (none)) else (some false)
def spec_l3Has.f (k : Nat) (l0 : List ByteArray) (a1 : ByteArray) : Option (Bool) := spec_l3Has.l0 k l0 a1 0
theorem spec_l3Has.mono_l : ∀ k, (∀ y0 y1 y2, LeO (spec_l3Has.l0 k y0 y1 y2) (spec_l3Has.l0 (k + 1) y0 y1 y2))
 | 0 => fun _ _ _ r h => by simp [spec_l3Has.l0] at h
 | k + 1 => by
  have ih0 := spec_l3Has.mono_l k
  ·intro y0 y1 y2
   unfold spec_l3Has.l0
   exact mn_
theorem spec_l3Has.mono : ∀ a0 a1 k, LeO (spec_l3Has.f k a0 a1) (spec_l3Has.f (k + 1) a0 a1) := by
 intro a0 a1 k
 have ih0 := spec_l3Has.mono_l k
 unfold spec_l3Has.f
 exact mn_
set_option maxHeartbeats 8000000 in
set_option maxRecDepth 100000 in
theorem spec_l3Has.calls (k : Nat) (A0 : Option Addr) (c0 : Nat) (l0 : List ByteArray) (a1 : ByteArray) (r : Bool) (w : World) (hr0 : Kd.C Kd.string w A0 l0.length l0) (hc0 : l0.length ≤ c0) (h : spec_l3Has.f k l0 a1 = some r) :
  Calls Tryz.prog 74 #[.slice A0 l0.length c0, .string a1] w fun e w' => e = .returned (.bool r) ∧ Drawn0 w w' := by
 have HR0 := Aside0.mk hr0
 have HC0 := Aside0.mk hc0
 clear hr0 hc0
 have H : (spec_l3Has.l0 k l0 a1 0) = some r := h
 clear h
 have H' := Aside0.mk H
 clear H
 go_enter Tryz.func74, Tryz.ntmps74
 go_wp2
 go_loopg [5] k (fun kq v5 w' => ∃ (x5_1 : Int), v5 = .int .i64 x5_1 ∧ Aside0 (spec_l3Has.l0 kq l0 a1 x5_1 = some r) ∧ Aside0 (kq ≤ k) ∧ Drawn0 w w')
 case atStart => exact ⟨(0), rs_, H', ⟨Nat.le_refl _⟩, dn_⟩
 case round =>
  clear H'
  try clear p2
  obtain ⟨x5_1, rfl, HA, HK1, ⟨m1, rfl⟩⟩ := hrel
  cases gk with
  | zero => exact absurd HA.out (by simp [spec_l3Has.l0])
  | succ k1 =>
   have H := HA.out
   clear HA
   simp only [spec_l3Has.l0] at H
   replace H := its_ H; rcases H with ⟨c3b0, H⟩ | ⟨c3b0, H⟩
   ·replace H := its_ H; rcases H with ⟨c4b0, H⟩ | ⟨_, ⟨⟩⟩
    replace H := ieq_ H; rcases H with ⟨-, c5b0, c5b1, H⟩ | ⟨c5, c5b0, c5b1, H⟩
    ·obtain rfl := Option.some.inj H
     have p197 : 0 ≤ (x5_1 : Int) := od_
     have q197 : x5_1 < (l0.length : Int) := od_
     obtain ⟨ad197, e197, hx197_0⟩ := Kd.at_string HR0.out x5_1 p197 q197
     cases e197
     replace p197 := eq_true p197
     replace q197 := eq_true q197
     go_wp2
     go_ret
     exact ⟨rs_, dn_⟩
    ·have H' := Aside0.mk H
     clear H
     have p197 : 0 ≤ (x5_1 : Int) := od_
     have q197 : x5_1 < (l0.length : Int) := od_
     obtain ⟨ad197, e197, hx197_0⟩ := Kd.at_string HR0.out x5_1 p197 q197
     cases e197
     replace p197 := eq_true p197
     replace q197 := eq_true q197
     go_wp2
     go_roundg k1
     case measure => have := HK1.out; omega
     case rel => exact ⟨(wrap64 (x5_1 + 1)), rs_, H', ⟨by have := HK1.out; omega⟩, dn_⟩
   ·obtain rfl := Option.some.inj H
    go_wp2
    go_ret
    exact ⟨rs_, dn_⟩

/-! ### spec_ConstraintNames: function 75 -/
def spec_ConstraintNames.f  : Option (List ByteArray) := some (([(⟨#[111, 110, 115, 101, 116]⟩ : ByteArray), (⟨#[110, 111, 99, 111, 100, 97]⟩ : ByteArray), (⟨#[99, 108, 117, 115, 116, 101, 114]⟩ : ByteArray), (⟨#[118, 111, 105, 99, 101]⟩ : ByteArray), (⟨#[102, 105, 110, 97, 108]⟩ : ByteArray), (⟨#[110, 97, 115, 97, 108]⟩ : ByteArray), (⟨#[109, 97, 120]⟩ : ByteArray), (⟨#[100, 101, 112]⟩ : ByteArray), (⟨#[105, 100, 101, 110, 116]⟩ : ByteArray), (⟨#[99, 111, 110, 116, 105, 103]⟩ : ByteArray)] : List ByteArray))
set_option maxHeartbeats 8000000 in
set_option maxRecDepth 100000 in
theorem spec_ConstraintNames.calls  (r : List ByteArray) (w : World) (h : spec_ConstraintNames.f  = some r) :
  Calls Tryz.prog 75 #[] w fun e w' => ∃ v0_ : Value, e = .returned (v0_) ∧ Kd.R Kd.string 9 w' w.heap.size (fun _ => True) v0_ r ∧ Below w.heap.size w w' := by
 have HB := Aside0.mk (Below.refl w.heap.size w)
 have H : (some (([(⟨#[111, 110, 115, 101, 116]⟩ : ByteArray), (⟨#[110, 111, 99, 111, 100, 97]⟩ : ByteArray), (⟨#[99, 108, 117, 115, 116, 101, 114]⟩ : ByteArray), (⟨#[118, 111, 105, 99, 101]⟩ : ByteArray), (⟨#[102, 105, 110, 97, 108]⟩ : ByteArray), (⟨#[110, 97, 115, 97, 108]⟩ : ByteArray), (⟨#[109, 97, 120]⟩ : ByteArray), (⟨#[100, 101, 112]⟩ : ByteArray), (⟨#[105, 100, 101, 110, 116]⟩ : ByteArray), (⟨#[99, 111, 110, 116, 105, 103]⟩ : ByteArray)] : List ByteArray))) = some r := h
 clear h
 obtain ⟨y198, hy198⟩ : ∃ y_ : List ByteArray, y_ = (([(⟨#[111, 110, 115, 101, 116]⟩ : ByteArray), (⟨#[110, 111, 99, 111, 100, 97]⟩ : ByteArray), (⟨#[99, 108, 117, 115, 116, 101, 114]⟩ : ByteArray), (⟨#[118, 111, 105, 99, 101]⟩ : ByteArray), (⟨#[102, 105, 110, 97, 108]⟩ : ByteArray), (⟨#[110, 97, 115, 97, 108]⟩ : ByteArray), (⟨#[109, 97, 120]⟩ : ByteArray), (⟨#[100, 101, 112]⟩ : ByteArray), (⟨#[105, 100, 101, 110, 116]⟩ : ByteArray), (⟨#[99, 111, 110, 116, 105, 103]⟩ : ByteArray)] : List ByteArray)) := ⟨_, rfl⟩
 replace H : (some y198) = some r := rh_ hy198 H
 have Ny198 := Aside0.mk hy198
 clear hy198
 obtain rfl := Option.some.inj H
 go_enter Tryz.func75, Tryz.ntmps75
 go_wp2_with (first | ((refine gd_ 1 ?_); refine Kd.R_lit Kd.string _ 9 ?hg (N := 1) ?hd (xs := ([(⟨#[111, 110, 115, 101, 116]⟩ : ByteArray), (⟨#[110, 111, 99, 111, 100, 97]⟩ : ByteArray), (⟨#[99, 108, 117, 115, 116, 101, 114]⟩ : ByteArray), (⟨#[118, 111, 105, 99, 101]⟩ : ByteArray), (⟨#[102, 105, 110, 97, 108]⟩ : ByteArray), (⟨#[110, 97, 115, 97, 108]⟩ : ByteArray), (⟨#[109, 97, 120]⟩ : ByteArray), (⟨#[100, 101, 112]⟩ : ByteArray), (⟨#[105, 100, 101, 110, 116]⟩ : ByteArray), (⟨#[99, 111, 110, 116, 105, 103]⟩ : ByteArray)] : List ByteArray)) (inner := [.string (⟨#[111, 110, 115, 101, 116]⟩ : ByteArray), .string (⟨#[110, 111, 99, 111, 100, 97]⟩ : ByteArray), .string (⟨#[99, 108, 117, 115, 116, 101, 114]⟩ : ByteArray), .string (⟨#[118, 111, 105, 99, 101]⟩ : ByteArray), .string (⟨#[102, 105, 110, 97, 108]⟩ : ByteArray), .string (⟨#[110, 97, 115, 97, 108]⟩ : ByteArray), .string (⟨#[109, 97, 120]⟩ : ByteArray), .string (⟨#[100, 101, 112]⟩ : ByteArray), .string (⟨#[105, 100, 101, 110, 116]⟩ : ByteArray), .string (⟨#[99, 111, 110, 116, 105, 103]⟩ : ByteArray)]) (ok := fun _ => True) (okp := fun _ => True) ?hr ?hp (fun _ hk => hk) trivial (Below.refl _ _) (Nat.le_refl _) (by simp) ?_; (case hd => rfl); (case hg => rfl); (case hr => first | (go_simp; done) | (go_simp; rfl)); (case hp => exact (Reps.one (show Kd.M Kd.string _ _ _ (⟨#[111, 110, 115, 101, 116]⟩ : ByteArray) [.string (⟨#[111, 110, 115, 101, 116]⟩ : ByteArray)] from rfl) (Reps.one (show Kd.M Kd.string _ _ _ (⟨#[110, 111, 99, 111, 100, 97]⟩ : ByteArray) [.string (⟨#[110, 111, 99, 111, 100, 97]⟩ : ByteArray)] from rfl) (Reps.one (show Kd.M Kd.string _ _ _ (⟨#[99, 108, 117, 115, 116, 101, 114]⟩ : ByteArray) [.string (⟨#[99, 108, 117, 115, 116, 101, 114]⟩ : ByteArray)] from rfl) (Reps.one (show Kd.M Kd.string _ _ _ (⟨#[118, 111, 105, 99, 101]⟩ : ByteArray) [.string (⟨#[118, 111, 105, 99, 101]⟩ : ByteArray)] from rfl) (Reps.one (show Kd.M Kd.string _ _ _ (⟨#[102, 105, 110, 97, 108]⟩ : ByteArray) [.string (⟨#[102, 105, 110, 97, 108]⟩ : ByteArray)] from rfl) (Reps.one (show Kd.M Kd.string _ _ _ (⟨#[110, 97, 115, 97, 108]⟩ : ByteArray) [.string (⟨#[110, 97, 115, 97, 108]⟩ : ByteArray)] from rfl) (Reps.one (show Kd.M Kd.string _ _ _ (⟨#[109, 97, 120]⟩ : ByteArray) [.string (⟨#[109, 97, 120]⟩ : ByteArray)] from rfl) (Reps.one (show Kd.M Kd.string _ _ _ (⟨#[100, 101, 112]⟩ : ByteArray) [.string (⟨#[100, 101, 112]⟩ : ByteArray)] from rfl) (Reps.one (show Kd.M Kd.string _ _ _ (⟨#[105, 100, 101, 110, 116]⟩ : ByteArray) [.string (⟨#[105, 100, 101, 110, 116]⟩ : ByteArray)] from rfl) (Reps.one (show Kd.M Kd.string _ _ _ (⟨#[99, 111, 110, 116, 105, 103]⟩ : ByteArray) [.string (⟨#[99, 111, 110, 116, 105, 103]⟩ : ByteArray)] from rfl) (Reps.none _ _)))))))))))); intro v199 w1 ho2 hb hg_ hnew_; clear hg_ hnew_; (first | rw [← Ny198.out] at ho2 | (simp only [Int.reduceToNat] at ho2; rw [← Ny198.out] at ho2)); have HO200 := Aside0.mk (Kd.R_lower ho2 (below_size (up_ HB.out))); replace HB := bs_ HB hb; clear hb ho2))
 go_ret
 exact ⟨_, re_, by (with_reducible repeat (first | apply Kd.R_alloc | apply Kd.R_drewN | apply Kd.R_drew)); exact HO200.out, up_ HB.out⟩

end Go.Proofs.YtkddpilambnicaaGreat.PFnExactWeightedWinners
