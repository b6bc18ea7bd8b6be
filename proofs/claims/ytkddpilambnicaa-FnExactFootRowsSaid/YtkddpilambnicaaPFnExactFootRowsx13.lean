/- Walks of Go functions that the law FnExactFootRows uses: written by this session's program out of the kit's printer; each shows that a call comes to the answers of the Lean function beside it. Conditions: each contract's own. -/
import Derived.Test.YtkddpilambnicaaPFnExactFootRowsx0
import Derived.Test.YtkddpilambnicaaPFnExactFootRowsx9
import Derived.Test.YtkddpilambnicaaPFnExactFootRowsx12
namespace Go.Proofs.Ytkddpilambnicaa.PFnExactFootRows
open Go.RowKit Go.Proofs.YtkddpilambnicaaW.PrintWords Go.Proofs.YtkddpilambnicaaW.PrintLast Go.Proofs.YtkddpilambnicaaW.PrintMore Go.Proofs.Ytkddpilambnicaa.Mac Go.Proofs.Ytkddpilambnicaa.Law
attribute [local go_sem] max2_int min2_int max_two min_two max_three min_three max_four min_four   -- for this text's walks alone
set_option linter.unusedVariables false
set_option linter.unusedSimpArgs false

/-! ### impl_footProfile: function 132 -/
def impl_footProfile.f (k : Nat) (a0_0 : Int) (l0_1 : List (S166)) (a0_2 : Int) : Option (List Int) := (impl_FootMarks.f k a0_0 l0_1 a0_2).bind fun t389 => (if 5 ≤ (t389.length : Int) then (some (t389.take (5 : Int).toNat)) else (none))
set_option maxHeartbeats 8000000 in
set_option maxRecDepth 100000 in
theorem impl_footProfile.calls (k : Nat) (a0_0 : Int) (A0_1 : Option Addr) (c0_1 : Nat) (l0_1 : List (S166)) (a0_2 : Int) (r : List Int) (w : World) (hr0_1 : Kd.C k166 w A0_1 l0_1.length l0_1) (hc0_1 : l0_1.length ≤ c0_1) (h : impl_footProfile.f k a0_0 l0_1 a0_2 = some r) :
  Calls Try.prog 132 #[.agg #[.int .i64 a0_0, .slice A0_1 l0_1.length c0_1, .int .i64 a0_2]] w fun e w' => ∃ v0_ : Value, e = .returned (v0_) ∧ Kd.R (Kd.int .i64) 3 w' w.heap.size (fun _ => True) v0_ r ∧ Below w.heap.size w w' := by
 have hu90 := Try.underlying90
 have HR0_1 := Aside0.mk hr0_1
 have HC0_1 := Aside0.mk hc0_1
 clear hr0_1 hc0_1
 have HB := Aside0.mk (Below.refl w.heap.size w)
 have H : ((impl_FootMarks.f k a0_0 l0_1 a0_2).bind fun t389 => (if 5 ≤ (t389.length : Int) then (some (t389.take (5 : Int).toNat)) else (none))) = some r := h
 clear h
 replace H := bnd_ H; obtain ⟨t389, A2, H⟩ := H
 by_cases c3 : 5 ≤ (t389.length : Int)
 ·rw [if_pos c3] at H
  have c3b0 := eq_true c3
  have c3b1 : decide (5 ≤ (t389.length : Int)) = true := decide_eq_true c3
  clear c3
  obtain ⟨y392, hy392⟩ : ∃ y_ : List Int, y_ = (t389.take (5 : Int).toNat) := ⟨_, rfl⟩
  replace H : (some y392) = some r := rh_ hy392 H
  have Ny392 := Aside0.mk hy392
  clear hy392
  obtain rfl := Option.some.inj H
  go_enter Try.func132, Try.ntmps132
  go_wp2_with (first | ((with_reducible refine gd_ 1 ?_); refine bx_ 1 #[.int .i64 a0_0, .slice A0_1 l0_1.length c0_1, .int .i64 a0_2] 90 ?_; intro gb388 hg w4 hbox hb; have BK388 := Aside0.mk (hbox); have GW388 := gw_ HB hg; have GE388 := gw_ HB hg; replace HB := bs_ HB hb; clear hb hbox hg; obtain ⟨hcz5_0, hcz5_1, hcz5_2⟩ := c3_ BK388; have hfz5_0 := blk_frozen BK388.out 0; have hfz5_1 := blk_frozen BK388.out 1; have hfz5_2 := blk_frozen BK388.out 2) | ((with_reducible refine gc_ 178 ?_); refine gl_ (some 4) Try.func178 (impl_FootMarks.calls k a0_0 _ _ l0_1 a0_2 t389 _ (Kd.C_below HR0_1.out (up_ HB.out)) HC0_1.out A2.out) ?_; rintro e w6 ⟨v390, rfl, ho0, hb⟩; refine ⟨_, rfl, ?_⟩; have HO391 := Aside0.mk (Kd.R_lower ho0 (below_size (up_ HB.out))); replace BK388 := bb_ BK388 hb; replace HB := bs_ HB hb; (try clear hb); (try clear hb2); (try clear hk); (try clear hi); (try clear ho0); obtain ⟨Ao7, co7, eo7⟩ := Kd.R_slice HO391.out; subst eo7; have q8 : (5 : Int) ≤ ((t389.length : Int) : Int) := od_; obtain ⟨i08, hi08, _, hsz8, _⟩ := info_parts info3; have hcut8 := cut_to (P := Try.prog) 25 3 .i64 Try.underlying25 hi08 Ao7 t389.length co7 5 (by omega) q8 (Kd.R_reads' HO391.out).2.1; have hr8 := Kd.R_take (m := (5 : Int).toNat) HO391.out (by omega); have hy8 : y392.length = (5 : Int).toNat := (by rw [Ny392.out, List.length_take]; omega); rw [← Ny392.out] at hr8; rw [← hy8] at hr8 hcut8; clear hy8 hi08 hsz8 HO391; have HO394 := Aside0.mk hr8; clear hr8; replace q8 := eq_true q8))
  go_ret
  exact ⟨_, re_, by (with_reducible repeat (first | apply Kd.R_alloc | apply Kd.R_drewN | apply Kd.R_drew)); exact HO394.out, up_ HB.out⟩
 ·rw [if_neg c3] at H
  exact absurd H (by simp)

/-! ### impl_Foot: function 181 -/
def impl_Foot.f (l0 : List (S166)) : Option ((List (S166))) := (some (([] : List (S166)) : List (S166))).bind fun y395 => (if y395.length + l0.length < 5864062014805 then (some (y395 ++ l0)) else (none))
set_option maxHeartbeats 8000000 in
set_option maxRecDepth 100000 in
theorem impl_Foot.calls (A0 : Option Addr) (c0 : Nat) (l0 : List (S166)) (r : List (S166)) (w : World) (hr0 : Kd.C k166 w A0 l0.length l0) (hc0 : l0.length ≤ c0) (h : impl_Foot.f l0 = some r) :
  Calls Try.prog 181 #[.slice A0 l0.length c0] w fun e w' => ∃ v0_ : Value, e = .returned (v0_) ∧ Kd.R k166 166 w' w.heap.size (fun _ => True) v0_ r ∧ Below w.heap.size w w' := by
 cases A0 with
 | none =>
  have hl0 : l0 = [] := by
   have hl1 : ¬ 0 < l0.length := fun hp => by obtain ⟨ad_, ha_, _⟩ := hr0.2.2 hp; cases ha_
   exact List.eq_nil_of_length_eq_zero (by omega)
  subst hl0
  have hr_ : r = [] := by
   unfold impl_Foot.f at h
   simp at h
   first | exact h | exact h.symm
  subst hr_
  have qN_ : ∀ (w : World) (a : Option Addr) (n c n' c' : Nat), (binOp .eql 88 (.slice a n c) (.slice none n' c')).run Try.prog w = .ok (.bool a.isNone) w := fun w a n c n' c' => Lib.run_eql_slice_nil w _ _ a n c n' c' Try.underlying88
  go_enter Try.func181, Try.ntmps181
  go_wp2
  go_ret
  exact ⟨_, rfl, Kd.R_nil _ _ _ _ _, Below.refl _ _⟩
 | some ad0_ =>
  have HR0 := Aside0.mk hr0
  have HC0 := Aside0.mk hc0
  clear hr0 hc0
  have HB := Aside0.mk (Below.refl w.heap.size w)
  have H : ((some (([] : List (S166)) : List (S166))).bind fun y395 => (if y395.length + l0.length < 5864062014805 then (some (y395 ++ l0)) else (none))) = some r := h
  clear h
  obtain ⟨y395, hy395⟩ : ∃ y_ : List (S166), y_ = (([] : List (S166))) := ⟨_, rfl⟩
  replace H : (if y395.length + l0.length < 5864062014805 then (some (y395 ++ l0)) else (none)) = some r := rh_ hy395 H
  have Ny395 := Aside0.mk hy395
  clear hy395
  by_cases c2 : y395.length + l0.length < 5864062014805
  ·rw [if_pos c2] at H
   have LMc2 := Aside0.mk c2
   clear c2
   obtain ⟨y398, hy398⟩ : ∃ y_ : List (S166), y_ = (y395 ++ l0) := ⟨_, rfl⟩
   replace H : (some y398) = some r := rh_ hy398 H
   have Ny398 := Aside0.mk hy398
   clear hy398
   obtain rfl := Option.some.inj H
   have qN_ : ∀ (w : World) (a : Option Addr) (n c n' c' : Nat), (binOp .eql 88 (.slice a n c) (.slice none n' c')).run Try.prog w = .ok (.bool a.isNone) w := fun w a n c n' c' => Lib.run_eql_slice_nil w _ _ a n c n' c' Try.underlying88
   go_enter Try.func181, Try.ntmps181
   go_wp2_with (first | ((with_reducible refine gd_ 5 ?_); refine Kd.R_lit k166 _ 166 ?hg (N := 5) ?hd (xs := ([] : List (S166))) (inner := []) (ok := fun _ => True) (okp := fun _ => True) ?hr ?hp (fun _ hk => hk) trivial (Below.refl _ _) (Nat.le_refl _) (by simp) ?_; (case hd => rfl); (case hg => rfl); (case hr => first | (go_simp; done) | (go_simp; rfl)); (case hp => exact (Reps.none _ _)); intro v396 w3 ho4 hb hg_ hnew_; clear hg_ hnew_; (first | rw [← Ny395.out] at ho4 | (simp only [Int.reduceToNat] at ho4; rw [← Ny395.out] at ho4)); have HO397 := Aside0.mk (Kd.R_lower ho4 (below_size (up_ HB.out))); replace HB := bs_ HB hb; clear hb ho4) | ((with_reducible refine gate_builtin (b := .append) (xs := #[.tmp 5, .tmp 6]) rfl ?_); at_builtin; refine Kd.R_append_rows k166 (w0 := w) w.heap.size rfl (.tmp 5) (.tmp 6) 88 166 (.agg #[(.int .i64 0), (.int .i64 0), (.int .i64 0)]) 24 rfl Try.underlying88 info166 rfl (by decide) (by omega) v396 y395 l0 _ _ _ (fun _ => True) (fun _ => False) rfl rfl ?aO ?aR (fun _ _ h => h) (fun _ h => h.elim) ?aF ?aB ?aS ?aL ?_; (case aR => exact Kd.C_below HR0.out (up_ HB.out)); (case aB => exact (up_ HB.out)); (case aF => exact (fun _ _ => trivial)); (case aO => exact (up_ HO397.out)); (case aS => exact (below_size (up_ HB.out))); (case aL => have := LMc2.out; omega); intro v399 w5 ho hb hg hat; rw [← Ny398.out] at ho; have n0_ := Aside0.mk (hb); have n1_ := Aside0.mk (ho); clear HB; clear HO397; have HB := n0_; have HO400 := n1_; clear n0_ n1_; clear ho hb hg hat))
   go_ret
   exact ⟨_, re_, by (with_reducible repeat (first | apply Kd.R_alloc | apply Kd.R_drewN | apply Kd.R_drew)); exact HO400.out, up_ HB.out⟩
  ·rw [if_neg c2] at H
   exact absurd H (by simp)

/-! ### impl_FootingsOf: function 138 -/
def impl_FootingsOf.each : Nat → Int → Int → Int → List S166 → List S90 → Option (List S90)
 | 0, _, _, _, _, _ => none
 | k + 1, n, len, m, own, outs => if m < len then ((impl_Foot.f own).bind fun t => if outs.length < 3518437208883 then impl_FootingsOf.each k n len (wrap64 (m + 1)) own (outs ++ [(⟨n, t, m⟩ : S90)]) else none) else some outs
mutual
def impl_FootingsOf.rest : Nat → Int → Int → List S166 → List S90 → Option (List S90)
 | 0, _, _, _, _ => none
 | k + 1, n, s, own, outs => if s = n then impl_FootingsOf.each k n (own.length : Int) 0 own outs else ((impl_FootingsOf.rest k n (wrap64 (s + 1)) own outs).bind fun o => impl_FootingsOf.loop k n s [(⟨s, 1, 0⟩ : S166), (⟨s, 2, 0⟩ : S166), (⟨s, 2, 1⟩ : S166)] own o 0)
def impl_FootingsOf.loop : Nat → Int → Int → List S166 → List S166 → List S90 → Int → Option (List S90)
 | 0, _, _, _, _, _, _ => none
 | k + 1, n, s, row, own, outs, i => if i < (row.length : Int) then (if 0 ≤ i then (if (wrap64 (s + (rd_T166 row i).f1)) ≤ n then (if own.length < 5864062014805 then ((impl_FootingsOf.rest k n (wrap64 (s + (rd_T166 row i).f1)) (own ++ [(⟨(rd_T166 row i).f0, (rd_T166 row i).f1, (rd_T166 row i).f2⟩ : S166)]) outs).bind fun o => impl_FootingsOf.loop k n s row own o (wrap64 (i + 1))) else none) else impl_FootingsOf.loop k n s row own outs (wrap64 (i + 1))) else none) else some outs
end
def impl_FootingsOf.f (k : Nat) (a0 : Int) : Option (List S90) := (impl_within.f a0 1 4).bind fun t => if t = true then impl_FootingsOf.rest k a0 0 [] [] else some []
theorem impl_FootingsOf.mono_e : ∀ k y0 y1 y2 y3 y4, LeO (impl_FootingsOf.each k y0 y1 y2 y3 y4) (impl_FootingsOf.each (k + 1) y0 y1 y2 y3 y4)
 | 0 => fun _ _ _ _ _ r h => by simp [impl_FootingsOf.each] at h
 | k + 1 => by
  intro y0 y1 y2 y3 y4
  unfold impl_FootingsOf.each
  exact LeO.ite (LeO.bind (LeO.refl _) (fun _ => LeO.ite (impl_FootingsOf.mono_e k _ _ _ _ _) (LeO.none _))) (LeO.refl _)
theorem impl_FootingsOf.mono_l : ∀ k, (∀ y0 y1 y2 y3, LeO (impl_FootingsOf.rest k y0 y1 y2 y3) (impl_FootingsOf.rest (k + 1) y0 y1 y2 y3)) ∧ (∀ y0 y1 y2 y3 y4 y5, LeO (impl_FootingsOf.loop k y0 y1 y2 y3 y4 y5) (impl_FootingsOf.loop (k + 1) y0 y1 y2 y3 y4 y5))
 | 0 => ⟨fun _ _ _ _ r h => by simp [impl_FootingsOf.rest] at h, fun _ _ _ _ _ _ r h => by simp [impl_FootingsOf.loop] at h⟩
 | k + 1 => by
  obtain ⟨ih0, ih1⟩ := impl_FootingsOf.mono_l k
  refine ⟨?_, ?_⟩
  ·intro y0 y1 y2 y3
   unfold impl_FootingsOf.rest
   exact LeO.ite (impl_FootingsOf.mono_e k _ _ _ _ _) (LeO.bind (ih0 _ _ _ _) (fun _ => ih1 _ _ _ _ _ _))
  ·intro y0 y1 y2 y3 y4 y5
   unfold impl_FootingsOf.loop
   exact LeO.ite (LeO.ite (LeO.ite (LeO.ite (LeO.bind (ih0 _ _ _ _) (fun _ => ih1 _ _ _ _ _ _)) (LeO.none _)) (ih1 _ _ _ _ _ _)) (LeO.none _)) (LeO.refl _)
theorem impl_FootingsOf.mono : ∀ a0 k, LeO (impl_FootingsOf.f k a0) (impl_FootingsOf.f (k + 1) a0) := by
 intro a0 k
 unfold impl_FootingsOf.f
 exact LeO.bind (LeO.refl _) (fun _ => LeO.ite ((impl_FootingsOf.mono_l k).1 _ _ _ _) (LeO.refl _))
/-- The captured variables. -/
def impl_FootingsOf.B (gn gr gout gown : Nat) (n : Int) : List (Nat × Obj) := [(gr, .cells #[.func (.func 180) #[] #[.pointer (some ⟨gn, 0, none⟩), .pointer (some ⟨gown, 0, none⟩), .pointer (some ⟨gout, 0, none⟩), .pointer (some ⟨gr, 0, none⟩)]] 173 (0, 0)), (gn, .cells #[.int .i64 n] 3 (0, 0))]
abbrev impl_FootingsOf.T2 (w0 w : World) (X : List (Nat × Obj)) (gout gown : Nat) (vo vw : Value) (outs : List S90) (own : List S166) : Prop := Two.Two k90 90 100 k166 166 88 w0 w X gout gown vo vw outs own
def impl_FootingsOf.Post (w0 : World) (X : List (Nat × Obj)) (gout gown : Nat) (r : List S90) (own : List S166) (e : Ending) (w' : World) : Prop := e = .returned (.tuple #[]) ∧ ∃ vo vw, impl_FootingsOf.T2 w0 w' X gout gown vo vw r own
def impl_FootingsOf.T4 : Bool × List (List Nat × List Nat) := (true, [([], []), ([], []), ([], []), ([2], [2]), ([], []), ([1, 3, 4], [1, 3, 4]), ([5], [5]), ([0, 6, 3], [0, 6]), ([7, 7, 0, 1, 2, 3, 4, 5, 6, 7], [7])])
def impl_FootingsOf.B4 : List Nat := [0, 0, 0, 4, 0, 30, 62, 127, 255]
theorem impl_FootingsOf.tab4 : rtab .any (opsOf Try.f180 4) = impl_FootingsOf.T4 := by kernel_rfl
theorem impl_FootingsOf.bits4 : waitsOk impl_FootingsOf.T4.2 impl_FootingsOf.B4 = true := by kernel_rfl
set_option maxHeartbeats 8000000 in
set_option maxRecDepth 100000 in
theorem impl_FootingsOf.rest_calls (k : Nat) : ∀ (gn gr gout gown : Nat) (n : Int) (X : List (Nat × Obj)) (hX : ∀ p ∈ impl_FootingsOf.B gn gr gout gown n, p ∈ X) (vo vw : Value) (own : List S166) (outs r : List S90) (s : Int) (w0 w : World) (hT : impl_FootingsOf.T2 w0 w X gout gown vo vw outs own) (h : impl_FootingsOf.rest k n s own outs = some r),
  Calls Try.prog 180 #[.int .i64 s, .pointer (some ⟨gn, 0, none⟩), .pointer (some ⟨gown, 0, none⟩), .pointer (some ⟨gout, 0, none⟩), .pointer (some ⟨gr, 0, none⟩)] w (impl_FootingsOf.Post w0 X gout gown r own) := by
 have huG := Try.underlying90
 have huT := Try.underlying166
 induction k using Nat.strongRecOn with
 | _ k ih =>
 intro gn gr gout gown n X hX vo vw own outs r s w0 w hT h
 cases k with
 | zero => exact absurd h (by simp [impl_FootingsOf.rest])
 | succ k =>
 simp only [impl_FootingsOf.rest] at h
 obtain ⟨Ao, co, rfl⟩ := Kd.S_slice hT.so
 obtain ⟨Aw, cw, rfl⟩ := Kd.R_slice hT.ro
 have HT := Aside0.mk hT
 clear hT
 have HI := Aside0.mk ih
 clear ih
 have HX := Aside0.mk hX
 clear hX
 have hbn : (gn, Obj.cells #[.int .i64 n] 3 (0, 0)) ∈ X := HX.out _ (List.mem_cons_of_mem _ (List.mem_cons_self ..))
 have HBN := Aside0.mk hbn
 clear hbn
 have hbr : (gr, Obj.cells #[.func (.func 180) #[] #[.pointer (some ⟨gn, 0, none⟩), .pointer (some ⟨gown, 0, none⟩), .pointer (some ⟨gout, 0, none⟩), .pointer (some ⟨gr, 0, none⟩)]] 173 (0, 0)) ∈ X := HX.out _ (List.mem_cons_self ..)
 have HBR := Aside0.mk hbr
 clear hbr
 by_cases c2 : s = n
 ·rw [if_pos c2] at h
  have c2b0 : (s == n) = true := beq_iff_eq.mpr c2
  have c2b1 : (s != n) = false := bne_eq_false_iff_eq.mpr c2
  clear c2
  have H' := Aside0.mk h
  clear h
  have hcw : w.cell? ⟨gown, 0, none⟩ = some (.slice Aw own.length cw) := (blk_cell HT.out.bw 0).trans rfl
  have hcn : w.cell? ⟨gn, 0, none⟩ = some (.int .i64 n) := (blk_cell (HT.out.bx _ HBN.out) 0).trans rfl
  go_enter Try.func180, Try.ntmps180
  go_wp2
  go_loopg [14] k (fun kq v14 w' => ∃ (m : Int) (o : List S90) (vo : Value), v14 = .int .i64 m ∧ Aside0 (impl_FootingsOf.each kq n (own.length : Int) m own o = some r) ∧ Aside0 (kq ≤ k) ∧ Aside0 (impl_FootingsOf.T2 w0 w' X gout gown vo (.slice Aw own.length cw) o own))
  case atStart => exact ⟨0, outs, _, (by first | rfl | (simp; done)), H', ⟨Nat.le_refl _⟩, ⟨by first | exact HT.out | exact HT.out.drewN _⟩⟩
  case round =>
   clear H' hcw hcn HT c2b0 c2b1
   obtain ⟨m, o, vo, rfl, HA, HK1, HT⟩ := hrel
   cases gk with
   | zero => exact absurd HA.out (by simp [impl_FootingsOf.each])
   | succ k1 =>
    have H := HA.out
    clear HA
    simp only [impl_FootingsOf.each] at H
    obtain ⟨Ao, co, rfl⟩ := Kd.S_slice HT.out.so
    replace H := its_ H; rcases H with ⟨c3b0, H⟩ | ⟨c3b0, H⟩
    ·obtain ⟨t, A30, H⟩ := Option.bind_eq_some_iff.mp H
     have A3 := Aside0.mk A30
     clear A30
     by_cases c4 : o.length < 3518437208883
     ·rw [if_pos c4] at H
      have LM := Aside0.mk c4
      clear c4
      obtain ⟨y, hy⟩ : ∃ y_ : List S90, y_ = o ++ [(⟨n, t, m⟩ : S90)] := ⟨_, rfl⟩
      rw [← hy] at H
      have Ny := Aside0.mk hy
      clear hy
      have H' := Aside0.mk H
      clear H
      try go_wp2
      have HT1 := Aside0.mk HT.out.drew
      clear HT
      refine start_ (n := 9) (S := fun w' => w'.cell? ⟨gout, 0, none⟩ = some (.slice Ao o.length co) ∧ w'.cell? ⟨gn, 0, none⟩ = some (.int .i64 n) ∧ w'.cell? ⟨gown, 0, none⟩ = some (.slice Aw own.length cw)) (ds := [8]) #[false, false, false, false, false, false, false, false, false] (by kernel_rfl) rfl rfl ⟨(blk_cell HT1.out.bo 0).trans rfl, (blk_cell (HT1.out.bx _ HBN.out) 0).trans rfl, (blk_cell HT1.out.bw 0).trans rfl⟩ (fun hHeld => ?_); refine with_tabW impl_FootingsOf.tab4 impl_FootingsOf.bits4 (fun HT_ HW_ => ?_)
      generalize wr.drew = w21 at HT1 hHeld ⊢
      refine pu_ 4 (some 21) ?_
      refine tk_ 0 (some 17) hHeld ?_
      refine tk_ 1 (some 18) hHeld ?_
      refine tk_ 2 (some 19) hHeld ?_
      refine one_ (i := 3) (N := some 20) #[true, true, true, true, true, false, false, false, false] rfl rfl (one_of HT_.out (by kernel_rfl)) (by decide) (fun K hK => ?_)
      refine goes_ Try.func181 (by kernel_rfl) rfl #[.slice Aw own.length cw] (by rfl) rfl rfl (by (try simp only [List.map_toArray, List.map_cons, List.map_nil]); first | done | rfl) ?_
      with_reducible refine (impl_Foot.calls _ _ own t _ ?side1 ?side2 A3.out).mono ?_
      (case side1 => exact (Kd.R_reads' HT1.out.ro).2.2)
      (case side2 => exact (Kd.R_reads' HT1.out.ro).2.1)
      rintro e w22 ⟨v119, rfl, ho0, hb⟩
      refine ⟨_, rfl, ?_⟩
      have HT2 := Aside0.mk (HT1.out.below hb)
      have hap : Kd.S k90 90 w22 w0.heap.size (fun k => (some k ≠ (.slice Aw own.length cw : Value).ownBlock ∧ ¬ Two.Zin X gout gown k) ∧ ¬ w21.heap.size ≤ k) (.slice Ao o.length co) o :=
       Kd.S_below (Kd.S_mono (Kd.S_bound HT1.out.so) (fun k hk => ⟨hk.1, by have := hk.2.2.1; omega⟩)) hb
      have hok : ∀ k, w21.heap.size ≤ k → (some k ≠ (.slice Aw own.length cw : Value).ownBlock ∧ ¬ Two.Zin X gout gown k) ∧ some k ≠ (.slice Ao o.length co : Value).ownBlock := fun k hk => ⟨HT1.out.fresh k hk, fun he => by have := Kd.S_lt HT1.out.so k he.symm; omega⟩
      have hnew : Kd.R k166 166 w22 w0.heap.size (fun k => w21.heap.size ≤ k) v119 t := Kd.R_mono (Kd.R_lower (Kd.R_bound ho0) HT1.out.size) (fun _ hk => hk.2.1)
      have HA := Aside0.mk hap
      have HK := Aside0.mk hok
      have HN := Aside0.mk hnew
      clear hap hok hnew ho0 hb HT1
      obtain ⟨Ac, cc, ec⟩ := Kd.R_slice HN.out
      subst ec
      refine hK.out _ _ ⟨(blk_cell HT2.out.bo 0).trans rfl, (blk_cell (HT2.out.bx _ HBN.out) 0).trans rfl, (blk_cell HT2.out.bw 0).trans rfl⟩ (fun hHeld => ?_)
      clear hK K
      refine nm_ ?_
      refine pu_ 5 (some 22) ?_
      refine one_ (i := 6) (N := some 23) #[true, true, true, true, true, true, true, false, false] rfl rfl (one_of HT_.out (by kernel_rfl)) (by decide) (fun K hK => ?_)
      refine value_ (w1 := ?_) (v := ?_) (by rfl) rfl ?_ ?_
      rotate_left 2
      ·go_simp
       constructor
       ·rfl
       ·rfl
      refine hK.out _ _ ⟨(blk_cell (blk_alloc HT2.out.bo _) 0).trans rfl, (blk_cell (blk_alloc (HT2.out.bx _ HBN.out) _) 0).trans rfl, (blk_cell (blk_alloc HT2.out.bw _) 0).trans rfl⟩ (fun hHeld => ?_)
      clear hK K
      refine nm_ ?_
      refine one_ (i := 7) (N := some 24) #[true, true, true, true, true, true, true, true, false] rfl rfl (one_of HT_.out (by kernel_rfl)) (by decide) (fun K hK => ?_)
      refine Kd.S_append_step k90 (w0 := w0) w0.heap.size (by rfl) (.tmp 17) (.tmp 23) 100 90 (.agg #[(.int .i64 0), (.slice none 0 0), (.int .i64 0)]) 40 rfl Try.underlying100 info90 rfl (by decide) (by omega) (.slice Ao o.length co) o (⟨n, t, m⟩ : S90) [.int .i64 n, .slice Ac t.length cc, .int .i64 m] (fun k => some k ≠ (.slice Aw own.length cw : Value).ownBlock ∧ ¬ Two.Zin X gout gown k) (fun k => w21.heap.size ≤ k) rfl rfl ?aP HK.out ?aF ?aO ?aB ?aS ?aL ?_
      (case aP => exact k90_mkM _ _ _ (⟨n, t, m⟩ : S90) HN.out)
      (case aB => exact HT2.out.hb)
      (case aF => exact HT2.out.fresh)
      (case aO => exact HA.out)
      (case aS => exact HT2.out.size)
      (case aL => have := LM.out; omega)
      intro v122 w23 ho hb hg hat
      rw [← Ny.out] at ho
      have hz := HT2.out.z_grown hg HT2.out.vo_not
      have HP := Aside0.mk (HT2.out.putO rfl hg hb ho)
      refine hK.out _ _ ⟨(blk_cell hz.1 0).trans rfl, (blk_cell (hz.2.2 _ HBN.out) 0).trans rfl, (blk_cell hz.2.1 0).trans rfl⟩ (fun hHeld => ?_)
      clear hK K
      obtain ⟨Ap, cp, ep⟩ := Kd.S_slice ho
      subst ep
      refine nm_ ?_
      refine last_ (i := 8) (N := none) #[true, true, true, true, true, true, true, true, true] rfl rfl (one_of HT_.out (by kernel_rfl)) (by decide) (fun K hK => ?_)
      have hs26 : w23.cell? ⟨gout, 0, none⟩ = some (.slice Ao o.length co) := (blk_cell hz.1 0).trans rfl
      have hfs26 := blk_frozen hz.1 0
      clear hz ho hb hg hat
      refine skip_ (w1 := ?_) (by rfl) rfl ?_ ?_
      rotate_left
      ·go_simp
       rfl
      refine hK.out _ _ ?_
      clear hK K
      refine done_ (done_of HT_.out (by kernel_rfl)) ?_
      try go_wp2
      go_roundg k1
      case measure => have := HK1.out; omega
      case rel => exact ⟨wrap64 (m + 1), y, _, (by first | rfl | (simp; done)), H', ⟨by have := HK1.out; omega⟩, ⟨HP.out⟩⟩
     ·rw [if_neg c4] at H
      cases H
    ·obtain rfl := Option.some.inj H
     go_wp2
     (first | go_end0 | ((try simp only [Exit.inBlock, Exit.then]); refine bodyPost_ret (results_none rfl _ _ _) rfl ?_))
     exact ⟨rfl, _, _, HT.out⟩
 ·rw [if_neg c2] at h
  have c2b0 : (s == n) = false := beq_eq_false_iff_ne.mpr c2
  have c2b1 : (s != n) = true := bne_iff_ne.mpr c2
  clear c2
  obtain ⟨o1, A10, h⟩ := Option.bind_eq_some_iff.mp h
  have A1 := Aside0.mk A10
  clear A10
  obtain ⟨row, hrow⟩ : ∃ y_ : List S166, y_ = [(⟨s, 1, 0⟩ : S166), (⟨s, 2, 0⟩ : S166), (⟨s, 2, 1⟩ : S166)] := ⟨_, rfl⟩
  rw [← hrow] at h
  have Nrow := Aside0.mk hrow
  clear hrow
  have H' := Aside0.mk h
  clear h
  have hcn : w.cell? ⟨gn, 0, none⟩ = some (.int .i64 n) := (blk_cell (HT.out.bx _ HBN.out) 0).trans rfl
  have hcr : w.cell? ⟨gr, 0, none⟩ = some (.func (.func 180) #[] #[.pointer (some ⟨gn, 0, none⟩), .pointer (some ⟨gown, 0, none⟩), .pointer (some ⟨gout, 0, none⟩), .pointer (some ⟨gr, 0, none⟩)]) := (blk_cell (HT.out.bx _ HBR.out) 0).trans rfl
  go_enter Try.func180, Try.ntmps180
  go_wp2_with (first | (go_at_call 180; refine (HI.out k (by omega) gn gr gout gown n X HX.out _ _ own outs o1 _ w0 _ HT.out A1.out).mono ?_; rintro e w60 ⟨rfl, vo5, vw5, HT5⟩; clear hcr hcn HT; obtain ⟨Aq, cq, eq_⟩ := Kd.S_slice HT5.so; subst eq_; obtain ⟨Ar, cr, er_⟩ := Kd.R_slice HT5.ro; subst er_; have HT4 := Aside0.mk HT5; clear HT5) | ((with_reducible refine gd_ 36 ?_); refine Kd.R_lit k166 _ 166 ?hg (N := 36) ?hd (xs := ([(⟨s, 1, 0⟩ : S166), (⟨s, 2, 0⟩ : S166), (⟨s, 2, 1⟩ : S166)] : List S166)) (inner := [.int .i64 s, .int .i64 1, .int .i64 0, .int .i64 s, .int .i64 2, .int .i64 0, .int .i64 s, .int .i64 2, .int .i64 1]) (ok := fun _ => True) (okp := fun _ => True) ?hr ?hp (fun _ hk => hk) trivial (Below.refl _ _) (Nat.le_refl _) (by simp) ?_; (case hd => rfl); (case hg => rfl); (case hr => first | (go_simp; done) | (go_simp; rfl)); (case hp => exact (Reps.c3 (show Kd.M k166 _ _ _ (⟨s, 1, 0⟩ : S166) [.int .i64 s, .int .i64 1, .int .i64 0] from (k166_mkM _ _ _ (⟨s, 1, 0⟩ : S166))) (Reps.c3 (show Kd.M k166 _ _ _ (⟨s, 2, 0⟩ : S166) [.int .i64 s, .int .i64 2, .int .i64 0] from (k166_mkM _ _ _ (⟨s, 2, 0⟩ : S166))) (Reps.c3 (show Kd.M k166 _ _ _ (⟨s, 2, 1⟩ : S166) [.int .i64 s, .int .i64 2, .int .i64 1] from (k166_mkM _ _ _ (⟨s, 2, 1⟩ : S166))) (Reps.none _ _))))); intro v123 w46 ho47 hb hg_ hnew_; (first | rw [← Nrow.out] at ho47 | (simp only [Int.reduceToNat] at ho47; rw [← Nrow.out] at ho47)); obtain ⟨gl, egl, hgl⟩ := hnew_; obtain ⟨lc, hlc⟩ := Kd.R_typed ho47 gl egl; have HTL := Aside0.mk (HT4.out.addX hb hlc hgl); have HLC := Aside0.mk hlc; have EGL := Aside0.mk egl; have HLit := Aside0.mk (Kd.R_tight rfl ho47); clear hb hg_ hlc hgl egl ho47 HT4; obtain ⟨Al, cl, el⟩ := Kd.R_slice HLit.out; subst el))
  go_loopg [38] k (fun kq v38 w' => ∃ (i : Int) (o : List S90) (vo vw : Value), v38 = .int .i64 i ∧ Aside0 (impl_FootingsOf.loop kq n s row own o i = some r) ∧ Aside0 (kq ≤ k) ∧ Aside0 (impl_FootingsOf.T2 w0 w' ((gl, .cells lc 166 (0, 0)) :: X) gout gown vo vw o own))
  case atStart => exact ⟨0, o1, _, _, (by first | rfl | (simp; done)), H', ⟨Nat.le_refl _⟩, ⟨by first | exact HTL.out | exact HTL.out.drewN _⟩⟩
  case round =>
   clear H' HTL c2b0 c2b1
   obtain ⟨i, o, vo, vw, rfl, HA, HK1, HT⟩ := hrel
   cases gk with
   | zero => exact absurd HA.out (by simp [impl_FootingsOf.loop])
   | succ k1 =>
    have H := HA.out
    clear HA
    simp only [impl_FootingsOf.loop] at H
    obtain ⟨Ao, co, rfl⟩ := Kd.S_slice HT.out.so
    obtain ⟨Aw, cw, rfl⟩ := Kd.R_slice HT.out.ro
    by_cases c3 : i < (row.length : Int)
    ·rw [if_pos c3] at H
     have c3b0 : decide (i < (row.length : Int)) = true := decide_eq_true c3
     by_cases c31 : 0 ≤ i
     ·rw [if_pos c31] at H
      have c31b0 : decide (0 ≤ i) = true := decide_eq_true c31
      have hrow : Kd.R k166 166 wr _ (fun k => some k = (.slice Al row.length cl : Value).ownBlock) (.slice Al row.length cl) row := Kd.R_step HLit.out (fun k hk _ => by have he : k = gl := Option.some.inj (hk.trans EGL.out); rw [he]; exact (HT.out.bx (gl, _) (List.mem_cons_self ..)).trans HLC.out.symm)
      obtain ⟨ad125, e125, hx125_0, hx125_1, hx125_2⟩ := at_T166 (Kd.R_reads' hrow).2.2 i c31 c3
      clear hrow
      cases e125
      have p125 := eq_true c31
      have q125 := eq_true c3
      clear c31 c3
      obtain ⟨x, hx⟩ : ∃ x_ : S166, x_ = rd_T166 row i := ⟨_, rfl⟩
      rw [← hx] at H hx125_0 hx125_1 hx125_2
      clear hx
      have HXB : ∀ p ∈ ((gl, Obj.cells lc 166 (0, 0)) :: X), p.1 < wr.heap.size := fun p hp => blk_lt (HT.out.bx p hp)
      have HXL := Aside0.mk HXB
      clear HXB
      replace H := its_ H; rcases H with ⟨c52b0, H⟩ | ⟨c52b0, H⟩
      ·by_cases c5 : own.length < 5864062014805
       ·rw [if_pos c5] at H
        have LM := Aside0.mk c5
        clear c5
        obtain ⟨o2, A50, H⟩ := Option.bind_eq_some_iff.mp H
        have A5 := Aside0.mk A50
        clear A50
        have H' := Aside0.mk H
        clear H
        obtain ⟨y, hy⟩ : ∃ y_ : List S166, y_ = own ++ [(⟨x.f0, x.f1, x.f2⟩ : S166)] := ⟨_, rfl⟩
        have Ny := Aside0.mk hy
        have hyl : y.length = own.length + 1 := by rw [hy, List.length_append]; rfl
        obtain ⟨ji, hji⟩ : ∃ j_ : Int, (wrap64 ((y.length : Int) - 1)) = j_ := ⟨_, rfl⟩
        have hjv : ji = (own.length : Int) := by rw [← hji]; unfold wrap64; have := LM.out; omega
        have hjiw : (IntKind.i64.wrap ((y.length : Int) - 1)) = ji := (i64_w _).trans hji
        have c51b0 : (0 ≤ ji) = True := eq_true (by omega)
        have c51b1 : decide (0 ≤ ji) = true := decide_eq_true (by omega)
        have c53b0 : (ji ≤ (y.length : Int)) = True := eq_true (by omega)
        have c53b1 : decide (ji ≤ (y.length : Int)) = true := decide_eq_true (by omega)
        have hyt : y.take ji.toNat = own := by rw [hjv, hy]; simp
        have Nt := Aside0.mk hyt
        have Nl := Aside0.mk hyl
        have Nj := Aside0.mk hjv
        clear hy hyl hjv hyt
        rw [← Ny.out] at A5
        go_wp2_with (first | ((with_reducible refine gd_ 8 ?_); refine bx_ 8 #[.int .i64 0, .int .i64 0, .int .i64 0] 166 ?_; intro gx hg w57 hbox hb; have HT2 := Aside0.mk (HT.out.addX hb hbox (by rw [hg]; exact Nat.le_refl _)); have HNX := Aside0.mk (show ∀ p ∈ ((gl, Obj.cells lc 166 (0, 0)) :: X), p.1 ≠ gx from fun p hp => by have := HXL.out p hp; omega); have hcz0 : w57.cell? ⟨gx, 0, none⟩ = some (.int .i64 0) := (blk_cell hbox 0).trans rfl; have hcz1 : w57.cell? ⟨gx, 1, none⟩ = some (.int .i64 0) := (blk_cell hbox 1).trans rfl; have hcz2 : w57.cell? ⟨gx, 2, none⟩ = some (.int .i64 0) := (blk_cell hbox 2).trans rfl; have hfz0 := blk_frozen hbox 0; have hfz1 := blk_frozen hbox 1; have hfz2 := blk_frozen hbox 2; clear hg hbox hb HT) | ((with_reducible refine gate_store (t := 166) (p := 8) rfl ?_); refine store_event (t := 166) (p := 8) (v := ?vo_w58) (w1 := (((w57.setCell ⟨gx, 0, none⟩ (.int .i64 x.f0)).setCell ⟨gx, 1, none⟩ (.int .i64 x.f1)).setCell ⟨gx, 2, none⟩ (.int .i64 x.f2))) ?hg ?ho ?hn ?hr ?_; (case ho => rfl); (case hg => rfl); (case hn => rfl); (case hr => first | (go_simp; done) | (go_simp; rfl)); intro w58 hw; have HT3 : Aside0 (impl_FootingsOf.T2 w0 w58 ((gx, .cells #[.int .i64 x.f0, .int .i64 x.f1, .int .i64 x.f2] 166 (0, 0)) :: (gl, .cells lc 166 (0, 0)) :: X) gout gown (.slice Ao o.length co) (.slice Aw own.length cw) o own) := ⟨by rw [hw]; exact ((HT2.out.setXc HNX.out rfl).setXc HNX.out rfl).setXc HNX.out rfl⟩; clear hw HT2 hcz0 hcz1 hcz2 hfz0 hfz1 hfz2; have hcn3 : w58.cell? ⟨gn, 0, none⟩ = some (.int .i64 n) := (blk_cell (HT3.out.bx _ (List.mem_cons_of_mem _ (List.mem_cons_of_mem _ HBN.out))) 0).trans rfl; have hcx0 : w58.cell? ⟨gx, 0, none⟩ = some (.int .i64 x.f0) := (blk_cell (HT3.out.bx _ (List.mem_cons_self ..)) 0).trans rfl; have hcx1 : w58.cell? ⟨gx, 1, none⟩ = some (.int .i64 x.f1) := (blk_cell (HT3.out.bx _ (List.mem_cons_self ..)) 1).trans rfl; have hcx2 : w58.cell? ⟨gx, 2, none⟩ = some (.int .i64 x.f2) := (blk_cell (HT3.out.bx _ (List.mem_cons_self ..)) 2).trans rfl; have hcw2 : w58.cell? ⟨gown, 0, none⟩ = some (.slice Aw own.length cw) := (blk_cell HT3.out.bw 0).trans rfl) | ((with_reducible refine gate_builtin (b := .append) (xs := #[.tmp 48, .tmp 50]) rfl ?_); at_builtin; refine Kd.R_append k166 (w0 := w0) w0.heap.size rfl (.tmp 48) (.tmp 50) 88 166 (.agg #[(.int .i64 0), (.int .i64 0), (.int .i64 0)]) 24 rfl Try.underlying88 info166 rfl (by decide) (by omega) (.slice Aw own.length cw) own (⟨x.f0, x.f1, x.f2⟩ : S166) [.int .i64 x.f0, .int .i64 x.f1, .int .i64 x.f2] (fun k => ¬ Two.Zin ((gx, .cells #[.int .i64 x.f0, .int .i64 x.f1, .int .i64 x.f2] 166 (0, 0)) :: (gl, .cells lc 166 (0, 0)) :: X) gout gown k) (fun _ => False) rfl (by first | (go_simp; done) | (go_simp; rfl)) ?aP (fun _ hk => hk.elim) ?aF ?aO ?aB ?aS ?aL ?_; (case aP => exact k166_mkM _ _ _ (⟨x.f0, x.f1, x.f2⟩ : S166)); (case aB => exact HT3.out.hb); (case aF => exact fun k hk => (HT3.out.fresh k hk).2); (case aO => exact HT3.out.ro); (case aS => exact HT3.out.size); (case aL => have := LM.out; omega); intro v126 w56 ho hb hg hat; rw [← Ny.out] at ho; have hz := HT3.out.z_grown hg HT3.out.vw_not; have HP := Aside0.mk (HT3.out.putW hg hat hb ho); obtain ⟨Ap, cp, ep⟩ := Kd.R_slice ho; subst ep; have hcw3 : w56.cell? ⟨gown, 0, none⟩ = some (.slice Aw own.length cw) := (blk_cell hz.2.1 0).trans rfl; have hfw3 := blk_frozen hz.2.1 0; clear hz ho hb hg hat HT3 hcn3 hcx0 hcx1 hcx2 hcw2) | ((with_reducible refine gate_store (t := 88) (p := 2) rfl ?_); refine store_event (t := 88) (p := 2) (v := ?vo_w59) (w1 := (w56.setCell ⟨gown, 0, none⟩ (.slice Ap y.length cp))) ?hg ?ho ?hn ?hr ?_; (case ho => rfl); (case hg => rfl); (case hn => rfl); (case hr => first | (go_simp; done) | (go_simp; rfl)); intro w59 hw; have HT6 : Aside0 (impl_FootingsOf.T2 w0 w59 ((gx, .cells #[.int .i64 x.f0, .int .i64 x.f1, .int .i64 x.f2] 166 (0, 0)) :: (gl, .cells lc 166 (0, 0)) :: X) gout gown (.slice Ao o.length co) (.slice Ap y.length cp) o y) := ⟨by rw [hw]; exact HP.out⟩; clear hw HP hcw3 hfw3; have hcr : w59.cell? ⟨gr, 0, none⟩ = some (.func (.func 180) #[] #[.pointer (some ⟨gn, 0, none⟩), .pointer (some ⟨gown, 0, none⟩), .pointer (some ⟨gout, 0, none⟩), .pointer (some ⟨gr, 0, none⟩)]) := (blk_cell (HT6.out.bx _ (List.mem_cons_of_mem _ (List.mem_cons_of_mem _ HBR.out))) 0).trans rfl; have hcx : w59.cell? ⟨gx, 1, none⟩ = some (.int .i64 x.f1) := (blk_cell (HT6.out.bx _ (List.mem_cons_self ..)) 1).trans rfl) | (go_at_call 180; refine (HI.out k1 (by have := HK1.out; omega) gn gr gout gown n ((gx, .cells #[.int .i64 x.f0, .int .i64 x.f1, .int .i64 x.f2] 166 (0, 0)) :: (gl, .cells lc 166 (0, 0)) :: X) (fun p hp => List.mem_cons_of_mem _ (List.mem_cons_of_mem _ (HX.out p hp))) _ _ y o o2 _ w0 _ HT6.out A5.out).mono ?_; rintro e w60 ⟨rfl, vo5, vw5, HT5⟩; clear HT6 hcr hcx; obtain ⟨Aq, cq, eq_⟩ := Kd.S_slice HT5.so; subst eq_; obtain ⟨Ar, cr, er_⟩ := Kd.R_slice HT5.ro; subst er_; have HT4 := Aside0.mk HT5; clear HT5; have hcw4 : w60.cell? ⟨gown, 0, none⟩ = some (.slice Ar y.length cr) := (blk_cell HT4.out.bw 0).trans rfl; have hfw4 := blk_frozen HT4.out.bw 0; have q61 : (ji : Int) ≤ ((y.length : Int) : Int) := (by have := Nj.out; have := Nl.out; omega); obtain ⟨i061, hi061, _, hsz61, _⟩ := info_parts info166; have hcut61 := cut_to (P := Try.prog) 88 166 .i64 Try.underlying88 hi061 Ar y.length cr (ji) (by have := Nj.out; omega) q61 (Kd.R_reads' HT4.out.ro).2.1; have hr61 := Kd.R_take (m := ((ji) : Int).toNat) HT4.out.ro (by have := Nj.out; have := Nl.out; omega); rw [Nt.out] at hr61; have hj2 : ((ji) : Int).toNat = own.length := (by have := Nj.out; omega); rw [hj2] at hr61 hcut61; clear hj2 hi061 hsz61; have HR := Aside0.mk hr61; clear hr61; replace q61 := eq_true q61))
        go_roundg k1
        case measure => have := HK1.out; omega
        case rel => exact ⟨wrap64 (i + 1), o2, _, _, (by first | rfl | (simp; done)), H', ⟨by have := HK1.out; omega⟩, ⟨(HT4.out.cutW HR.out (by cases Ar <;> rfl)).dropX⟩⟩
       ·rw [if_neg c5] at H
        cases H
      ·have H' := Aside0.mk H
       clear H
       go_wp2_with (first | ((with_reducible refine gd_ 8 ?_); refine bx_ 8 #[.int .i64 0, .int .i64 0, .int .i64 0] 166 ?_; intro gx hg w57 hbox hb; have HT2 := Aside0.mk (HT.out.addX hb hbox (by rw [hg]; exact Nat.le_refl _)); have HNX := Aside0.mk (show ∀ p ∈ ((gl, Obj.cells lc 166 (0, 0)) :: X), p.1 ≠ gx from fun p hp => by have := HXL.out p hp; omega); have hcz0 : w57.cell? ⟨gx, 0, none⟩ = some (.int .i64 0) := (blk_cell hbox 0).trans rfl; have hcz1 : w57.cell? ⟨gx, 1, none⟩ = some (.int .i64 0) := (blk_cell hbox 1).trans rfl; have hcz2 : w57.cell? ⟨gx, 2, none⟩ = some (.int .i64 0) := (blk_cell hbox 2).trans rfl; have hfz0 := blk_frozen hbox 0; have hfz1 := blk_frozen hbox 1; have hfz2 := blk_frozen hbox 2; clear hg hbox hb HT) | ((with_reducible refine gate_store (t := 166) (p := 8) rfl ?_); refine store_event (t := 166) (p := 8) (v := ?vo_w58) (w1 := (((w57.setCell ⟨gx, 0, none⟩ (.int .i64 x.f0)).setCell ⟨gx, 1, none⟩ (.int .i64 x.f1)).setCell ⟨gx, 2, none⟩ (.int .i64 x.f2))) ?hg ?ho ?hn ?hr ?_; (case ho => rfl); (case hg => rfl); (case hn => rfl); (case hr => first | (go_simp; done) | (go_simp; rfl)); intro w58 hw; have HT3 : Aside0 (impl_FootingsOf.T2 w0 w58 ((gx, .cells #[.int .i64 x.f0, .int .i64 x.f1, .int .i64 x.f2] 166 (0, 0)) :: (gl, .cells lc 166 (0, 0)) :: X) gout gown (.slice Ao o.length co) (.slice Aw own.length cw) o own) := ⟨by rw [hw]; exact ((HT2.out.setXc HNX.out rfl).setXc HNX.out rfl).setXc HNX.out rfl⟩; clear hw HT2 hcz0 hcz1 hcz2 hfz0 hfz1 hfz2; have hcn3 : w58.cell? ⟨gn, 0, none⟩ = some (.int .i64 n) := (blk_cell (HT3.out.bx _ (List.mem_cons_of_mem _ (List.mem_cons_of_mem _ HBN.out))) 0).trans rfl; have hcx0 : w58.cell? ⟨gx, 0, none⟩ = some (.int .i64 x.f0) := (blk_cell (HT3.out.bx _ (List.mem_cons_self ..)) 0).trans rfl; have hcx1 : w58.cell? ⟨gx, 1, none⟩ = some (.int .i64 x.f1) := (blk_cell (HT3.out.bx _ (List.mem_cons_self ..)) 1).trans rfl; have hcx2 : w58.cell? ⟨gx, 2, none⟩ = some (.int .i64 x.f2) := (blk_cell (HT3.out.bx _ (List.mem_cons_self ..)) 2).trans rfl; have hcw2 : w58.cell? ⟨gown, 0, none⟩ = some (.slice Aw own.length cw) := (blk_cell HT3.out.bw 0).trans rfl))
       go_roundg k1
       case measure => have := HK1.out; omega
       case rel => exact ⟨wrap64 (i + 1), o, _, _, (by first | rfl | (simp; done)), H', ⟨by have := HK1.out; omega⟩, ⟨HT3.out.dropX⟩⟩
     ·rw [if_neg c31] at H
      cases H
    ·rw [if_neg c3] at H
     have c3b0 : decide (i < (row.length : Int)) = false := decide_eq_false c3
     clear c3
     obtain rfl := Option.some.inj H
     go_wp2
     (first | go_end0 | ((try simp only [Exit.inBlock, Exit.then]); refine bodyPost_ret (results_none rfl _ _ _) rfl ?_))
     exact ⟨rfl, _, _, HT.out.dropX⟩
set_option maxHeartbeats 4000000 in
set_option maxRecDepth 100000 in
theorem impl_FootingsOf.calls (k : Nat) (a0 : Int) (r : List S90) (w : World) (h : impl_FootingsOf.f k a0 = some r) :
  Calls Try.prog 138 #[.int .i64 a0] w fun e w' => ∃ v0_ : Value, e = .returned (v0_) ∧ Kd.S k90 90 w' w.heap.size (fun _ => True) v0_ r ∧ Below w.heap.size w w' := by
 obtain ⟨b, A10, h⟩ := Option.bind_eq_some_iff.mp h
 have A1 := Aside0.mk A10
 clear A10
 cases b with
 | false =>
  rw [if_neg (by decide)] at h
  obtain rfl := Option.some.inj h
  go_enter Try.func138, Try.ntmps138
  go_wp2_with (first | ((with_reducible refine gd_ 1 ?_); refine bx_ 1 #[.int .i64 a0] 3 ?_; intro gn hg w1 hbox hb; have HB := Aside0.mk hb; have BN := Aside0.mk hbox; have GN := Aside0.mk (by rw [hg]; exact Nat.le_refl _ : w.heap.size ≤ gn); have hcn : w1.cell? ⟨gn, 0, none⟩ = some (.int .i64 a0) := (blk_cell hbox 0).trans rfl; clear hg hbox hb) | ((with_reducible refine gc_ 98 ?_); refine goesL_ (some 7) rfl rfl Try.func98 (by kernel_rfl) rfl #[.int .i64 a0, .int .i64 1, .int .i64 4] rfl (by (try simp only [List.map_toArray, List.map_cons, List.map_nil]); first | done | rfl) ?_; (with_reducible refine (impl_within.calls a0 1 4 false _ A1.out).mono ?_); rintro e w' ⟨rfl, ⟨nd, rfl⟩⟩; refine ⟨_, rfl, ?_⟩; have HB1 := Aside0.mk (pw_below_drewN HB.out nd); have BN1 := Aside0.mk (blk_drewN BN.out nd); clear HB BN hcn; generalize w1.drewN nd = w2 at HB1 BN1 ⊢))
  go_ret
  exact ⟨_, rfl, Kd.S_nil _ _ _ _ _, HB1.out⟩
 | true =>
  rw [if_pos rfl] at h
  obtain ⟨y1, hy1⟩ : ∃ y : List S90, y = [] := ⟨_, rfl⟩
  obtain ⟨y2, hy2⟩ : ∃ y : List S166, y = [] := ⟨_, rfl⟩
  have A2 : Aside0 (impl_FootingsOf.rest k a0 0 y2 y1 = some r) := ⟨by rw [hy1, hy2]; exact h⟩
  have Ny1 := Aside0.mk hy1
  have Ny2 := Aside0.mk hy2
  clear h hy1 hy2
  go_enter Try.func138, Try.ntmps138
  go_wp2_with (first | ((with_reducible refine gd_ 1 ?_); refine bx_ 1 #[.int .i64 a0] 3 ?_; intro gn hg w1 hbox hb; have HB := Aside0.mk hb; have BN := Aside0.mk hbox; have GN := Aside0.mk (by rw [hg]; exact Nat.le_refl _ : w.heap.size ≤ gn); have hcn : w1.cell? ⟨gn, 0, none⟩ = some (.int .i64 a0) := (blk_cell hbox 0).trans rfl; clear hg hbox hb) | ((with_reducible refine gc_ 98 ?_); refine goesL_ (some 7) rfl rfl Try.func98 (by kernel_rfl) rfl #[.int .i64 a0, .int .i64 1, .int .i64 4] rfl (by (try simp only [List.map_toArray, List.map_cons, List.map_nil]); first | done | rfl) ?_; (with_reducible refine (impl_within.calls a0 1 4 true _ A1.out).mono ?_); rintro e w' ⟨rfl, ⟨nd, rfl⟩⟩; refine ⟨_, rfl, ?_⟩; have HB1 := Aside0.mk (pw_below_drewN HB.out nd); have BN1 := Aside0.mk (blk_drewN BN.out nd); clear HB BN hcn; generalize w1.drewN nd = w2 at HB1 BN1 ⊢) | ((with_reducible refine gd_ 9 ?_); refine Kd.S_lit k90 _ 90 ?hg (N := 9) ?hd (xs := ([] : List S90)) (inner := []) (ok := fun _ => True) (okp := fun _ => True) ?hr ?hp (fun _ hk => hk) trivial (Below.refl _ _) (Nat.le_refl _) (by simp) ?_; (case hd => rfl); (case hg => rfl); (case hr => first | (go_simp; done) | (go_simp; rfl)); (case hp => exact (Reps.none _ _)); intro vo w3 hso hb hg_ hnew_; rw [← Ny1.out] at hso; have SO := Aside0.mk (Kd.S_mono (Kd.S_bound hso) (ok' := fun k => w2.heap.size ≤ k ∧ k < w3.heap.size) (fun k hk => ⟨hk.2.1, hk.2.2.1⟩)); have HB2 := Aside0.mk (below_step HB1.out hb); have BN2 := Aside0.mk (blk_below BN1.out hb); have L2 := Aside0.mk (below_size hb); have LN := Aside0.mk (blk_lt BN1.out); clear HB1 BN1 hso hb hg_ hnew_) | ((with_reducible refine gd_ 10 ?_); refine Kd.R_lit k166 _ 166 ?hg (N := 10) ?hd (xs := ([] : List S166)) (inner := []) (ok := fun _ => True) (okp := fun _ => True) ?hr ?hp (fun _ hk => hk) trivial (Below.refl _ _) (Nat.le_refl _) (by simp) ?_; (case hd => rfl); (case hg => rfl); (case hr => first | (go_simp; done) | (go_simp; rfl)); (case hp => exact (Reps.none _ _)); intro vw w4 hro hb hg_ hnew_; rw [← Ny2.out] at hro; have RO := Aside0.mk (Kd.R_mono (Kd.R_bound hro) (ok' := fun k => w3.heap.size ≤ k ∧ k < w4.heap.size) (fun k hk => ⟨hk.2.1, hk.2.2.1⟩)); have SO2 := Aside0.mk (Kd.S_below SO.out hb); have HB3 := Aside0.mk (below_step HB2.out hb); have BN3 := Aside0.mk (blk_below BN2.out hb); have L3 := Aside0.mk (below_size hb); have L2_ := Aside0.mk L2.out; clear SO HB2 BN2 hro hb hg_ hnew_) | ((with_reducible refine gd_ 3 ?_); refine bx_ 3 #[.slice none 0 0] 100 ?_; intro gout hg w5 hbox hb; have GO := Aside0.mk hg; have BO := Aside0.mk hbox; have RO2 := Aside0.mk (Kd.R_below RO.out hb); have SO3 := Aside0.mk (Kd.S_below SO2.out hb); have HB4 := Aside0.mk (below_step HB3.out hb); have BN4 := Aside0.mk (blk_below BN3.out hb); clear RO SO2 HB3 BN3 hg hbox hb) | ((with_reducible refine gd_ 4 ?_); refine bx_ 4 #[.slice none 0 0] 88 ?_; intro gown hg w6 hbox hb; have GW := Aside0.mk hg; have BW := Aside0.mk hbox; have LO := Aside0.mk (blk_lt BO.out); have BO2 := Aside0.mk (blk_below BO.out hb); have RO3 := Aside0.mk (Kd.R_below RO2.out hb); have SO4 := Aside0.mk (Kd.S_below SO3.out hb); have HB5 := Aside0.mk (below_step HB4.out hb); have BN5 := Aside0.mk (blk_below BN4.out hb); have LN2 := Aside0.mk (blk_lt BN4.out); clear BO RO2 SO3 HB4 BN4 hg hbox hb; obtain ⟨Ao, co, eo⟩ := Kd.S_slice SO4.out; subst eo; obtain ⟨Aw, cw, ew⟩ := Kd.R_slice RO3.out; subst ew; have hco : w6.cell? ⟨gout, 0, none⟩ = some (.slice none 0 0) := (blk_cell BO2.out 0).trans rfl; have hfo := blk_frozen BO2.out 0; have hcw : w6.cell? ⟨gown, 0, none⟩ = some (.slice none 0 0) := (blk_cell BW.out 0).trans rfl; have hfw := blk_frozen BW.out 0; have hne1 : gout ≠ gown := (by have := GW.out; have := LO.out; omega); have hne2 : gown ≠ gout := Ne.symm hne1) | ((with_reducible refine gd_ 5 ?_); refine bx_ 5 #[.nilFunc] 173 ?_; intro gr hg w7 hbox hb; have HT := Two.Two.start (X := [(gn, .cells #[.int .i64 a0] 3 (0, 0))]) (w0 := w) (T := 100) (T' := 88) HB5.out (by have := GO.out; have := GW.out; have := GN.out; have := LN.out; have := LN2.out; have := L2_.out; have := L3.out; have := LO.out; omega) (by have := GO.out; have := GW.out; have := GN.out; have := LN.out; have := LN2.out; have := L2_.out; have := L3.out; have := LO.out; omega) (fun p hp => by rw [List.mem_singleton.1 hp]; exact GN.out) hne1 (fun p hp => by rw [List.mem_singleton.1 hp]; have := GO.out; have := GW.out; have := GN.out; have := LN.out; have := LN2.out; have := L2_.out; have := L3.out; have := LO.out; exact ⟨by simp only []; omega, by simp only []; omega⟩) (Kd.S_mono (Kd.S_lower SO4.out (by have := GO.out; have := GW.out; have := GN.out; have := LN.out; have := LN2.out; have := L2_.out; have := L3.out; have := LO.out; omega)) (fun k hk => ⟨fun he => by have := (RO3.out.1 k he.symm).1; omega, by rintro (rfl | rfl | ⟨p, hp, rfl⟩) <;> first | (have := GO.out; have := GW.out; have := GN.out; have := LN.out; have := LN2.out; have := L2_.out; have := L3.out; have := LO.out; omega) | (rw [List.mem_singleton.1 hp] at hk; have := GO.out; have := GW.out; have := GN.out; have := LN.out; have := LN2.out; have := L2_.out; have := L3.out; have := LO.out; simp only [] at hk; omega)⟩)) (Kd.R_mono (Kd.R_lower RO3.out (by have := GO.out; have := GW.out; have := GN.out; have := LN.out; have := LN2.out; have := L2_.out; have := L3.out; have := LO.out; omega)) (fun k hk => by rintro (rfl | rfl | ⟨p, hp, rfl⟩) <;> first | (have := GO.out; have := GW.out; have := GN.out; have := LN.out; have := LN2.out; have := L2_.out; have := L3.out; have := LO.out; omega) | (rw [List.mem_singleton.1 hp] at hk; have := GO.out; have := GW.out; have := GN.out; have := LN.out; have := LN2.out; have := L2_.out; have := L3.out; have := LO.out; simp only [] at hk; omega))) BO2.out BW.out (fun p hp => by rw [List.mem_singleton.1 hp]; exact BN5.out); have HG := Aside0.mk (HT.addX hb hbox (by rw [hg]; exact Nat.le_refl _)); have HNG := Aside0.mk (show gn ≠ gr from by rw [hg]; have := blk_lt (HT.bx (gn, _) (List.mem_singleton.2 rfl)); simp only [] at this; omega); have hcg : w7.cell? ⟨gr, 0, none⟩ = some .nilFunc := (blk_cell hbox 0).trans rfl; have hfg := blk_frozen hbox 0; clear HT hg hbox hb hco hfo hcw hfw hne1 hne2 HB5 BO2 BW BN5 SO4 RO3) | ((with_reducible refine gate_store (t := 173) (p := 5) rfl ?_); refine store_event (t := 173) (p := 5) (v := ?vo_s) (w1 := (w7.setCell ⟨gr, 0, none⟩ (.func (.func 180) #[] #[.pointer (some ⟨gn, 0, none⟩), .pointer (some ⟨gown, 0, none⟩), .pointer (some ⟨gout, 0, none⟩), .pointer (some ⟨gr, 0, none⟩)]))) ?hg ?ho ?hn ?hr ?_; (case ho => rfl); (case hg => rfl); (case hn => rfl); (case hr => (go_simp; simp only [Go.Proofs.Ytkddpilambnicaa.Two.run_store_func]; first | done | (go_simp; done) | (go_simp; rfl))); intro w8 hw; have HT2 : Aside0 (impl_FootingsOf.T2 w w8 (impl_FootingsOf.B gn gr gout gown a0) gout gown (.slice Ao y1.length co) (.slice Aw y2.length cw) y1 y2) := ⟨by rw [hw]; exact HG.out.setX (fun p hp => by rw [List.mem_singleton.1 hp]; exact HNG.out)⟩; clear hw HG hcg hfg; have hcr : w8.cell? ⟨gr, 0, none⟩ = some (.func (.func 180) #[] #[.pointer (some ⟨gn, 0, none⟩), .pointer (some ⟨gown, 0, none⟩), .pointer (some ⟨gout, 0, none⟩), .pointer (some ⟨gr, 0, none⟩)]) := (blk_cell (HT2.out.bx (gr, _) (List.mem_cons_self ..)) 0).trans rfl) | (go_at_call 180; refine (impl_FootingsOf.rest_calls k gn gr gout gown a0 (impl_FootingsOf.B gn gr gout gown a0) (fun _ h_ => h_) _ _ y2 y1 r 0 w _ HT2.out A2.out).mono ?_; rintro e w9 ⟨rfl, vo5, vw5, HT5⟩; clear HT2 hcr; obtain ⟨Aq, cq, eq_⟩ := Kd.S_slice HT5.so; subst eq_; have HT4 := Aside0.mk HT5; clear HT5; have hcq : w9.cell? ⟨gout, 0, none⟩ = some (.slice Aq r.length cq) := (blk_cell HT4.out.bo 0).trans rfl))
  go_ret
  exact ⟨_, rfl, Kd.S_mono HT4.out.so (fun _ _ => trivial), HT4.out.hb⟩

/-! ### impl_footProfiles: function 133 -/
def impl_footProfiles.l0 : Nat → List (List Int) → List (S90) → Int → Int → Option ((List (List Int)))
 | 0, _, _, _, _ => none
 | k + 1, x3, x8, x9, x10 => if x10 < x9 then (if 0 ≤ x10 then (if x10 < (x8.length : Int) then ((impl_footProfile.f k ((rd_T90 x8 x10).f0) ((rd_T90 x8 x10).f1) ((rd_T90 x8 x10).f2)).bind fun t409 => (if x3.length < 5864062014805 then (impl_footProfiles.l0 k (x3 ++ [t409]) x8 x9 (wrap64 (x10 + 1))) else (none))) else (none)) else (none)) else (some x3)
def impl_footProfiles.f (k : Nat) (a0 : Int) : Option ((List (List Int))) := (impl_FootingsOf.f k a0).bind fun t404 => (impl_footProfiles.l0 k (([] : List (List Int))) t404 (t404.length : Int) 0)
set_option maxHeartbeats 8000000 in
set_option maxRecDepth 100000 in
theorem impl_footProfiles.calls (k : Nat) (a0 : Int) (r : List (List Int)) (w : World) (h : impl_footProfiles.f k a0 = some r) :
  Calls Try.prog 133 #[.int .i64 a0] w fun e w' => ∃ v0_ : Value, e = .returned (v0_) ∧ Kd.S (Kd.slice 3 (Kd.int .i64)) 25 w' w.heap.size (fun _ => True) v0_ r ∧ Below w.heap.size w w' := by
 have hu90 := Try.underlying90
 have HB := Aside0.mk (Below.refl w.heap.size w)
 have H : ((impl_FootingsOf.f k a0).bind fun t404 => (impl_footProfiles.l0 k (([] : List (List Int))) t404 (t404.length : Int) 0)) = some r := h
 clear h
 obtain ⟨y401, hy401⟩ : ∃ y_ : List (List Int), y_ = (([] : List (List Int))) := ⟨_, rfl⟩
 replace H : ((impl_FootingsOf.f k a0).bind fun t404 => (impl_footProfiles.l0 k y401 t404 (t404.length : Int) 0)) = some r := rh_ hy401 H
 have Ny401 := Aside0.mk hy401
 clear hy401
 replace H := bnd_ H; obtain ⟨t404, A2, H⟩ := H
 have H' := Aside0.mk H
 clear H
 go_enter Try.func133, Try.ntmps133
 go_wp2_with (first | ((with_reducible refine gd_ 6 ?_); refine Kd.S_lit (Kd.slice 3 (Kd.int .i64)) _ 25 ?hg (N := 6) ?hd (xs := ([] : List (List Int))) (inner := []) (ok := fun _ => True) (okp := fun _ => True) ?hr ?hp (fun _ hk => hk) trivial (Below.refl _ _) (Nat.le_refl _) (by simp) ?_; (case hd => rfl); (case hg => rfl); (case hr => first | (go_simp; done) | (go_simp; rfl)); (case hp => exact (Reps.none _ _)); intro v402 w3 ho4 hb hg_ hnew_; clear hg_ hnew_; (first | rw [← Ny401.out] at ho4 | (simp only [Int.reduceToNat] at ho4; rw [← Ny401.out] at ho4)); have HO403 := Aside0.mk (Kd.S_lower ho4 (below_size (up_ HB.out))); replace HB := bs_ HB hb; clear hb ho4) | ((with_reducible refine gc_ 138 ?_); refine gl_ (some 8) Try.func138 (impl_FootingsOf.calls k a0 t404 _ A2.out) ?_; rintro e w5 ⟨v405, rfl, ho0, hb⟩; refine ⟨_, rfl, ?_⟩; replace HO403 := Aside0.mk (Kd.S_below (up_ HO403.out) hb); have HO406 := Aside0.mk (Kd.S_lower ho0 (below_size (up_ HB.out))); replace HB := bs_ HB hb; (try clear hb); (try clear hb2); (try clear hk); (try clear hi); (try clear ho0); obtain ⟨Ao6, co6, eo6⟩ := Kd.S_slice HO406.out; subst eo6))
 go_loopg [3, 10] k (fun kq v3 v10 w' => ∃ (x3_1 : List (List Int)) (x10_1 : Int), v10 = .int .i64 x10_1 ∧ Aside0 (impl_footProfiles.l0 kq x3_1 t404 (t404.length : Int) x10_1 = some r) ∧ Aside0 (kq ≤ k) ∧ Aside0 (Kd.S (Kd.slice 3 (Kd.int .i64)) 25 w' w.heap.size (fun _ => True) v3 x3_1) ∧ Aside0 (Kd.S k90 90 w' w.heap.size (fun _ => True) (.slice Ao6 t404.length co6) t404) ∧ Aside0 (Below w.heap.size w w'))
 case atStart => exact ⟨(y401), (0), rs_, H', ⟨Nat.le_refl _⟩, ⟨up_ HO403.out⟩, ⟨up_ HO406.out⟩, ⟨up_ HB.out⟩⟩
 case round =>
  clear H'
  try clear c1
  try clear p2
  obtain ⟨x3_1, x10_1, rfl, HA, HK1, HO_3, HO_8, HB⟩ := hrel
  cases gk with
  | zero => exact absurd HA.out (by simp [impl_footProfiles.l0])
  | succ k1 =>
   have H := HA.out
   clear HA
   simp only [impl_footProfiles.l0] at H
   replace H := its_ H; rcases H with ⟨c7b0, H⟩ | ⟨c7b0, H⟩
   ·replace H := its_ H; rcases H with ⟨c8b0, H⟩ | ⟨_, ⟨⟩⟩
    replace H := its_ H; rcases H with ⟨c9b0, H⟩ | ⟨_, ⟨⟩⟩
    replace H := bnd_ H; obtain ⟨t409, A10, H⟩ := H
    by_cases c11 : x3_1.length < 5864062014805
    ·rw [if_pos c11] at H
     have LMc11 := Aside0.mk c11
     clear c11
     obtain ⟨y412, hy412⟩ : ∃ y_ : List (List Int), y_ = (x3_1 ++ [t409]) := ⟨_, rfl⟩
     replace H : (impl_footProfiles.l0 k1 y412 t404 (t404.length : Int) (wrap64 (x10_1 + 1))) = some r := rh_ hy412 H
     have Ny412 := Aside0.mk hy412
     clear hy412
     have H' := Aside0.mk H
     clear H
     have p407 : 0 ≤ (x10_1 : Int) := od_
     have q407 : x10_1 < (t404.length : Int) := od_
     obtain ⟨ad407, A407_1, c407_1, e407, hx407_0, hx407_1, hx407_2, hl407_1, hi407_1⟩ := at_T90 (Kd.S_reads' HO_8.out).2.2 x10_1 p407 q407
     cases e407
     obtain ⟨ce407, hce407, hMe407, hcc407⟩ := Kd.S_get HO_8.out z90 x10_1 p407 (by first | exact q407 | exact od_ | (have e_ := (Kd.S_reads' HO_8.out).1; omega))
     obtain ⟨ve407_1, rfl, ge407_1⟩ := k90_openM hMe407
     have hv407_1 := hcc407 1 _ rfl
     rw [add_field _ _ 1 (by omega)] at hv407_1
     replace hv407_1 := Option.some.inj (hv407_1.symm.trans hx407_1)
     rw [hv407_1] at ge407_1
     have HL407_1 := Aside0.mk (show Kd.R k166 166 _ _ _ _ ((rd_T90 t404 x10_1).f1) from ge407_1)
     clear hv407_1 ge407_1
     clear hcc407 hce407
     have HR407_1 := Aside0.mk hi407_1
     have HC407_1 := Aside0.mk hl407_1
     clear hi407_1 hl407_1
     replace p407 := eq_true p407
     replace q407 := eq_true q407
     go_wp2_with (first | ((with_reducible refine gd_ 5 ?_); refine bx_ 5 #[.int .i64 0, .slice none 0 0, .int .i64 0] 90 ?_; intro gb408 hg w12 hbox hb; replace HO_3 := Aside0.mk (Kd.S_below (up_ HO_3.out) hb); replace HO_8 := Aside0.mk (Kd.S_below (Kd.S_elderB (up_ HO_8.out) gb408 (Nat.le_of_eq hg.symm)) hb); replace HL407_1 := Aside0.mk (Kd.R_below (up_ HL407_1.out) hb); replace HR407_1 := Aside0.mk (Kd.C_below (up_ HR407_1.out) hb); have BK408 := Aside0.mk (hbox); have GW408 := gw_ HB hg; have GE408 := gw_ HB hg; replace HB := bs_ HB hb; clear hb hbox hg; obtain ⟨hcz13_0, hcz13_1, hcz13_2⟩ := c3_ BK408; have hfz13_0 := blk_frozen BK408.out 0; have hfz13_1 := blk_frozen BK408.out 1; have hfz13_2 := blk_frozen BK408.out 2) | ((with_reducible refine gc_ 132 ?_); refine goesL_ (some 16) rfl rfl Try.func132 (by kernel_rfl) rfl #[.agg #[.int .i64 ((rd_T90 t404 x10_1).f0), .slice A407_1 ((rd_T90 t404 x10_1).f1).length c407_1, .int .i64 ((rd_T90 t404 x10_1).f2)]] rfl am_ ?_; (with_reducible refine (impl_footProfile.calls k1 ((rd_T90 t404 x10_1).f0) _ _ ((rd_T90 t404 x10_1).f1) ((rd_T90 t404 x10_1).f2) t409 _ ?side1 ?side2 A10.out).mono ?_); (case side1 => repeat (first | exact ((Kd.R_reads' (by (with_reducible repeat (first | apply Kd.R_alloc | apply Kd.R_drewN | apply Kd.R_drew)); exact (Kd.R_mono (Kd.R_far (p := ⟨gb408, 2, none⟩) (Kd.R_far (p := ⟨gb408, 1, none⟩) (Kd.R_far (p := ⟨gb408, 0, none⟩) (Kd.R_types HL407_1.out BK408.out (by decide)) (fun _ hk => hk.2) (.int .i64 ((rd_T90 t404 x10_1).f0))) (fun _ hk => hk.2) (.slice A407_1 ((rd_T90 t404 x10_1).f1).length c407_1)) (fun _ hk => hk.2) (.int .i64 ((rd_T90 t404 x10_1).f2))) (fun _ h_ => h_.1)))).2.2) | (with_reducible refine Kd.C_alloc ?_ _) | (with_reducible refine Kd.C_drewN ?_ _) | (with_reducible refine Kd.C_drew ?_))); (case side2 => exact HC407_1.out); rintro e w14 ⟨v410, rfl, ho0, hb⟩; refine ⟨_, rfl, ?_⟩; replace HO_3 := Aside0.mk (Kd.S_elder' (by (with_reducible repeat (first | apply Kd.S_alloc | apply Kd.S_drewN | apply Kd.S_drew)); exact (Kd.S_mono (Kd.S_far (p := ⟨gb408, 2, none⟩) (Kd.S_far (p := ⟨gb408, 1, none⟩) (Kd.S_far (p := ⟨gb408, 0, none⟩) (Kd.S_types HO_3.out BK408.out (by decide)) (fun _ hk => hk.2) (.int .i64 ((rd_T90 t404 x10_1).f0))) (fun _ hk => hk.2) (.slice A407_1 ((rd_T90 t404 x10_1).f1).length c407_1)) (fun _ hk => hk.2) (.int .i64 ((rd_T90 t404 x10_1).f2))) (fun _ h_ => h_.1))) (Kd.R_base ho0) hb); replace HO_8 := Aside0.mk (Kd.S_below (by (with_reducible repeat (first | apply Kd.S_alloc | apply Kd.S_drewN | apply Kd.S_drew)); exact (Kd.S_mono (Kd.S_far (p := ⟨gb408, 2, none⟩) (Kd.S_far (p := ⟨gb408, 1, none⟩) (Kd.S_far (p := ⟨gb408, 0, none⟩) (Kd.S_mono HO_8.out (fun k_ hk => (⟨hk, hk.2⟩ : _ ∧ k_ ≠ gb408))) (fun _ hk => hk.2) (.int .i64 ((rd_T90 t404 x10_1).f0))) (fun _ hk => hk.2) (.slice A407_1 ((rd_T90 t404 x10_1).f1).length c407_1)) (fun _ hk => hk.2) (.int .i64 ((rd_T90 t404 x10_1).f2))) (fun _ h_ => h_.1))) hb); have HO411 := Aside0.mk (Kd.R_lower ho0 (below_size (up_ HB.out))); replace HR407_1 := Aside0.mk (Kd.C_below ((Kd.R_reads' (by (with_reducible repeat (first | apply Kd.R_alloc | apply Kd.R_drewN | apply Kd.R_drew)); exact (Kd.R_mono (Kd.R_far (p := ⟨gb408, 2, none⟩) (Kd.R_far (p := ⟨gb408, 1, none⟩) (Kd.R_far (p := ⟨gb408, 0, none⟩) (Kd.R_types HL407_1.out BK408.out (by decide)) (fun _ hk => hk.2) (.int .i64 ((rd_T90 t404 x10_1).f0))) (fun _ hk => hk.2) (.slice A407_1 ((rd_T90 t404 x10_1).f1).length c407_1)) (fun _ hk => hk.2) (.int .i64 ((rd_T90 t404 x10_1).f2))) (fun _ h_ => h_.1)))).2.2) hb); replace HL407_1 := Aside0.mk (Kd.R_below (by (with_reducible repeat (first | apply Kd.R_alloc | apply Kd.R_drewN | apply Kd.R_drew)); exact (Kd.R_mono (Kd.R_far (p := ⟨gb408, 2, none⟩) (Kd.R_far (p := ⟨gb408, 1, none⟩) (Kd.R_far (p := ⟨gb408, 0, none⟩) (Kd.R_types HL407_1.out BK408.out (by decide)) (fun _ hk => hk.2) (.int .i64 ((rd_T90 t404 x10_1).f0))) (fun _ hk => hk.2) (.slice A407_1 ((rd_T90 t404 x10_1).f1).length c407_1)) (fun _ hk => hk.2) (.int .i64 ((rd_T90 t404 x10_1).f2))) (fun _ h_ => h_.1))) hb); replace BK408 := Aside0.mk (blk_below (g := gb408) (o := .cells #[.int .i64 ((rd_T90 t404 x10_1).f0), .slice A407_1 ((rd_T90 t404 x10_1).f1).length c407_1, .int .i64 ((rd_T90 t404 x10_1).f2)] 90 (0, 0)) (by (with_reducible repeat (first | refine blk_drewN ?_ _ | refine blk_drew ?_ | refine blk_alloc ?_ _)); refine blk_put (cs := #[.int .i64 ((rd_T90 t404 x10_1).f0), .slice A407_1 ((rd_T90 t404 x10_1).f1).length c407_1, .int .i64 0]) ?_ 2 _ rfl; (with_reducible repeat (first | refine blk_drewN ?_ _ | refine blk_drew ?_ | refine blk_alloc ?_ _)); refine blk_put (cs := #[.int .i64 ((rd_T90 t404 x10_1).f0), .slice none 0 0, .int .i64 0]) ?_ 1 _ rfl; (with_reducible repeat (first | refine blk_drewN ?_ _ | refine blk_drew ?_ | refine blk_alloc ?_ _)); refine blk_put (cs := #[.int .i64 0, .slice none 0 0, .int .i64 0]) ?_ 0 _ rfl; (with_reducible repeat (first | refine blk_drewN ?_ _ | refine blk_drew ?_ | refine blk_alloc ?_ _)); exact BK408.out) hb); replace HB := bs_ HB hb; (try clear hb); (try clear hb2); (try clear hk); (try clear hi); (try clear ho0); obtain ⟨Ao16, co16, eo16⟩ := Kd.R_slice HO411.out; subst eo16) | ((with_reducible refine gate_builtin (b := .append) (xs := #[.tmp 14, .tmp 17]) rfl ?_); at_builtin; refine Kd.S_append (Kd.slice 3 (Kd.int .i64)) (w0 := w) w.heap.size rfl (.tmp 14) (.tmp 17) 22 25 (.slice none 0 0) 24 rfl Try.underlying22 info25 rfl (by decide) (by omega) u3 x3_1 t409 [.slice Ao16 t409.length co16] (fun _ => True) (fun k_ => some k_ = (.slice Ao16 t409.length co16 : Value).ownBlock) rfl rfl ?aP (fun k_ hk_ => ((Kd.R_mono (ok' := fun k_ => ((fun _ => True)) k_ ∧ some k_ ≠ (u3 : Value).ownBlock) (Kd.R_apart' (HO411.out) (Kd.S_typed HO_3.out) (by decide)) (fun k_ hk => ⟨trivial, hk.2⟩))).1 k_ hk_.symm) ?aF ?aO ?aB ?aS ?aL ?_; (case aP => exact Kd.M_row (Kd.R_mono (Kd.R_tight rfl (Kd.R_mono (ok' := fun k_ => ((fun _ => True)) k_ ∧ some k_ ≠ (u3 : Value).ownBlock) (Kd.R_apart' (HO411.out) (Kd.S_typed HO_3.out) (by decide)) (fun k_ hk => ⟨trivial, hk.2⟩))) (fun _ h_ => h_))); (case aB => exact (up_ HB.out)); (case aF => exact (fun _ _ => trivial)); (case aO => exact (by (with_reducible repeat (first | apply Kd.S_alloc | apply Kd.S_drewN | apply Kd.S_drew)); exact Kd.S_mono HO_3.out (fun k_ hk => ⟨trivial, fun e_ => hk.2 e_⟩))); (case aS => exact (below_size (up_ HB.out))); (case aL => have := LMc11.out; omega); intro v413 w15 ho hb hg hat; rw [← Ny412.out] at ho; have n0_ := Aside0.mk (Kd.S_over' (up_ HO_8.out) (Kd.S_typed (up_ HO_3.out)) (by decide) hg); have n1_ := Aside0.mk (Kd.R_over' (up_ HL407_1.out) (Kd.S_typed (up_ HO_3.out)) (by decide) hg); have n2_ := Aside0.mk (blk_grown (g := gb408) (o := .cells #[.int .i64 ((rd_T90 t404 x10_1).f0), .slice A407_1 ((rd_T90 t404 x10_1).f1).length c407_1, .int .i64 ((rd_T90 t404 x10_1).f2)] 90 (0, 0)) (up_ BK408.out) hg (Kd.S_ne HO_3.out BK408.out (by decide))); have n3_ := Aside0.mk (hb); have n4_ := Aside0.mk (ho); clear HO_8; clear HL407_1; clear BK408; clear HB; clear HO_3; clear HO411; have HO_8 := n0_; have HL407_1 := n1_; have BK408 := n2_; have HB := n3_; have HO414 := n4_; clear n0_ n1_ n2_ n3_ n4_; clear ho hb hg hat))
     go_roundg k1
     case measure => have := HK1.out; omega
     case rel => exact ⟨(y412), (wrap64 (x10_1 + 1)), rs_, H', ⟨by have := HK1.out; omega⟩, ⟨up_ HO414.out⟩, ⟨by (with_reducible repeat (first | apply Kd.S_alloc | apply Kd.S_drewN | apply Kd.S_drew)); exact Kd.S_mono HO_8.out (fun _ hk => trivial)⟩, ⟨up_ HB.out⟩⟩
    ·rw [if_neg c11] at H
     exact absurd H (by simp)
   ·obtain rfl := Option.some.inj H
    go_wp2
    go_ret
    exact ⟨_, re_, by (with_reducible repeat (first | apply Kd.S_alloc | apply Kd.S_drewN | apply Kd.S_drew)); exact HO_3.out, up_ HB.out⟩

end Go.Proofs.Ytkddpilambnicaa.PFnExactFootRows
