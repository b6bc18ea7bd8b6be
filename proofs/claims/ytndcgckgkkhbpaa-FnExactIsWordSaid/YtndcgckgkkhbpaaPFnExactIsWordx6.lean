/- Walks of Go functions that the law FnExactIsWord uses: written by this session's program out of the kit's printer; each shows that a call comes to the answers of the Lean function beside it. Conditions: each contract's own. -/
import Derived.Test.YtndcgckgkkhbpaaPFnExactIsWordx0
import Derived.Test.YtndcgckgkkhbpaaPFnExactIsWordx4
import Derived.Test.YtndcgckgkkhbpaaPFnExactIsWordx5
namespace Go.Proofs.Ytndcgckgkkhbpaa.PFnExactIsWord
open Go.RowKit Go.Proofs.YtndcgckgkkhbpaaW.PrintWords Go.Proofs.YtndcgckgkkhbpaaW.PrintLast Go.Proofs.YtndcgckgkkhbpaaW.PrintMore
attribute [local go_sem] max2_int min2_int max_two min_two max_three min_three max_four min_four   -- for this text's walks alone
set_option linter.unusedVariables false
set_option linter.unusedSimpArgs false

/-! ### impl_FootingsOf: function 150 -/
def impl_FootingsOf.each : Nat → Int → Int → Int → List S164 → List S80 → Option (List S80)
  | 0, _, _, _, _, _ => none
  | k + 1, n, len, m, own, outs => if m < len then ((impl_Foot.f own).bind fun t => if outs.length < 3518437208883 then impl_FootingsOf.each k n len (wrap64 (m + 1)) own (outs ++ [(⟨n, t, m⟩ : S80)]) else none) else some outs
mutual
def impl_FootingsOf.rest : Nat → Int → Int → List S164 → List S80 → Option (List S80)
  | 0, _, _, _, _ => none
  | k + 1, n, s, own, outs => if s = n then impl_FootingsOf.each k n (own.length : Int) 0 own outs else ((impl_FootingsOf.rest k n (wrap64 (s + 1)) own outs).bind fun o => impl_FootingsOf.loop k n s [(⟨s, 1, 0⟩ : S164), (⟨s, 2, 0⟩ : S164), (⟨s, 2, 1⟩ : S164)] own o 0)
def impl_FootingsOf.loop : Nat → Int → Int → List S164 → List S164 → List S80 → Int → Option (List S80)
  | 0, _, _, _, _, _, _ => none
  | k + 1, n, s, row, own, outs, i => if i < (row.length : Int) then (if 0 ≤ i then (if (wrap64 (s + (rd_T164 row i).f1)) ≤ n then (if own.length < 5864062014805 then ((impl_FootingsOf.rest k n (wrap64 (s + (rd_T164 row i).f1)) (own ++ [(⟨(rd_T164 row i).f0, (rd_T164 row i).f1, (rd_T164 row i).f2⟩ : S164)]) outs).bind fun o => impl_FootingsOf.loop k n s row own o (wrap64 (i + 1))) else none) else impl_FootingsOf.loop k n s row own outs (wrap64 (i + 1))) else none) else some outs
end
def impl_FootingsOf.f (k : Nat) (a0 : Int) : Option (List S80) := (impl_within.f a0 1 4).bind fun t => if t = true then impl_FootingsOf.rest k a0 0 [] [] else some []
theorem impl_FootingsOf.mono_e : ∀ k y0 y1 y2 y3 y4, LeO (impl_FootingsOf.each k y0 y1 y2 y3 y4) (impl_FootingsOf.each (k + 1) y0 y1 y2 y3 y4)
  | 0 => fun _ _ _ _ _ r h => by simp [impl_FootingsOf.each] at h
  | k + 1 => by
    intro y0 y1 y2 y3 y4
    unfold impl_FootingsOf.each
    exact LeO.ite (LeO.bind (LeO.refl _) (fun _ => LeO.ite (impl_FootingsOf.mono_e k _ _ _ _ _) (LeO.none _))) (LeO.refl _)
theorem impl_FootingsOf.mono_l : ∀ k, (∀ y0 y1 y2 y3, LeO (impl_FootingsOf.rest k y0 y1 y2 y3) (impl_FootingsOf.rest (k + 1) y0 y1 y2 y3)) ∧ (∀ y0 y1 y2 y3 y4 y5, LeO (impl_FootingsOf.loop k y0 y1 y2 y3 y4 y5) (impl_FootingsOf.loop (k + 1) y0 y1 y2 y3 y4 y5))
  | 0 => ⟨fun _ _ _ _ r h => by simp [impl_FootingsOf.rest] at h, fun _ _ _ _ _ _ r h => by simp [impl_FootingsOf.loop] at h⟩
  | k + 1 => by
    obtain ⟨ih0, ih1⟩ := impl_FootingsOf.mono_l k
    refine ⟨?_, ?_⟩
    · intro y0 y1 y2 y3
      unfold impl_FootingsOf.rest
      exact LeO.ite (impl_FootingsOf.mono_e k _ _ _ _ _) (LeO.bind (ih0 _ _ _ _) (fun _ => ih1 _ _ _ _ _ _))
    · intro y0 y1 y2 y3 y4 y5
      unfold impl_FootingsOf.loop
      exact LeO.ite (LeO.ite (LeO.ite (LeO.ite (LeO.bind (ih0 _ _ _ _) (fun _ => ih1 _ _ _ _ _ _)) (LeO.none _)) (ih1 _ _ _ _ _ _)) (LeO.none _)) (LeO.refl _)
theorem impl_FootingsOf.mono : ∀ a0 k, LeO (impl_FootingsOf.f k a0) (impl_FootingsOf.f (k + 1) a0) := by
  intro a0 k
  unfold impl_FootingsOf.f
  exact LeO.bind (LeO.refl _) (fun _ => LeO.ite ((impl_FootingsOf.mono_l k).1 _ _ _ _) (LeO.refl _))
/-- The captured variables. -/
def impl_FootingsOf.B (gn gr gout gown : Nat) (n : Int) : List (Nat × Obj) := [(gr, .cells #[.func (.func 195) #[] #[.pointer (some ⟨gn, 0, none⟩), .pointer (some ⟨gown, 0, none⟩), .pointer (some ⟨gout, 0, none⟩), .pointer (some ⟨gr, 0, none⟩)]] 177 (0, 0)), (gn, .cells #[.int .i64 n] 3 (0, 0))]
abbrev impl_FootingsOf.T2 (w0 w : World) (X : List (Nat × Obj)) (gout gown : Nat) (vo vw : Value) (outs : List S80) (own : List S164) : Prop := Two.Two k80 80 109 k164 164 78 w0 w X gout gown vo vw outs own
def impl_FootingsOf.Post (w0 : World) (X : List (Nat × Obj)) (gout gown : Nat) (r : List S80) (own : List S164) (e : Ending) (w' : World) : Prop := e = .returned (.tuple #[]) ∧ ∃ vo vw, impl_FootingsOf.T2 w0 w' X gout gown vo vw r own
def impl_FootingsOf.T4 : Bool × List (List Nat × List Nat) := (true, [([], []), ([], []), ([], []), ([2], [2]), ([], []), ([1, 3, 4], [1, 3, 4]), ([5], [5]), ([0, 6, 3], [0, 6]), ([7, 7, 0, 1, 2, 3, 4, 5, 6, 7], [7])])
def impl_FootingsOf.B4 : List Nat := [0, 0, 0, 4, 0, 30, 62, 127, 255]
theorem impl_FootingsOf.tab4 : rtab .any (opsOf Try.f195 4) = impl_FootingsOf.T4 := by kernel_rfl
theorem impl_FootingsOf.bits4 : waitsOk impl_FootingsOf.T4.2 impl_FootingsOf.B4 = true := by kernel_rfl
set_option maxHeartbeats 8000000 in
set_option maxRecDepth 100000 in
theorem impl_FootingsOf.rest_calls (k : Nat) : ∀ (gn gr gout gown : Nat) (n : Int) (X : List (Nat × Obj)) (hX : ∀ p ∈ impl_FootingsOf.B gn gr gout gown n, p ∈ X) (vo vw : Value) (own : List S164) (outs r : List S80) (s : Int) (w0 w : World) (hT : impl_FootingsOf.T2 w0 w X gout gown vo vw outs own) (h : impl_FootingsOf.rest k n s own outs = some r),
    Calls Try.prog 195 #[.int .i64 s, .pointer (some ⟨gn, 0, none⟩), .pointer (some ⟨gown, 0, none⟩), .pointer (some ⟨gout, 0, none⟩), .pointer (some ⟨gr, 0, none⟩)] w (impl_FootingsOf.Post w0 X gout gown r own) := by
  have huG := Try.underlying80
  have huT := Try.underlying164
  induction k using Nat.strongRecOn with
  | _ k ih =>
  intro gn gr gout gown n X hX vo vw own outs r s w0 w hT h
  cases k with
  | zero => exact absurd h (by simp [impl_FootingsOf.rest])
  | succ k =>
  simp only [impl_FootingsOf.rest] at h
  obtain ⟨Ao, co, rfl⟩ := Kd.S_slice hT.so
  obtain ⟨Aw, cw, rfl⟩ := Kd.R_slice hT.ro
  have HT := Aside0.mk hT
  clear hT
  have HI := Aside0.mk ih
  clear ih
  have HX := Aside0.mk hX
  clear hX
  have hbn : (gn, Obj.cells #[.int .i64 n] 3 (0, 0)) ∈ X := HX.out _ (List.mem_cons_of_mem _ (List.mem_cons_self ..))
  have HBN := Aside0.mk hbn
  clear hbn
  have hbr : (gr, Obj.cells #[.func (.func 195) #[] #[.pointer (some ⟨gn, 0, none⟩), .pointer (some ⟨gown, 0, none⟩), .pointer (some ⟨gout, 0, none⟩), .pointer (some ⟨gr, 0, none⟩)]] 177 (0, 0)) ∈ X := HX.out _ (List.mem_cons_self ..)
  have HBR := Aside0.mk hbr
  clear hbr
  by_cases c2 : s = n
  · rw [if_pos c2] at h
    have c2b0 : (s == n) = true := beq_iff_eq.mpr c2
    have c2b1 : (s != n) = false := bne_eq_false_iff_eq.mpr c2
    clear c2
    have H' := Aside0.mk h
    clear h
    have hcw : w.cell? ⟨gown, 0, none⟩ = some (.slice Aw own.length cw) := (blk_cell HT.out.bw 0).trans rfl
    have hcn : w.cell? ⟨gn, 0, none⟩ = some (.int .i64 n) := (blk_cell (HT.out.bx _ HBN.out) 0).trans rfl
    go_enter Try.func195, Try.ntmps195
    go_wp2
    go_loopg [14] k (fun kq v14 w' => ∃ (m : Int) (o : List S80) (vo : Value), v14 = .int .i64 m ∧ Aside0 (impl_FootingsOf.each kq n (own.length : Int) m own o = some r) ∧ Aside0 (kq ≤ k) ∧ Aside0 (impl_FootingsOf.T2 w0 w' X gout gown vo (.slice Aw own.length cw) o own))
    case atStart => exact ⟨0, outs, _, (by first | rfl | (simp; done)), H', ⟨Nat.le_refl _⟩, ⟨by first | exact HT.out | exact HT.out.drewN _⟩⟩
    case round =>
      clear H' hcw hcn HT c2b0 c2b1
      obtain ⟨m, o, vo, rfl, HA, HK1, HT⟩ := hrel
      cases gk with
      | zero => exact absurd HA.out (by simp [impl_FootingsOf.each])
      | succ k1 =>
        have H := HA.out
        clear HA
        simp only [impl_FootingsOf.each] at H
        obtain ⟨Ao, co, rfl⟩ := Kd.S_slice HT.out.so
        by_cases c3 : m < (own.length : Int)
        · rw [if_pos c3] at H
          have c3b0 : decide (m < (own.length : Int)) = true := decide_eq_true c3
          clear c3
          obtain ⟨t, A30, H⟩ := Option.bind_eq_some_iff.mp H
          have A3 := Aside0.mk A30
          clear A30
          by_cases c4 : o.length < 3518437208883
          · rw [if_pos c4] at H
            have LM := Aside0.mk c4
            clear c4
            obtain ⟨y, hy⟩ : ∃ y_ : List S80, y_ = o ++ [(⟨n, t, m⟩ : S80)] := ⟨_, rfl⟩
            rw [← hy] at H
            have Ny := Aside0.mk hy
            clear hy
            have H' := Aside0.mk H
            clear H
            try go_wp2
            have HT1 := Aside0.mk HT.out.drew
            clear HT
            refine start_ (n := 9) (S := fun w' => w'.cell? ⟨gout, 0, none⟩ = some (.slice Ao o.length co) ∧ w'.cell? ⟨gn, 0, none⟩ = some (.int .i64 n) ∧ w'.cell? ⟨gown, 0, none⟩ = some (.slice Aw own.length cw)) (ds := [8]) #[false, false, false, false, false, false, false, false, false] (by kernel_rfl) rfl rfl ⟨(blk_cell HT1.out.bo 0).trans rfl, (blk_cell (HT1.out.bx _ HBN.out) 0).trans rfl, (blk_cell HT1.out.bw 0).trans rfl⟩ (fun hHeld => ?_); refine with_tabW impl_FootingsOf.tab4 impl_FootingsOf.bits4 (fun HT_ HW_ => ?_)
            generalize wr.drew = w21 at HT1 hHeld ⊢
            refine pure_ (i := 4) (N := some 21) (v := ?_) (a' := ?_) #[false, false, false, false, true, false, false, false, false] rfl rfl (any_of HT_.out (by kernel_rfl)) (fun _ _ _ h => h) (Or.inl ⟨by rfl, ?_⟩) ?_ ?_
            rotate_left
            · intro w'
              go_simp
              with_reducible rfl
            rotate_left
            · simp only [Act.put, List.setIfInBounds_toArray, List.set_cons_zero, List.set_cons_succ, i64_w, i32_w]
              rfl
            refine take_ (i := 0) (N := some 17) (v := ?_) (a' := ?_) #[true, false, false, false, true, false, false, false, false] rfl rfl (take_ofW HT_.out HW_.out (by kernel_rfl)) (fun _ _ _ h => h) (Or.inl ⟨by rfl, ?_⟩) hHeld ?_ ?_
            rotate_left
            · rintro w' ⟨s0, s1, s2⟩
              go_simp
              with_reducible rfl
            rotate_left
            · simp only [Act.put, List.setIfInBounds_toArray, List.set_cons_zero, List.set_cons_succ, i64_w, i32_w]
              rfl
            refine take_ (i := 1) (N := some 18) (v := ?_) (a' := ?_) #[true, true, false, false, true, false, false, false, false] rfl rfl (take_ofW HT_.out HW_.out (by kernel_rfl)) (fun _ _ _ h => h) (Or.inl ⟨by rfl, ?_⟩) hHeld ?_ ?_
            rotate_left
            · rintro w' ⟨s0, s1, s2⟩
              go_simp
              with_reducible rfl
            rotate_left
            · simp only [Act.put, List.setIfInBounds_toArray, List.set_cons_zero, List.set_cons_succ, i64_w, i32_w]
              rfl
            refine take_ (i := 2) (N := some 19) (v := ?_) (a' := ?_) #[true, true, true, false, true, false, false, false, false] rfl rfl (take_ofW HT_.out HW_.out (by kernel_rfl)) (fun _ _ _ h => h) (Or.inl ⟨by rfl, ?_⟩) hHeld ?_ ?_
            rotate_left
            · rintro w' ⟨s0, s1, s2⟩
              go_simp
              with_reducible rfl
            rotate_left
            · simp only [Act.put, List.setIfInBounds_toArray, List.set_cons_zero, List.set_cons_succ, i64_w, i32_w]
              rfl
            refine one_ (i := 3) (N := some 20) #[true, true, true, true, true, false, false, false, false] rfl rfl (one_of HT_.out (by kernel_rfl)) (by decide) (fun K hK => ?_)
            refine goes_ Try.func196 (by kernel_rfl) rfl #[.slice Aw own.length cw] (by rfl) rfl rfl (by (try simp only [List.map_toArray, List.map_cons, List.map_nil]); first | done | rfl) ?_
            with_reducible refine (impl_Foot.calls _ _ own t _ ?side1 ?side2 A3.out).mono ?_
            (case side1 => exact (Kd.R_reads' HT1.out.ro).2.2)
            (case side2 => exact (Kd.R_reads' HT1.out.ro).2.1)
            rintro e w22 ⟨v119, rfl, ho0, hb⟩
            refine ⟨_, rfl, ?_⟩
            have HT2 := Aside0.mk (HT1.out.below hb)
            have hap : Kd.S k80 80 w22 w0.heap.size (fun k => (some k ≠ (.slice Aw own.length cw : Value).ownBlock ∧ ¬ Two.Zin X gout gown k) ∧ ¬ w21.heap.size ≤ k) (.slice Ao o.length co) o :=
              Kd.S_below (Kd.S_mono (Kd.S_bound HT1.out.so) (fun k hk => ⟨hk.1, by have := hk.2.2.1; omega⟩)) hb
            have hok : ∀ k, w21.heap.size ≤ k → (some k ≠ (.slice Aw own.length cw : Value).ownBlock ∧ ¬ Two.Zin X gout gown k) ∧ some k ≠ (.slice Ao o.length co : Value).ownBlock := fun k hk => ⟨HT1.out.fresh k hk, fun he => by have := Kd.S_lt HT1.out.so k he.symm; omega⟩
            have hnew : Kd.R k164 164 w22 w0.heap.size (fun k => w21.heap.size ≤ k) v119 t := Kd.R_mono (Kd.R_lower (Kd.R_bound ho0) HT1.out.size) (fun _ hk => hk.2.1)
            have HA := Aside0.mk hap
            have HK := Aside0.mk hok
            have HN := Aside0.mk hnew
            clear hap hok hnew ho0 hb HT1
            obtain ⟨Ac, cc, ec⟩ := Kd.R_slice HN.out
            subst ec
            refine hK.out _ _ ⟨(blk_cell HT2.out.bo 0).trans rfl, (blk_cell (HT2.out.bx _ HBN.out) 0).trans rfl, (blk_cell HT2.out.bw 0).trans rfl⟩ (fun hHeld => ?_)
            clear hK K
            refine norm_ (a' := ?_) ?_ ?_
            rotate_left
            · show Act.put _ (some 20) _ = _
              simp only [Act.put, List.setIfInBounds_toArray, List.set_cons_zero, List.set_cons_succ, i64_w, i32_w]
              rfl
            refine pure_ (i := 5) (N := some 22) (v := ?_) (a' := ?_) #[true, true, true, true, true, true, false, false, false] rfl rfl (any_of HT_.out (by kernel_rfl)) (fun _ _ _ h => h) (Or.inl ⟨by rfl, ?_⟩) ?_ ?_
            rotate_left
            · intro w'
              go_simp
              with_reducible rfl
            rotate_left
            · simp only [Act.put, List.setIfInBounds_toArray, List.set_cons_zero, List.set_cons_succ, i64_w, i32_w]
              rfl
            refine one_ (i := 6) (N := some 23) #[true, true, true, true, true, true, true, false, false] rfl rfl (one_of HT_.out (by kernel_rfl)) (by decide) (fun K hK => ?_)
            refine value_ (w1 := ?_) (v := ?_) (by rfl) rfl ?_ ?_
            rotate_left 2
            · go_simp
              constructor
              · rfl
              · rfl
            refine hK.out _ _ ⟨(blk_cell (blk_alloc HT2.out.bo _) 0).trans rfl, (blk_cell (blk_alloc (HT2.out.bx _ HBN.out) _) 0).trans rfl, (blk_cell (blk_alloc HT2.out.bw _) 0).trans rfl⟩ (fun hHeld => ?_)
            clear hK K
            refine norm_ (a' := ?_) ?_ ?_
            rotate_left
            · show Act.put _ (some 23) _ = _
              simp only [Act.put, List.setIfInBounds_toArray, List.set_cons_zero, List.set_cons_succ, i64_w, i32_w]
              rfl
            refine one_ (i := 7) (N := some 24) #[true, true, true, true, true, true, true, true, false] rfl rfl (one_of HT_.out (by kernel_rfl)) (by decide) (fun K hK => ?_)
            refine Kd.S_append_step k80 (w0 := w0) w0.heap.size (by rfl) (.tmp 17) (.tmp 23) 109 80 (.agg #[(.int .i64 0), (.slice none 0 0), (.int .i64 0)]) 40 rfl Try.underlying109 info80 rfl (by decide) (by omega) (.slice Ao o.length co) o (⟨n, t, m⟩ : S80) [.int .i64 n, .slice Ac t.length cc, .int .i64 m] (fun k => some k ≠ (.slice Aw own.length cw : Value).ownBlock ∧ ¬ Two.Zin X gout gown k) (fun k => w21.heap.size ≤ k) rfl rfl ?aP HK.out ?aF ?aO ?aB ?aS ?aL ?_
            (case aP => exact k80_mkM _ _ _ (⟨n, t, m⟩ : S80) HN.out)
            (case aB => exact HT2.out.hb)
            (case aF => exact HT2.out.fresh)
            (case aO => exact HA.out)
            (case aS => exact HT2.out.size)
            (case aL => have := LM.out; omega)
            intro v122 w23 ho hb hg hat
            rw [← Ny.out] at ho
            have hz := HT2.out.z_grown hg HT2.out.vo_not
            have HP := Aside0.mk (HT2.out.putO rfl hg hb ho)
            refine hK.out _ _ ⟨(blk_cell hz.1 0).trans rfl, (blk_cell (hz.2.2 _ HBN.out) 0).trans rfl, (blk_cell hz.2.1 0).trans rfl⟩ (fun hHeld => ?_)
            clear hK K
            obtain ⟨Ap, cp, ep⟩ := Kd.S_slice ho
            subst ep
            refine norm_ (a' := ?_) ?_ ?_
            rotate_left
            · show Act.put _ (some 24) _ = _
              simp only [Act.put, List.setIfInBounds_toArray, List.set_cons_zero, List.set_cons_succ, i64_w, i32_w]
              rfl
            refine last_ (i := 8) (N := none) #[true, true, true, true, true, true, true, true, true] rfl rfl (one_of HT_.out (by kernel_rfl)) (by decide) (fun K hK => ?_)
            have hs26 : w23.cell? ⟨gout, 0, none⟩ = some (.slice Ao o.length co) := (blk_cell hz.1 0).trans rfl
            have hfs26 := blk_frozen hz.1 0
            clear hz ho hb hg hat
            refine skip_ (w1 := ?_) (by rfl) rfl ?_ ?_
            rotate_left
            · go_simp
              rfl
            refine hK.out _ _ ?_
            clear hK K
            refine done_ (done_of HT_.out (by kernel_rfl)) ?_
            try go_wp2
            go_roundg k1
            case measure => have := HK1.out; omega
            case rel => exact ⟨wrap64 (m + 1), y, _, (by first | rfl | (simp; done)), H', ⟨by have := HK1.out; omega⟩, ⟨HP.out⟩⟩
          · rw [if_neg c4] at H
            cases H
        · rw [if_neg c3] at H
          have c3b0 : decide (m < (own.length : Int)) = false := decide_eq_false c3
          clear c3
          obtain rfl := Option.some.inj H
          go_wp2
          (first | go_end0 | ((try simp only [Exit.inBlock, Exit.then]); refine bodyPost_ret (results_none rfl _ _ _) rfl ?_))
          exact ⟨rfl, _, _, HT.out⟩
  · rw [if_neg c2] at h
    have c2b0 : (s == n) = false := beq_eq_false_iff_ne.mpr c2
    have c2b1 : (s != n) = true := bne_iff_ne.mpr c2
    clear c2
    obtain ⟨o1, A10, h⟩ := Option.bind_eq_some_iff.mp h
    have A1 := Aside0.mk A10
    clear A10
    obtain ⟨row, hrow⟩ : ∃ y_ : List S164, y_ = [(⟨s, 1, 0⟩ : S164), (⟨s, 2, 0⟩ : S164), (⟨s, 2, 1⟩ : S164)] := ⟨_, rfl⟩
    rw [← hrow] at h
    have Nrow := Aside0.mk hrow
    clear hrow
    have H' := Aside0.mk h
    clear h
    have hcn : w.cell? ⟨gn, 0, none⟩ = some (.int .i64 n) := (blk_cell (HT.out.bx _ HBN.out) 0).trans rfl
    have hcr : w.cell? ⟨gr, 0, none⟩ = some (.func (.func 195) #[] #[.pointer (some ⟨gn, 0, none⟩), .pointer (some ⟨gown, 0, none⟩), .pointer (some ⟨gout, 0, none⟩), .pointer (some ⟨gr, 0, none⟩)]) := (blk_cell (HT.out.bx _ HBR.out) 0).trans rfl
    go_enter Try.func195, Try.ntmps195
    go_wp2_with (first | (go_at_call 195; refine (HI.out k (by omega) gn gr gout gown n X HX.out _ _ own outs o1 _ w0 _ HT.out A1.out).mono ?_; rintro e w60 ⟨rfl, vo5, vw5, HT5⟩; clear hcr hcn HT; obtain ⟨Aq, cq, eq_⟩ := Kd.S_slice HT5.so; subst eq_; obtain ⟨Ar, cr, er_⟩ := Kd.R_slice HT5.ro; subst er_; have HT4 := Aside0.mk HT5; clear HT5) | ((with_reducible refine gate_dst (N := 36) rfl ?_); refine Kd.R_lit k164 _ 164 ?hg (N := 36) ?hd (xs := ([(⟨s, 1, 0⟩ : S164), (⟨s, 2, 0⟩ : S164), (⟨s, 2, 1⟩ : S164)] : List S164)) (inner := [.int .i64 s, .int .i64 1, .int .i64 0, .int .i64 s, .int .i64 2, .int .i64 0, .int .i64 s, .int .i64 2, .int .i64 1]) (ok := fun _ => True) (okp := fun _ => True) ?hr ?hp (fun _ hk => hk) trivial (Below.refl _ _) (Nat.le_refl _) (by simp) ?_; (case hd => rfl); (case hg => rfl); (case hr => first | (go_simp; done) | (go_simp; rfl)); (case hp => exact (Reps.c3 (show Kd.M k164 _ _ _ (⟨s, 1, 0⟩ : S164) [.int .i64 s, .int .i64 1, .int .i64 0] from (k164_mkM _ _ _ (⟨s, 1, 0⟩ : S164))) (Reps.c3 (show Kd.M k164 _ _ _ (⟨s, 2, 0⟩ : S164) [.int .i64 s, .int .i64 2, .int .i64 0] from (k164_mkM _ _ _ (⟨s, 2, 0⟩ : S164))) (Reps.c3 (show Kd.M k164 _ _ _ (⟨s, 2, 1⟩ : S164) [.int .i64 s, .int .i64 2, .int .i64 1] from (k164_mkM _ _ _ (⟨s, 2, 1⟩ : S164))) (Reps.none _ _))))); intro v123 w46 ho47 hb hg_ hnew_; (first | rw [← Nrow.out] at ho47 | (simp only [Int.reduceToNat] at ho47; rw [← Nrow.out] at ho47)); obtain ⟨gl, egl, hgl⟩ := hnew_; obtain ⟨lc, hlc⟩ := Kd.R_typed ho47 gl egl; have HTL := Aside0.mk (HT4.out.addX hb hlc hgl); have HLC := Aside0.mk hlc; have EGL := Aside0.mk egl; have HLit := Aside0.mk (Kd.R_tight rfl ho47); clear hb hg_ hlc hgl egl ho47 HT4; obtain ⟨Al, cl, el⟩ := Kd.R_slice HLit.out; subst el))
    go_loopg [38] k (fun kq v38 w' => ∃ (i : Int) (o : List S80) (vo vw : Value), v38 = .int .i64 i ∧ Aside0 (impl_FootingsOf.loop kq n s row own o i = some r) ∧ Aside0 (kq ≤ k) ∧ Aside0 (impl_FootingsOf.T2 w0 w' ((gl, .cells lc 164 (0, 0)) :: X) gout gown vo vw o own))
    case atStart => exact ⟨0, o1, _, _, (by first | rfl | (simp; done)), H', ⟨Nat.le_refl _⟩, ⟨by first | exact HTL.out | exact HTL.out.drewN _⟩⟩
    case round =>
      clear H' HTL c2b0 c2b1
      obtain ⟨i, o, vo, vw, rfl, HA, HK1, HT⟩ := hrel
      cases gk with
      | zero => exact absurd HA.out (by simp [impl_FootingsOf.loop])
      | succ k1 =>
        have H := HA.out
        clear HA
        simp only [impl_FootingsOf.loop] at H
        obtain ⟨Ao, co, rfl⟩ := Kd.S_slice HT.out.so
        obtain ⟨Aw, cw, rfl⟩ := Kd.R_slice HT.out.ro
        by_cases c3 : i < (row.length : Int)
        · rw [if_pos c3] at H
          have c3b0 : decide (i < (row.length : Int)) = true := decide_eq_true c3
          by_cases c31 : 0 ≤ i
          · rw [if_pos c31] at H
            have c31b0 : decide (0 ≤ i) = true := decide_eq_true c31
            have hrow : Kd.R k164 164 wr _ (fun k => some k = (.slice Al row.length cl : Value).ownBlock) (.slice Al row.length cl) row := Kd.R_step HLit.out (fun k hk _ => by have he : k = gl := Option.some.inj (hk.trans EGL.out); rw [he]; exact (HT.out.bx (gl, _) (List.mem_cons_self ..)).trans HLC.out.symm)
            obtain ⟨ad125, e125, hx125_0, hx125_1, hx125_2⟩ := at_T164 (Kd.R_reads' hrow).2.2 i c31 c3
            clear hrow
            cases e125
            have p125 := eq_true c31
            have q125 := eq_true c3
            clear c31 c3
            obtain ⟨x, hx⟩ : ∃ x_ : S164, x_ = rd_T164 row i := ⟨_, rfl⟩
            rw [← hx] at H hx125_0 hx125_1 hx125_2
            clear hx
            have HXB : ∀ p ∈ ((gl, Obj.cells lc 164 (0, 0)) :: X), p.1 < wr.heap.size := fun p hp => blk_lt (HT.out.bx p hp)
            have HXL := Aside0.mk HXB
            clear HXB
            by_cases c52 : (wrap64 (s + x.f1)) ≤ n
            · rw [if_pos c52] at H
              have c52b0 : decide ((wrap64 (s + x.f1)) ≤ n) = true := decide_eq_true c52
              clear c52
              by_cases c5 : own.length < 5864062014805
              · rw [if_pos c5] at H
                have LM := Aside0.mk c5
                clear c5
                obtain ⟨o2, A50, H⟩ := Option.bind_eq_some_iff.mp H
                have A5 := Aside0.mk A50
                clear A50
                have H' := Aside0.mk H
                clear H
                obtain ⟨y, hy⟩ : ∃ y_ : List S164, y_ = own ++ [(⟨x.f0, x.f1, x.f2⟩ : S164)] := ⟨_, rfl⟩
                have Ny := Aside0.mk hy
                have hyl : y.length = own.length + 1 := by rw [hy, List.length_append]; rfl
                obtain ⟨ji, hji⟩ : ∃ j_ : Int, (wrap64 ((y.length : Int) - 1)) = j_ := ⟨_, rfl⟩
                have hjv : ji = (own.length : Int) := by rw [← hji]; unfold wrap64; have := LM.out; omega
                have hjiw : (IntKind.i64.wrap ((y.length : Int) - 1)) = ji := (i64_w _).trans hji
                have c51b0 : (0 ≤ ji) = True := eq_true (by omega)
                have c51b1 : decide (0 ≤ ji) = true := decide_eq_true (by omega)
                have c53b0 : (ji ≤ (y.length : Int)) = True := eq_true (by omega)
                have c53b1 : decide (ji ≤ (y.length : Int)) = true := decide_eq_true (by omega)
                have hyt : y.take ji.toNat = own := by rw [hjv, hy]; simp
                have Nt := Aside0.mk hyt
                have Nl := Aside0.mk hyl
                have Nj := Aside0.mk hjv
                clear hy hyl hjv hyt
                rw [← Ny.out] at A5
                go_wp2_with (first | ((with_reducible refine gate_dst (N := 8) rfl ?_); refine box_event ?hg (N := 8) ?hd (cs := #[.int .i64 0, .int .i64 0, .int .i64 0]) (t := 164) ?hr ?_; (case hd => rfl); (case hg => rfl); (case hr => first | (go_simp; done) | (go_simp; rfl)); intro gx hg w57 hbox hb; have HT2 := Aside0.mk (HT.out.addX hb hbox (by rw [hg]; exact Nat.le_refl _)); have HNX := Aside0.mk (show ∀ p ∈ ((gl, Obj.cells lc 164 (0, 0)) :: X), p.1 ≠ gx from fun p hp => by have := HXL.out p hp; omega); have hcz0 : w57.cell? ⟨gx, 0, none⟩ = some (.int .i64 0) := (blk_cell hbox 0).trans rfl; have hcz1 : w57.cell? ⟨gx, 1, none⟩ = some (.int .i64 0) := (blk_cell hbox 1).trans rfl; have hcz2 : w57.cell? ⟨gx, 2, none⟩ = some (.int .i64 0) := (blk_cell hbox 2).trans rfl; have hfz0 := blk_frozen hbox 0; have hfz1 := blk_frozen hbox 1; have hfz2 := blk_frozen hbox 2; clear hg hbox hb HT) | ((with_reducible refine gate_store (t := 164) (p := 8) rfl ?_); refine store_event (t := 164) (p := 8) (v := ?vo_w58) (w1 := (((w57.setCell ⟨gx, 0, none⟩ (.int .i64 x.f0)).setCell ⟨gx, 1, none⟩ (.int .i64 x.f1)).setCell ⟨gx, 2, none⟩ (.int .i64 x.f2))) ?hg ?ho ?hn ?hr ?_; (case ho => rfl); (case hg => rfl); (case hn => rfl); (case hr => first | (go_simp; done) | (go_simp; rfl)); intro w58 hw; have HT3 : Aside0 (impl_FootingsOf.T2 w0 w58 ((gx, .cells #[.int .i64 x.f0, .int .i64 x.f1, .int .i64 x.f2] 164 (0, 0)) :: (gl, .cells lc 164 (0, 0)) :: X) gout gown (.slice Ao o.length co) (.slice Aw own.length cw) o own) := ⟨by rw [hw]; exact ((HT2.out.setXc HNX.out rfl).setXc HNX.out rfl).setXc HNX.out rfl⟩; clear hw HT2 hcz0 hcz1 hcz2 hfz0 hfz1 hfz2; have hcn3 : w58.cell? ⟨gn, 0, none⟩ = some (.int .i64 n) := (blk_cell (HT3.out.bx _ (List.mem_cons_of_mem _ (List.mem_cons_of_mem _ HBN.out))) 0).trans rfl; have hcx0 : w58.cell? ⟨gx, 0, none⟩ = some (.int .i64 x.f0) := (blk_cell (HT3.out.bx _ (List.mem_cons_self ..)) 0).trans rfl; have hcx1 : w58.cell? ⟨gx, 1, none⟩ = some (.int .i64 x.f1) := (blk_cell (HT3.out.bx _ (List.mem_cons_self ..)) 1).trans rfl; have hcx2 : w58.cell? ⟨gx, 2, none⟩ = some (.int .i64 x.f2) := (blk_cell (HT3.out.bx _ (List.mem_cons_self ..)) 2).trans rfl; have hcw2 : w58.cell? ⟨gown, 0, none⟩ = some (.slice Aw own.length cw) := (blk_cell HT3.out.bw 0).trans rfl) | ((with_reducible refine gate_builtin (b := .append) (xs := #[.tmp 48, .tmp 50]) rfl ?_); at_builtin; refine Kd.R_append k164 (w0 := w0) w0.heap.size rfl (.tmp 48) (.tmp 50) 78 164 (.agg #[(.int .i64 0), (.int .i64 0), (.int .i64 0)]) 24 rfl Try.underlying78 info164 rfl (by decide) (by omega) (.slice Aw own.length cw) own (⟨x.f0, x.f1, x.f2⟩ : S164) [.int .i64 x.f0, .int .i64 x.f1, .int .i64 x.f2] (fun k => ¬ Two.Zin ((gx, .cells #[.int .i64 x.f0, .int .i64 x.f1, .int .i64 x.f2] 164 (0, 0)) :: (gl, .cells lc 164 (0, 0)) :: X) gout gown k) (fun _ => False) rfl (by first | (go_simp; done) | (go_simp; rfl)) ?aP (fun _ hk => hk.elim) ?aF ?aO ?aB ?aS ?aL ?_; (case aP => exact k164_mkM _ _ _ (⟨x.f0, x.f1, x.f2⟩ : S164)); (case aB => exact HT3.out.hb); (case aF => exact fun k hk => (HT3.out.fresh k hk).2); (case aO => exact HT3.out.ro); (case aS => exact HT3.out.size); (case aL => have := LM.out; omega); intro v126 w56 ho hb hg hat; rw [← Ny.out] at ho; have hz := HT3.out.z_grown hg HT3.out.vw_not; have HP := Aside0.mk (HT3.out.putW hg hat hb ho); obtain ⟨Ap, cp, ep⟩ := Kd.R_slice ho; subst ep; have hcw3 : w56.cell? ⟨gown, 0, none⟩ = some (.slice Aw own.length cw) := (blk_cell hz.2.1 0).trans rfl; have hfw3 := blk_frozen hz.2.1 0; clear hz ho hb hg hat HT3 hcn3 hcx0 hcx1 hcx2 hcw2) | ((with_reducible refine gate_store (t := 78) (p := 2) rfl ?_); refine store_event (t := 78) (p := 2) (v := ?vo_w59) (w1 := (w56.setCell ⟨gown, 0, none⟩ (.slice Ap y.length cp))) ?hg ?ho ?hn ?hr ?_; (case ho => rfl); (case hg => rfl); (case hn => rfl); (case hr => first | (go_simp; done) | (go_simp; rfl)); intro w59 hw; have HT6 : Aside0 (impl_FootingsOf.T2 w0 w59 ((gx, .cells #[.int .i64 x.f0, .int .i64 x.f1, .int .i64 x.f2] 164 (0, 0)) :: (gl, .cells lc 164 (0, 0)) :: X) gout gown (.slice Ao o.length co) (.slice Ap y.length cp) o y) := ⟨by rw [hw]; exact HP.out⟩; clear hw HP hcw3 hfw3; have hcr : w59.cell? ⟨gr, 0, none⟩ = some (.func (.func 195) #[] #[.pointer (some ⟨gn, 0, none⟩), .pointer (some ⟨gown, 0, none⟩), .pointer (some ⟨gout, 0, none⟩), .pointer (some ⟨gr, 0, none⟩)]) := (blk_cell (HT6.out.bx _ (List.mem_cons_of_mem _ (List.mem_cons_of_mem _ HBR.out))) 0).trans rfl; have hcx : w59.cell? ⟨gx, 1, none⟩ = some (.int .i64 x.f1) := (blk_cell (HT6.out.bx _ (List.mem_cons_self ..)) 1).trans rfl) | (go_at_call 195; refine (HI.out k1 (by have := HK1.out; omega) gn gr gout gown n ((gx, .cells #[.int .i64 x.f0, .int .i64 x.f1, .int .i64 x.f2] 164 (0, 0)) :: (gl, .cells lc 164 (0, 0)) :: X) (fun p hp => List.mem_cons_of_mem _ (List.mem_cons_of_mem _ (HX.out p hp))) _ _ y o o2 _ w0 _ HT6.out A5.out).mono ?_; rintro e w60 ⟨rfl, vo5, vw5, HT5⟩; clear HT6 hcr hcx; obtain ⟨Aq, cq, eq_⟩ := Kd.S_slice HT5.so; subst eq_; obtain ⟨Ar, cr, er_⟩ := Kd.R_slice HT5.ro; subst er_; have HT4 := Aside0.mk HT5; clear HT5; have hcw4 : w60.cell? ⟨gown, 0, none⟩ = some (.slice Ar y.length cr) := (blk_cell HT4.out.bw 0).trans rfl; have hfw4 := blk_frozen HT4.out.bw 0; have q61 : (ji : Int) ≤ ((y.length : Int) : Int) := (by have := Nj.out; have := Nl.out; omega); obtain ⟨i061, hi061, _, hsz61, _⟩ := info_parts info164; have hcut61 := cut_to (P := Try.prog) 78 164 .i64 Try.underlying78 hi061 Ar y.length cr (ji) (by have := Nj.out; omega) q61 (Kd.R_reads' HT4.out.ro).2.1; have hr61 := Kd.R_take (m := ((ji) : Int).toNat) HT4.out.ro (by have := Nj.out; have := Nl.out; omega); rw [Nt.out] at hr61; have hj2 : ((ji) : Int).toNat = own.length := (by have := Nj.out; omega); rw [hj2] at hr61 hcut61; clear hj2 hi061 hsz61; have HR := Aside0.mk hr61; clear hr61; replace q61 := eq_true q61))
                go_roundg k1
                case measure => have := HK1.out; omega
                case rel => exact ⟨wrap64 (i + 1), o2, _, _, (by first | rfl | (simp; done)), H', ⟨by have := HK1.out; omega⟩, ⟨(HT4.out.cutW HR.out (by cases Ar <;> rfl)).dropX⟩⟩
              · rw [if_neg c5] at H
                cases H
            · rw [if_neg c52] at H
              have c52b0 : decide ((wrap64 (s + x.f1)) ≤ n) = false := decide_eq_false c52
              clear c52
              have H' := Aside0.mk H
              clear H
              go_wp2_with (first | ((with_reducible refine gate_dst (N := 8) rfl ?_); refine box_event ?hg (N := 8) ?hd (cs := #[.int .i64 0, .int .i64 0, .int .i64 0]) (t := 164) ?hr ?_; (case hd => rfl); (case hg => rfl); (case hr => first | (go_simp; done) | (go_simp; rfl)); intro gx hg w57 hbox hb; have HT2 := Aside0.mk (HT.out.addX hb hbox (by rw [hg]; exact Nat.le_refl _)); have HNX := Aside0.mk (show ∀ p ∈ ((gl, Obj.cells lc 164 (0, 0)) :: X), p.1 ≠ gx from fun p hp => by have := HXL.out p hp; omega); have hcz0 : w57.cell? ⟨gx, 0, none⟩ = some (.int .i64 0) := (blk_cell hbox 0).trans rfl; have hcz1 : w57.cell? ⟨gx, 1, none⟩ = some (.int .i64 0) := (blk_cell hbox 1).trans rfl; have hcz2 : w57.cell? ⟨gx, 2, none⟩ = some (.int .i64 0) := (blk_cell hbox 2).trans rfl; have hfz0 := blk_frozen hbox 0; have hfz1 := blk_frozen hbox 1; have hfz2 := blk_frozen hbox 2; clear hg hbox hb HT) | ((with_reducible refine gate_store (t := 164) (p := 8) rfl ?_); refine store_event (t := 164) (p := 8) (v := ?vo_w58) (w1 := (((w57.setCell ⟨gx, 0, none⟩ (.int .i64 x.f0)).setCell ⟨gx, 1, none⟩ (.int .i64 x.f1)).setCell ⟨gx, 2, none⟩ (.int .i64 x.f2))) ?hg ?ho ?hn ?hr ?_; (case ho => rfl); (case hg => rfl); (case hn => rfl); (case hr => first | (go_simp; done) | (go_simp; rfl)); intro w58 hw; have HT3 : Aside0 (impl_FootingsOf.T2 w0 w58 ((gx, .cells #[.int .i64 x.f0, .int .i64 x.f1, .int .i64 x.f2] 164 (0, 0)) :: (gl, .cells lc 164 (0, 0)) :: X) gout gown (.slice Ao o.length co) (.slice Aw own.length cw) o own) := ⟨by rw [hw]; exact ((HT2.out.setXc HNX.out rfl).setXc HNX.out rfl).setXc HNX.out rfl⟩; clear hw HT2 hcz0 hcz1 hcz2 hfz0 hfz1 hfz2; have hcn3 : w58.cell? ⟨gn, 0, none⟩ = some (.int .i64 n) := (blk_cell (HT3.out.bx _ (List.mem_cons_of_mem _ (List.mem_cons_of_mem _ HBN.out))) 0).trans rfl; have hcx0 : w58.cell? ⟨gx, 0, none⟩ = some (.int .i64 x.f0) := (blk_cell (HT3.out.bx _ (List.mem_cons_self ..)) 0).trans rfl; have hcx1 : w58.cell? ⟨gx, 1, none⟩ = some (.int .i64 x.f1) := (blk_cell (HT3.out.bx _ (List.mem_cons_self ..)) 1).trans rfl; have hcx2 : w58.cell? ⟨gx, 2, none⟩ = some (.int .i64 x.f2) := (blk_cell (HT3.out.bx _ (List.mem_cons_self ..)) 2).trans rfl; have hcw2 : w58.cell? ⟨gown, 0, none⟩ = some (.slice Aw own.length cw) := (blk_cell HT3.out.bw 0).trans rfl))
              go_roundg k1
              case measure => have := HK1.out; omega
              case rel => exact ⟨wrap64 (i + 1), o, _, _, (by first | rfl | (simp; done)), H', ⟨by have := HK1.out; omega⟩, ⟨HT3.out.dropX⟩⟩
          · rw [if_neg c31] at H
            cases H
        · rw [if_neg c3] at H
          have c3b0 : decide (i < (row.length : Int)) = false := decide_eq_false c3
          clear c3
          obtain rfl := Option.some.inj H
          go_wp2
          (first | go_end0 | ((try simp only [Exit.inBlock, Exit.then]); refine bodyPost_ret (results_none rfl _ _ _) rfl ?_))
          exact ⟨rfl, _, _, HT.out.dropX⟩
set_option maxHeartbeats 4000000 in
set_option maxRecDepth 100000 in
theorem impl_FootingsOf.calls (k : Nat) (a0 : Int) (r : List S80) (w : World) (h : impl_FootingsOf.f k a0 = some r) :
    Calls Try.prog 150 #[.int .i64 a0] w fun e w' => ∃ v0_ : Value, e = .returned (v0_) ∧ Kd.S k80 80 w' w.heap.size (fun _ => True) v0_ r ∧ Below w.heap.size w w' := by
  obtain ⟨b, A10, h⟩ := Option.bind_eq_some_iff.mp h
  have A1 := Aside0.mk A10
  clear A10
  cases b with
  | false =>
    rw [if_neg (by decide)] at h
    obtain rfl := Option.some.inj h
    go_enter Try.func150, Try.ntmps150
    go_wp2_with (first | ((with_reducible refine gate_dst (N := 1) rfl ?_); refine box_event ?hg (N := 1) ?hd (cs := #[.int .i64 a0]) (t := 3) ?hr ?_; (case hd => rfl); (case hg => rfl); (case hr => first | (go_simp; done) | (go_simp; rfl)); intro gn hg w1 hbox hb; have HB := Aside0.mk hb; have BN := Aside0.mk hbox; have GN := Aside0.mk (by rw [hg]; exact Nat.le_refl _ : w.heap.size ≤ gn); have hcn : w1.cell? ⟨gn, 0, none⟩ = some (.int .i64 a0) := (blk_cell hbox 0).trans rfl; clear hg hbox hb) | ((with_reducible refine gate_callee (f := 79) rfl ?_); refine goesL_ (some 7) rfl rfl Try.func79 (by kernel_rfl) rfl #[.int .i64 a0, .int .i64 1, .int .i64 4] rfl (by (try simp only [List.map_toArray, List.map_cons, List.map_nil]); first | done | rfl) ?_; (with_reducible refine (impl_within.calls a0 1 4 false _ A1.out).mono ?_); rintro e w' ⟨rfl, ⟨nd, rfl⟩⟩; refine ⟨_, rfl, ?_⟩; have HB1 := Aside0.mk (pw_below_drewN HB.out nd); have BN1 := Aside0.mk (blk_drewN BN.out nd); clear HB BN hcn; generalize w1.drewN nd = w2 at HB1 BN1 ⊢))
    go_ret
    exact ⟨_, rfl, Kd.S_nil _ _ _ _ _, HB1.out⟩
  | true =>
    rw [if_pos rfl] at h
    obtain ⟨y1, hy1⟩ : ∃ y : List S80, y = [] := ⟨_, rfl⟩
    obtain ⟨y2, hy2⟩ : ∃ y : List S164, y = [] := ⟨_, rfl⟩
    have A2 : Aside0 (impl_FootingsOf.rest k a0 0 y2 y1 = some r) := ⟨by rw [hy1, hy2]; exact h⟩
    have Ny1 := Aside0.mk hy1
    have Ny2 := Aside0.mk hy2
    clear h hy1 hy2
    go_enter Try.func150, Try.ntmps150
    go_wp2_with (first | ((with_reducible refine gate_dst (N := 1) rfl ?_); refine box_event ?hg (N := 1) ?hd (cs := #[.int .i64 a0]) (t := 3) ?hr ?_; (case hd => rfl); (case hg => rfl); (case hr => first | (go_simp; done) | (go_simp; rfl)); intro gn hg w1 hbox hb; have HB := Aside0.mk hb; have BN := Aside0.mk hbox; have GN := Aside0.mk (by rw [hg]; exact Nat.le_refl _ : w.heap.size ≤ gn); have hcn : w1.cell? ⟨gn, 0, none⟩ = some (.int .i64 a0) := (blk_cell hbox 0).trans rfl; clear hg hbox hb) | ((with_reducible refine gate_callee (f := 79) rfl ?_); refine goesL_ (some 7) rfl rfl Try.func79 (by kernel_rfl) rfl #[.int .i64 a0, .int .i64 1, .int .i64 4] rfl (by (try simp only [List.map_toArray, List.map_cons, List.map_nil]); first | done | rfl) ?_; (with_reducible refine (impl_within.calls a0 1 4 true _ A1.out).mono ?_); rintro e w' ⟨rfl, ⟨nd, rfl⟩⟩; refine ⟨_, rfl, ?_⟩; have HB1 := Aside0.mk (pw_below_drewN HB.out nd); have BN1 := Aside0.mk (blk_drewN BN.out nd); clear HB BN hcn; generalize w1.drewN nd = w2 at HB1 BN1 ⊢) | ((with_reducible refine gate_dst (N := 9) rfl ?_); refine Kd.S_lit k80 _ 80 ?hg (N := 9) ?hd (xs := ([] : List S80)) (inner := []) (ok := fun _ => True) (okp := fun _ => True) ?hr ?hp (fun _ hk => hk) trivial (Below.refl _ _) (Nat.le_refl _) (by simp) ?_; (case hd => rfl); (case hg => rfl); (case hr => first | (go_simp; done) | (go_simp; rfl)); (case hp => exact (Reps.none _ _)); intro vo w3 hso hb hg_ hnew_; rw [← Ny1.out] at hso; have SO := Aside0.mk (Kd.S_mono (Kd.S_bound hso) (ok' := fun k => w2.heap.size ≤ k ∧ k < w3.heap.size) (fun k hk => ⟨hk.2.1, hk.2.2.1⟩)); have HB2 := Aside0.mk (below_step HB1.out hb); have BN2 := Aside0.mk (blk_below BN1.out hb); have L2 := Aside0.mk (below_size hb); have LN := Aside0.mk (blk_lt BN1.out); clear HB1 BN1 hso hb hg_ hnew_) | ((with_reducible refine gate_dst (N := 10) rfl ?_); refine Kd.R_lit k164 _ 164 ?hg (N := 10) ?hd (xs := ([] : List S164)) (inner := []) (ok := fun _ => True) (okp := fun _ => True) ?hr ?hp (fun _ hk => hk) trivial (Below.refl _ _) (Nat.le_refl _) (by simp) ?_; (case hd => rfl); (case hg => rfl); (case hr => first | (go_simp; done) | (go_simp; rfl)); (case hp => exact (Reps.none _ _)); intro vw w4 hro hb hg_ hnew_; rw [← Ny2.out] at hro; have RO := Aside0.mk (Kd.R_mono (Kd.R_bound hro) (ok' := fun k => w3.heap.size ≤ k ∧ k < w4.heap.size) (fun k hk => ⟨hk.2.1, hk.2.2.1⟩)); have SO2 := Aside0.mk (Kd.S_below SO.out hb); have HB3 := Aside0.mk (below_step HB2.out hb); have BN3 := Aside0.mk (blk_below BN2.out hb); have L3 := Aside0.mk (below_size hb); have L2_ := Aside0.mk L2.out; clear SO HB2 BN2 hro hb hg_ hnew_) | ((with_reducible refine gate_dst (N := 3) rfl ?_); refine box_event ?hg (N := 3) ?hd (cs := #[.slice none 0 0]) (t := 109) ?hr ?_; (case hd => rfl); (case hg => rfl); (case hr => first | (go_simp; done) | (go_simp; rfl)); intro gout hg w5 hbox hb; have GO := Aside0.mk hg; have BO := Aside0.mk hbox; have RO2 := Aside0.mk (Kd.R_below RO.out hb); have SO3 := Aside0.mk (Kd.S_below SO2.out hb); have HB4 := Aside0.mk (below_step HB3.out hb); have BN4 := Aside0.mk (blk_below BN3.out hb); clear RO SO2 HB3 BN3 hg hbox hb) | ((with_reducible refine gate_dst (N := 4) rfl ?_); refine box_event ?hg (N := 4) ?hd (cs := #[.slice none 0 0]) (t := 78) ?hr ?_; (case hd => rfl); (case hg => rfl); (case hr => first | (go_simp; done) | (go_simp; rfl)); intro gown hg w6 hbox hb; have GW := Aside0.mk hg; have BW := Aside0.mk hbox; have LO := Aside0.mk (blk_lt BO.out); have BO2 := Aside0.mk (blk_below BO.out hb); have RO3 := Aside0.mk (Kd.R_below RO2.out hb); have SO4 := Aside0.mk (Kd.S_below SO3.out hb); have HB5 := Aside0.mk (below_step HB4.out hb); have BN5 := Aside0.mk (blk_below BN4.out hb); have LN2 := Aside0.mk (blk_lt BN4.out); clear BO RO2 SO3 HB4 BN4 hg hbox hb; obtain ⟨Ao, co, eo⟩ := Kd.S_slice SO4.out; subst eo; obtain ⟨Aw, cw, ew⟩ := Kd.R_slice RO3.out; subst ew; have hco : w6.cell? ⟨gout, 0, none⟩ = some (.slice none 0 0) := (blk_cell BO2.out 0).trans rfl; have hfo := blk_frozen BO2.out 0; have hcw : w6.cell? ⟨gown, 0, none⟩ = some (.slice none 0 0) := (blk_cell BW.out 0).trans rfl; have hfw := blk_frozen BW.out 0; have hne1 : gout ≠ gown := (by have := GW.out; have := LO.out; omega); have hne2 : gown ≠ gout := Ne.symm hne1) | ((with_reducible refine gate_dst (N := 5) rfl ?_); refine box_event ?hg (N := 5) ?hd (cs := #[.nilFunc]) (t := 177) ?hr ?_; (case hd => rfl); (case hg => rfl); (case hr => first | (go_simp; done) | (go_simp; rfl)); intro gr hg w7 hbox hb; have HT := Two.Two.start (X := [(gn, .cells #[.int .i64 a0] 3 (0, 0))]) (w0 := w) (T := 109) (T' := 78) HB5.out (by have := GO.out; have := GW.out; have := GN.out; have := LN.out; have := LN2.out; have := L2_.out; have := L3.out; have := LO.out; omega) (by have := GO.out; have := GW.out; have := GN.out; have := LN.out; have := LN2.out; have := L2_.out; have := L3.out; have := LO.out; omega) (fun p hp => by rw [List.mem_singleton.1 hp]; exact GN.out) hne1 (fun p hp => by rw [List.mem_singleton.1 hp]; have := GO.out; have := GW.out; have := GN.out; have := LN.out; have := LN2.out; have := L2_.out; have := L3.out; have := LO.out; exact ⟨by simp only []; omega, by simp only []; omega⟩) (Kd.S_mono (Kd.S_lower SO4.out (by have := GO.out; have := GW.out; have := GN.out; have := LN.out; have := LN2.out; have := L2_.out; have := L3.out; have := LO.out; omega)) (fun k hk => ⟨fun he => by have := (RO3.out.1 k he.symm).1; omega, by rintro (rfl | rfl | ⟨p, hp, rfl⟩) <;> first | (have := GO.out; have := GW.out; have := GN.out; have := LN.out; have := LN2.out; have := L2_.out; have := L3.out; have := LO.out; omega) | (rw [List.mem_singleton.1 hp] at hk; have := GO.out; have := GW.out; have := GN.out; have := LN.out; have := LN2.out; have := L2_.out; have := L3.out; have := LO.out; simp only [] at hk; omega)⟩)) (Kd.R_mono (Kd.R_lower RO3.out (by have := GO.out; have := GW.out; have := GN.out; have := LN.out; have := LN2.out; have := L2_.out; have := L3.out; have := LO.out; omega)) (fun k hk => by rintro (rfl | rfl | ⟨p, hp, rfl⟩) <;> first | (have := GO.out; have := GW.out; have := GN.out; have := LN.out; have := LN2.out; have := L2_.out; have := L3.out; have := LO.out; omega) | (rw [List.mem_singleton.1 hp] at hk; have := GO.out; have := GW.out; have := GN.out; have := LN.out; have := LN2.out; have := L2_.out; have := L3.out; have := LO.out; simp only [] at hk; omega))) BO2.out BW.out (fun p hp => by rw [List.mem_singleton.1 hp]; exact BN5.out); have HG := Aside0.mk (HT.addX hb hbox (by rw [hg]; exact Nat.le_refl _)); have HNG := Aside0.mk (show gn ≠ gr from by rw [hg]; have := blk_lt (HT.bx (gn, _) (List.mem_singleton.2 rfl)); simp only [] at this; omega); have hcg : w7.cell? ⟨gr, 0, none⟩ = some .nilFunc := (blk_cell hbox 0).trans rfl; have hfg := blk_frozen hbox 0; clear HT hg hbox hb hco hfo hcw hfw hne1 hne2 HB5 BO2 BW BN5 SO4 RO3) | ((with_reducible refine gate_store (t := 177) (p := 5) rfl ?_); refine store_event (t := 177) (p := 5) (v := ?vo_s) (w1 := (w7.setCell ⟨gr, 0, none⟩ (.func (.func 195) #[] #[.pointer (some ⟨gn, 0, none⟩), .pointer (some ⟨gown, 0, none⟩), .pointer (some ⟨gout, 0, none⟩), .pointer (some ⟨gr, 0, none⟩)]))) ?hg ?ho ?hn ?hr ?_; (case ho => rfl); (case hg => rfl); (case hn => rfl); (case hr => (go_simp; simp only [Go.Proofs.Ytndcgckgkkhbpaa.Two.run_store_func]; first | done | (go_simp; done) | (go_simp; rfl))); intro w8 hw; have HT2 : Aside0 (impl_FootingsOf.T2 w w8 (impl_FootingsOf.B gn gr gout gown a0) gout gown (.slice Ao y1.length co) (.slice Aw y2.length cw) y1 y2) := ⟨by rw [hw]; exact HG.out.setX (fun p hp => by rw [List.mem_singleton.1 hp]; exact HNG.out)⟩; clear hw HG hcg hfg; have hcr : w8.cell? ⟨gr, 0, none⟩ = some (.func (.func 195) #[] #[.pointer (some ⟨gn, 0, none⟩), .pointer (some ⟨gown, 0, none⟩), .pointer (some ⟨gout, 0, none⟩), .pointer (some ⟨gr, 0, none⟩)]) := (blk_cell (HT2.out.bx (gr, _) (List.mem_cons_self ..)) 0).trans rfl) | (go_at_call 195; refine (impl_FootingsOf.rest_calls k gn gr gout gown a0 (impl_FootingsOf.B gn gr gout gown a0) (fun _ h_ => h_) _ _ y2 y1 r 0 w _ HT2.out A2.out).mono ?_; rintro e w9 ⟨rfl, vo5, vw5, HT5⟩; clear HT2 hcr; obtain ⟨Aq, cq, eq_⟩ := Kd.S_slice HT5.so; subst eq_; have HT4 := Aside0.mk HT5; clear HT5; have hcq : w9.cell? ⟨gout, 0, none⟩ = some (.slice Aq r.length cq) := (blk_cell HT4.out.bo 0).trans rfl))
    go_ret
    exact ⟨_, rfl, Kd.S_mono HT4.out.so (fun _ _ => trivial), HT4.out.hb⟩

/-! ### impl_FootingsFor: function 83 -/
def impl_FootingsFor.l0 : Nat → List Int → List (S80) → List (S80) → Int → Int → Option ((List (S80)))
  | 0, _, _, _, _, _ => none
  | k + 1, x0, x3, x9, x10, x11 => if x11 < x10 then (if 0 ≤ x11 then (if x11 < (x9.length : Int) then ((impl_StressesOf.f k ((rd_T80 x9 x11).f0) ((rd_T80 x9 x11).f1) ((rd_T80 x9 x11).f2)).bind fun t236 => ((slices_Equal_int_int.f k t236 x0).bind fun t239 => (if t239 = true then (if x3.length < 3518437208883 then (impl_FootingsFor.l0 k x0 (x3 ++ [(⟨(rd_T80 x9 x11).f0, (rd_T80 x9 x11).f1, (rd_T80 x9 x11).f2⟩ : S80)]) x9 x10 (wrap64 (x11 + 1))) else (none)) else (impl_FootingsFor.l0 k x0 x3 x9 x10 (wrap64 (x11 + 1)))))) else (none)) else (none)) else (some x3)
def impl_FootingsFor.f (k : Nat) (l0 : List Int) : Option ((List (S80))) := (impl_FootingsOf.f k (l0.length : Int)).bind fun t231 => (impl_FootingsFor.l0 k l0 (([] : List (S80))) t231 (t231.length : Int) 0)
theorem impl_FootingsFor.mono_l : ∀ k, (∀ y0 y1 y2 y3 y4, LeO (impl_FootingsFor.l0 k y0 y1 y2 y3 y4) (impl_FootingsFor.l0 (k + 1) y0 y1 y2 y3 y4))
  | 0 => fun _ _ _ _ _ r h => by simp [impl_FootingsFor.l0] at h
  | k + 1 => by
    have ih0 := impl_FootingsFor.mono_l k
    · intro y0 y1 y2 y3 y4
      unfold impl_FootingsFor.l0
      repeat' first
      | (with_reducible exact ih0 _ _ _ _ _)
      | (with_reducible exact impl_FootingsOf.mono _ _)
      | (with_reducible exact impl_StressesOf.mono _ _ _ _)
      | (with_reducible exact slices_Equal_int_int.mono _ _ _)
      | (with_reducible exact LeO.refl _)
      | (with_reducible exact LeO.none _)
      | (with_reducible refine LeO.ite ?_ ?_)
      | (with_reducible refine LeO.bind ?_ (fun _ => ?_))
      | exact ih0 _ _ _ _ _
      | exact impl_FootingsOf.mono _ _
      | exact impl_StressesOf.mono _ _ _ _
      | exact slices_Equal_int_int.mono _ _ _
      | exact LeO.none _
      | refine LeO.ite ?_ ?_
      | refine LeO.bind ?_ (fun _ => ?_)
theorem impl_FootingsFor.mono : ∀ a0 k, LeO (impl_FootingsFor.f k a0) (impl_FootingsFor.f (k + 1) a0) := by
  intro a0 k
  have ih0 := impl_FootingsFor.mono_l k
  unfold impl_FootingsFor.f
  repeat' first
      | (with_reducible exact ih0 _ _ _ _ _)
      | (with_reducible exact impl_FootingsOf.mono _ _)
      | (with_reducible exact impl_StressesOf.mono _ _ _ _)
      | (with_reducible exact slices_Equal_int_int.mono _ _ _)
      | (with_reducible exact LeO.refl _)
      | (with_reducible exact LeO.none _)
      | (with_reducible refine LeO.ite ?_ ?_)
      | (with_reducible refine LeO.bind ?_ (fun _ => ?_))
      | exact ih0 _ _ _ _ _
      | exact impl_FootingsOf.mono _ _
      | exact impl_StressesOf.mono _ _ _ _
      | exact slices_Equal_int_int.mono _ _ _
      | exact LeO.none _
      | refine LeO.ite ?_ ?_
      | refine LeO.bind ?_ (fun _ => ?_)
set_option maxHeartbeats 8000000 in
set_option maxRecDepth 100000 in
theorem impl_FootingsFor.calls (k : Nat) (A0 : Option Addr) (c0 : Nat) (l0 : List Int) (r : List (S80)) (w : World) (hr0 : Kd.C (Kd.int .i64) w A0 l0.length l0) (hc0 : l0.length ≤ c0) (h : impl_FootingsFor.f k l0 = some r) :
    Calls Try.prog 83 #[.slice A0 l0.length c0] w fun e w' => ∃ v0_ : Value, e = .returned (v0_) ∧ Kd.N k80 80 w' w.heap.size (fun k_ => (w.heap.size ≤ k_)) v0_ r ∧ Below w.heap.size w w' := by
  have hu80 := Try.underlying80
  have HR0 := Aside0.mk hr0
  have HC0 := Aside0.mk hc0
  clear hr0 hc0
  have HB := Aside0.mk (Below.refl w.heap.size w)
  have H : ((impl_FootingsOf.f k (l0.length : Int)).bind fun t231 => (impl_FootingsFor.l0 k l0 (([] : List (S80))) t231 (t231.length : Int) 0)) = some r := h
  clear h
  obtain ⟨y228, hy228⟩ : ∃ y_ : List (S80), y_ = (([] : List (S80))) := ⟨_, rfl⟩
  replace H : ((impl_FootingsOf.f k (l0.length : Int)).bind fun t231 => (impl_FootingsFor.l0 k l0 y228 t231 (t231.length : Int) 0)) = some r := by first | (rw [hy228]; with_reducible exact H) | (have H2_ := (Option.bind_some _ _).symm.trans H; rw [hy228]; with_reducible exact H2_) | (have H2_ := (Option.bind_some _ _).symm.trans H; with_reducible exact H2_) | with_reducible exact H | (rw [hy228]; exact H) | exact H
  have Ny228 := Aside0.mk hy228
  clear hy228
  replace H := Option.bind_eq_some_iff.mp H
  obtain ⟨t231, A20, H⟩ := H
  replace H : (impl_FootingsFor.l0 k l0 y228 t231 (t231.length : Int) 0) = some r := H
  have A2 := Aside0.mk A20
  clear A20
  have H' := Aside0.mk H
  clear H
  go_enter Try.func83, Try.ntmps83
  go_wp2_with (first | ((with_reducible refine gate_dst (N := 6) rfl ?_); refine Kd.N_lit k80 _ 80 ?hg (N' := 6) ?hd (xs := ([] : List (S80))) (inner := []) (ok := (fun k_ => (w.heap.size ≤ k_))) (okp := (fun k_ => (w.heap.size ≤ k_))) ?hr ?hp (fun _ hk => hk) ((show ∀ k_, w.heap.size ≤ k_ → (fun k_ => (w.heap.size ≤ k_)) k_ from fun k_ hk => (Nat.le_trans (below_size (by repeat (first | (with_reducible first | exact HB.out | apply below_alloc | apply pw_below_drewN | apply below_drew1) | exact HB.out))) hk)) _ (Nat.le_refl _)) (Below.refl _ _) (Nat.le_refl _) (by simp) ?_; (case hd => rfl); (case hg => rfl); (case hr => first | (go_simp; done) | (go_simp; rfl)); (case hp => exact (Reps.none _ _)); intro v229 w3 ho4 hb hg_ hnew_; clear hg_ hnew_; (first | rw [← Ny228.out] at ho4 | (simp only [Int.reduceToNat] at ho4; rw [← Ny228.out] at ho4)); have n0_ := Aside0.mk (Kd.N_lower ho4 (below_size (by repeat (first | (with_reducible first | exact HB.out | apply below_alloc | apply pw_below_drewN | apply below_drew1) | exact HB.out)))); have n1_ := Aside0.mk (below_step (by repeat (first | (with_reducible first | exact HB.out | apply below_alloc | apply pw_below_drewN | apply below_drew1) | exact HB.out)) hb); clear HB; have HO230 := n0_; have HB := n1_; clear n0_ n1_; clear hb ho4) | ((with_reducible refine gate_callee (f := 150) rfl ?_); refine goesL_ (some 9) rfl rfl Try.func150 (by kernel_rfl) rfl #[.int .i64 (l0.length : Int)] rfl (by (try simp only [List.map_toArray, List.map_cons, List.map_nil]); first | done | rfl | (simp only [List.length_drop, List.length_take]; rfl)) ?_; (with_reducible refine (impl_FootingsOf.calls k (l0.length : Int) t231 _ A2.out).mono ?_); rintro e w5 ⟨v232, rfl, ho0, hb⟩; refine ⟨_, rfl, ?_⟩; have n0_ := Aside0.mk (Kd.N_elder' (by (with_reducible repeat (first | apply Kd.N_alloc | apply Kd.N_drewN | apply Kd.N_drew)); exact HO230.out) (Kd.N_base (Kd.S_N ho0)) hb); have n1_ := Aside0.mk (Kd.N_lower (Kd.N_mono (ok' := fun k_ => (w.heap.size ≤ k_) ∧ some k_ ≠ (v229 : Value).ownBlock) (Kd.S_N (Kd.S_bound ho0)) (fun k_ hk_ => ⟨(Nat.le_trans (below_size (by repeat (first | (with_reducible first | exact HB.out | apply below_alloc | apply pw_below_drewN | apply below_drew1) | exact HB.out))) hk_.2.1), (Kd.fresh' (Kd.N_lt (by (with_reducible repeat (first | apply Kd.N_alloc | apply Kd.N_drewN | apply Kd.N_drew)); exact HO230.out)) k_ hk_.2.1)⟩)) (below_size (by repeat (first | (with_reducible first | exact HB.out | apply below_alloc | apply pw_below_drewN | apply below_drew1) | exact HB.out)))); have n2_ := Aside0.mk (below_step (by repeat (first | (with_reducible first | exact HB.out | apply below_alloc | apply pw_below_drewN | apply below_drew1) | exact HB.out)) hb); clear HO230; clear HB; have HO230 := n0_; have HO233 := n1_; have HB := n2_; clear n0_ n1_ n2_; (try clear hb); (try clear hb2); (try clear hk); (try clear hi); (try clear ho0); obtain ⟨Ao6, co6, eo6⟩ := Kd.N_slice HO233.out; subst eo6))
  go_loopg [3, 11] k (fun kq v3 v11 w' => ∃ (x3_1 : List (S80)) (x11_1 : Int), v11 = .int .i64 x11_1 ∧ Aside0 (impl_FootingsFor.l0 kq l0 x3_1 t231 (t231.length : Int) x11_1 = some r) ∧ Aside0 (kq ≤ k) ∧ Aside0 (Kd.N k80 80 w' w.heap.size (fun k_ => (w.heap.size ≤ k_) ∧ some k_ ≠ ((.slice Ao6 t231.length co6) : Value).ownBlock) v3 x3_1) ∧ Aside0 (Kd.N k80 80 w' w.heap.size (fun k_ => (w.heap.size ≤ k_) ∧ some k_ ≠ (v3 : Value).ownBlock) (.slice Ao6 t231.length co6) t231) ∧ Aside0 (Below w.heap.size w w'))
  case atStart => exact ⟨(y228), (0), (by first | rfl | (simp; done) | (simp [*]; done)), H', ⟨Nat.le_refl _⟩, ⟨by (with_reducible repeat (first | apply Kd.N_alloc | apply Kd.N_drewN | apply Kd.N_drew)); exact HO230.out⟩, ⟨by (with_reducible repeat (first | apply Kd.N_alloc | apply Kd.N_drewN | apply Kd.N_drew)); exact HO233.out⟩, ⟨by repeat (first | (with_reducible first | exact HB.out | apply below_alloc | apply pw_below_drewN | apply below_drew1) | exact HB.out)⟩⟩
  case round =>
    clear H'
    try clear c1
    try clear p2
    obtain ⟨x3_1, x11_1, rfl, HA, HK1, HO_3, HO_9, HB⟩ := hrel
    cases gk with
    | zero => exact absurd HA.out (by simp [impl_FootingsFor.l0])
    | succ k1 =>
      have H := HA.out
      clear HA
      simp only [impl_FootingsFor.l0] at H
      by_cases c7 : x11_1 < (t231.length : Int)
      · rw [if_pos c7] at H
        have c7b0 : decide (x11_1 < (t231.length : Int)) = true := decide_eq_true c7
        clear c7
        by_cases c8 : 0 ≤ x11_1
        · rw [if_pos c8] at H
          have c8b0 : decide (0 ≤ x11_1) = true := decide_eq_true c8
          clear c8
          by_cases c9 : x11_1 < (t231.length : Int)
          · rw [if_pos c9] at H
            have c9b0 : decide (x11_1 < (t231.length : Int)) = true := decide_eq_true c9
            clear c9
            replace H := Option.bind_eq_some_iff.mp H
            obtain ⟨t236, A100, H⟩ := H
            replace H : ((slices_Equal_int_int.f k1 t236 l0).bind fun t239 => (if t239 = true then (if x3_1.length < 3518437208883 then (impl_FootingsFor.l0 k1 l0 (x3_1 ++ [(⟨(rd_T80 t231 x11_1).f0, (rd_T80 t231 x11_1).f1, (rd_T80 t231 x11_1).f2⟩ : S80)]) t231 (t231.length : Int) (wrap64 (x11_1 + 1))) else (none)) else (impl_FootingsFor.l0 k1 l0 x3_1 t231 (t231.length : Int) (wrap64 (x11_1 + 1))))) = some r := H
            have A10 := Aside0.mk A100
            clear A100
            replace H := Option.bind_eq_some_iff.mp H
            obtain ⟨t239, A110, H⟩ := H
            replace H : (if t239 = true then (if x3_1.length < 3518437208883 then (impl_FootingsFor.l0 k1 l0 (x3_1 ++ [(⟨(rd_T80 t231 x11_1).f0, (rd_T80 t231 x11_1).f1, (rd_T80 t231 x11_1).f2⟩ : S80)]) t231 (t231.length : Int) (wrap64 (x11_1 + 1))) else (none)) else (impl_FootingsFor.l0 k1 l0 x3_1 t231 (t231.length : Int) (wrap64 (x11_1 + 1)))) = some r := H
            have A11 := Aside0.mk A110
            clear A110
            by_cases c12 : t239 = true
            · subst c12
              have H1 : (if x3_1.length < 3518437208883 then (impl_FootingsFor.l0 k1 l0 (x3_1 ++ [(⟨(rd_T80 t231 x11_1).f0, (rd_T80 t231 x11_1).f1, (rd_T80 t231 x11_1).f2⟩ : S80)]) t231 (t231.length : Int) (wrap64 (x11_1 + 1))) else (none)) = some r := by rw [if_pos rfl] at H; exact H
              clear H
              have H := H1
              clear H1
              by_cases c13 : x3_1.length < 3518437208883
              · rw [if_pos c13] at H
                have LMc13 := Aside0.mk c13
                clear c13
                obtain ⟨y240, hy240⟩ : ∃ y_ : List (S80), y_ = (x3_1 ++ [(⟨(rd_T80 t231 x11_1).f0, (rd_T80 t231 x11_1).f1, (rd_T80 t231 x11_1).f2⟩ : S80)]) := ⟨_, rfl⟩
                replace H : (impl_FootingsFor.l0 k1 l0 y240 t231 (t231.length : Int) (wrap64 (x11_1 + 1))) = some r := by first | (rw [hy240]; with_reducible exact H) | (have H2_ := (Option.bind_some _ _).symm.trans H; rw [hy240]; with_reducible exact H2_) | (have H2_ := (Option.bind_some _ _).symm.trans H; with_reducible exact H2_) | with_reducible exact H | (rw [hy240]; exact H) | exact H
                have Ny240 := Aside0.mk hy240
                clear hy240
                have H' := Aside0.mk H
                clear H
                have p234 : 0 ≤ (x11_1 : Int) := of_decide_eq_true (by first | (with_reducible assumption) | assumption)
                have q234 : x11_1 < (t231.length : Int) := of_decide_eq_true (by first | (with_reducible assumption) | assumption)
                obtain ⟨ad234, A234_1, c234_1, e234, hx234_0, hx234_1, hx234_2, hl234_1, hi234_1⟩ := at_T80 (Kd.N_reads' HO_9.out).2.2 x11_1 p234 q234
                cases e234
                obtain ⟨ce234, hce234, hMe234, hcc234⟩ := Kd.N_get HO_9.out z80 x11_1 p234 (by first | exact q234 | exact of_decide_eq_true (by first | (with_reducible assumption) | assumption) | (have e_ := (Kd.N_reads' HO_9.out).1; omega))
                obtain ⟨ua234_1, uc234_1, rfl, ul234_1, ge234_1⟩ := k80_openF hMe234
                have hv234_1 := hcc234 1 _ rfl
                rw [add_field _ _ 1 (by omega)] at hv234_1
                replace hv234_1 := Option.some.inj (hv234_1.symm.trans hx234_1)
                injection hv234_1 with hva_ hvn_ hvc_
                rw [hva_] at ge234_1
                rw [hvc_] at ul234_1
                have HL234_1 := Aside0.mk (show Kd.V k164 164 _ w.heap.size _ _ ((rd_T80 t231 x11_1).f1) from Kd.V_mk ul234_1 ge234_1)
                clear hva_ hvn_ hvc_ ge234_1 ul234_1
                clear hcc234 hce234
                have HR234_1 := Aside0.mk hi234_1
                have HC234_1 := Aside0.mk hl234_1
                clear hi234_1 hl234_1
                replace p234 := eq_true p234
                replace q234 := eq_true q234
                go_wp2_with (first | ((with_reducible refine gate_dst (N := 5) rfl ?_); refine box_event ?hg (N := 5) ?hd (cs := #[.int .i64 0, .slice none 0 0, .int .i64 0]) (t := 80) ?hr ?_; (case hd => rfl); (case hg => rfl); (case hr => first | (go_simp; done) | (go_simp; rfl)); intro gb235 hg w14 hbox hb; have n0_ := Aside0.mk (Kd.N_below (Kd.N_elderB (by (with_reducible repeat (first | apply Kd.N_alloc | apply Kd.N_drewN | apply Kd.N_drew)); exact HO_3.out) gb235 (Nat.le_of_eq hg.symm)) hb); have n1_ := Aside0.mk (Kd.N_below (Kd.N_elderB (by (with_reducible repeat (first | apply Kd.N_alloc | apply Kd.N_drewN | apply Kd.N_drew)); exact HO_9.out) gb235 (Nat.le_of_eq hg.symm)) hb); have n2_ := Aside0.mk (Kd.V_below (Kd.V_elderB (by (with_reducible repeat (first | apply Kd.V_alloc | apply Kd.V_drewN | apply Kd.V_drew)); exact HL234_1.out) gb235 (Nat.le_of_eq hg.symm)) hb); have n3_ := Aside0.mk (Kd.C_below (by repeat (first | (with_reducible exact HR234_1.out) | (with_reducible refine Kd.C_alloc ?_ _) | (with_reducible refine Kd.C_drewN ?_ _) | (with_reducible refine Kd.C_drew ?_) | exact HR234_1.out)) hb); have n4_ := Aside0.mk (below_step (by repeat (first | (with_reducible first | exact HB.out | apply below_alloc | apply pw_below_drewN | apply below_drew1) | exact HB.out)) hb); have n5_ := Aside0.mk (hbox); have n6_ := Aside0.mk ((by rw [hg]; exact (below_size (by repeat (first | (with_reducible first | exact HB.out | apply below_alloc | apply pw_below_drewN | apply below_drew1) | exact HB.out))) : w.heap.size ≤ gb235)); have n7_ := Aside0.mk ((by rw [hg]; exact (below_size (by repeat (first | (with_reducible first | exact HB.out | apply below_alloc | apply pw_below_drewN | apply below_drew1) | exact HB.out))) : w.heap.size ≤ gb235)); clear HO_3; clear HO_9; clear HL234_1; clear HR234_1; clear HB; have HO_3 := n0_; have HO_9 := n1_; have HL234_1 := n2_; have HR234_1 := n3_; have HB := n4_; have BK235 := n5_; have GW235 := n6_; have GE235 := n7_; clear n0_ n1_ n2_ n3_ n4_ n5_ n6_ n7_; clear hb hbox hg; have hcz15_0 : w14.cell? ⟨gb235, 0, none⟩ = some (.int .i64 0) := (blk_cell BK235.out 0).trans rfl; have hcz15_1 : w14.cell? ⟨gb235, 1, none⟩ = some (.slice none 0 0) := (blk_cell BK235.out 1).trans rfl; have hcz15_2 : w14.cell? ⟨gb235, 2, none⟩ = some (.int .i64 0) := (blk_cell BK235.out 2).trans rfl; have hfz15_0 := blk_frozen BK235.out 0; have hfz15_1 := blk_frozen BK235.out 1; have hfz15_2 := blk_frozen BK235.out 2) | ((with_reducible refine gate_callee (f := 122) rfl ?_); refine goesL_ (some 16) rfl rfl Try.func122 (by kernel_rfl) rfl #[.agg #[.int .i64 ((rd_T80 t231 x11_1).f0), .slice A234_1 ((rd_T80 t231 x11_1).f1).length c234_1, .int .i64 ((rd_T80 t231 x11_1).f2)]] rfl (by (try simp only [List.map_toArray, List.map_cons, List.map_nil]); first | done | rfl | (simp only [List.length_drop, List.length_take]; rfl)) ?_; (with_reducible refine (impl_StressesOf.calls k1 ((rd_T80 t231 x11_1).f0) _ _ ((rd_T80 t231 x11_1).f1) ((rd_T80 t231 x11_1).f2) t236 _ ?side1 ?side2 A10.out).mono ?_); (case side1 => repeat (first | exact ((Kd.V_reads' (by (with_reducible repeat (first | apply Kd.V_alloc | apply Kd.V_drewN | apply Kd.V_drew)); exact (Kd.V_mono (Kd.V_far (p := ⟨gb235, 2, none⟩) (Kd.V_far (p := ⟨gb235, 1, none⟩) (Kd.V_far (p := ⟨gb235, 0, none⟩) (Kd.V_mono HL234_1.out (fun k_ hk => (⟨hk, hk.2⟩ : _ ∧ k_ ≠ gb235))) (fun _ hk => hk.2) (.int .i64 ((rd_T80 t231 x11_1).f0))) (fun _ hk => hk.2) (.slice A234_1 ((rd_T80 t231 x11_1).f1).length c234_1)) (fun _ hk => hk.2) (.int .i64 ((rd_T80 t231 x11_1).f2))) (fun _ h_ => h_.1)))).2.2) | (with_reducible refine Kd.C_alloc ?_ _) | (with_reducible refine Kd.C_drewN ?_ _) | (with_reducible refine Kd.C_drew ?_))); (case side2 => exact HC234_1.out); rintro e w16 ⟨v237, rfl, ho0, hb⟩; refine ⟨_, rfl, ?_⟩; have n0_ := Aside0.mk (Kd.N_elder' (by (with_reducible repeat (first | apply Kd.N_alloc | apply Kd.N_drewN | apply Kd.N_drew)); exact (Kd.N_mono (Kd.N_far (p := ⟨gb235, 2, none⟩) (Kd.N_far (p := ⟨gb235, 1, none⟩) (Kd.N_far (p := ⟨gb235, 0, none⟩) (Kd.N_mono HO_3.out (fun k_ hk => (⟨hk, hk.2⟩ : _ ∧ k_ ≠ gb235))) (fun _ hk => hk.2) (.int .i64 ((rd_T80 t231 x11_1).f0))) (fun _ hk => hk.2) (.slice A234_1 ((rd_T80 t231 x11_1).f1).length c234_1)) (fun _ hk => hk.2) (.int .i64 ((rd_T80 t231 x11_1).f2))) (fun _ h_ => h_.1))) (Kd.R_base ho0) hb); have n1_ := Aside0.mk (Kd.N_elder' (by (with_reducible repeat (first | apply Kd.N_alloc | apply Kd.N_drewN | apply Kd.N_drew)); exact (Kd.N_mono (Kd.N_far (p := ⟨gb235, 2, none⟩) (Kd.N_far (p := ⟨gb235, 1, none⟩) (Kd.N_far (p := ⟨gb235, 0, none⟩) (Kd.N_mono HO_9.out (fun k_ hk => (⟨hk, hk.2⟩ : _ ∧ k_ ≠ gb235))) (fun _ hk => hk.2) (.int .i64 ((rd_T80 t231 x11_1).f0))) (fun _ hk => hk.2) (.slice A234_1 ((rd_T80 t231 x11_1).f1).length c234_1)) (fun _ hk => hk.2) (.int .i64 ((rd_T80 t231 x11_1).f2))) (fun _ h_ => h_.1))) (Kd.R_base ho0) hb); have n2_ := Aside0.mk (Kd.V_elder' (by (with_reducible repeat (first | apply Kd.V_alloc | apply Kd.V_drewN | apply Kd.V_drew)); exact (Kd.V_mono (Kd.V_far (p := ⟨gb235, 2, none⟩) (Kd.V_far (p := ⟨gb235, 1, none⟩) (Kd.V_far (p := ⟨gb235, 0, none⟩) (Kd.V_mono HL234_1.out (fun k_ hk => (⟨hk, hk.2⟩ : _ ∧ k_ ≠ gb235))) (fun _ hk => hk.2) (.int .i64 ((rd_T80 t231 x11_1).f0))) (fun _ hk => hk.2) (.slice A234_1 ((rd_T80 t231 x11_1).f1).length c234_1)) (fun _ hk => hk.2) (.int .i64 ((rd_T80 t231 x11_1).f2))) (fun _ h_ => h_.1))) (Kd.R_base ho0) hb); have n3_ := Aside0.mk (Kd.R_lower (Kd.R_newM (M := fun k_ => (w.heap.size ≤ k_)) ho0 (below_size (by repeat (first | (with_reducible first | exact HB.out | apply below_alloc | apply pw_below_drewN | apply below_drew1 | refine below_set ?_ GE235.out) | exact HB.out))) (fun k_ h_ => h_)) (below_size (by repeat (first | (with_reducible first | exact HB.out | apply below_alloc | apply pw_below_drewN | apply below_drew1 | refine below_set ?_ GE235.out) | exact HB.out)))); have n4_ := Aside0.mk (Kd.C_below ((Kd.V_reads' (by (with_reducible repeat (first | apply Kd.V_alloc | apply Kd.V_drewN | apply Kd.V_drew)); exact (Kd.V_mono (Kd.V_far (p := ⟨gb235, 2, none⟩) (Kd.V_far (p := ⟨gb235, 1, none⟩) (Kd.V_far (p := ⟨gb235, 0, none⟩) (Kd.V_mono HL234_1.out (fun k_ hk => (⟨hk, hk.2⟩ : _ ∧ k_ ≠ gb235))) (fun _ hk => hk.2) (.int .i64 ((rd_T80 t231 x11_1).f0))) (fun _ hk => hk.2) (.slice A234_1 ((rd_T80 t231 x11_1).f1).length c234_1)) (fun _ hk => hk.2) (.int .i64 ((rd_T80 t231 x11_1).f2))) (fun _ h_ => h_.1)))).2.2) hb); have n5_ := Aside0.mk (blk_below (g := gb235) (o := .cells #[.int .i64 ((rd_T80 t231 x11_1).f0), .slice A234_1 ((rd_T80 t231 x11_1).f1).length c234_1, .int .i64 ((rd_T80 t231 x11_1).f2)] 80 (0, 0)) (by (with_reducible repeat (first | refine blk_drewN ?_ _ | refine blk_drew ?_ | refine blk_alloc ?_ _)); refine blk_put (cs := #[.int .i64 ((rd_T80 t231 x11_1).f0), .slice A234_1 ((rd_T80 t231 x11_1).f1).length c234_1, .int .i64 0]) ?_ 2 _ rfl; (with_reducible repeat (first | refine blk_drewN ?_ _ | refine blk_drew ?_ | refine blk_alloc ?_ _)); refine blk_put (cs := #[.int .i64 ((rd_T80 t231 x11_1).f0), .slice none 0 0, .int .i64 0]) ?_ 1 _ rfl; (with_reducible repeat (first | refine blk_drewN ?_ _ | refine blk_drew ?_ | refine blk_alloc ?_ _)); refine blk_put (cs := #[.int .i64 0, .slice none 0 0, .int .i64 0]) ?_ 0 _ rfl; (with_reducible repeat (first | refine blk_drewN ?_ _ | refine blk_drew ?_ | refine blk_alloc ?_ _)); exact BK235.out) hb); have n6_ := Aside0.mk (below_step (by repeat (first | (with_reducible first | exact HB.out | apply below_alloc | apply pw_below_drewN | apply below_drew1 | refine below_set ?_ GE235.out) | exact HB.out)) hb); clear HO_3; clear HO_9; clear HL234_1; clear HR234_1; clear BK235; clear HB; have HO_3 := n0_; have HO_9 := n1_; have HL234_1 := n2_; have HO238 := n3_; have HR234_1 := n4_; have BK235 := n5_; have HB := n6_; clear n0_ n1_ n2_ n3_ n4_ n5_ n6_; (try clear hb); (try clear hb2); (try clear hk); (try clear hi); (try clear ho0); obtain ⟨Ao17, co17, eo17⟩ := Kd.R_slice HO238.out; subst eo17) | ((with_reducible refine gate_callee (f := 121) rfl ?_); refine goesL_ (some 18) rfl rfl Try.func121 (by kernel_rfl) rfl #[.slice Ao17 t236.length co17, .slice A0 l0.length c0] rfl (by (try simp only [List.map_toArray, List.map_cons, List.map_nil]); first | done | rfl | (simp only [List.length_drop, List.length_take]; rfl)) ?_; (with_reducible refine (slices_Equal_int_int.calls k1 _ _ t236 _ _ l0 true _ ?side1 ?side2 ?side3 ?side4 A11.out).mono ?_); (case side1 => repeat (first | exact (Kd.R_reads' HO238.out).2.2 | (with_reducible refine Kd.C_alloc ?_ _) | (with_reducible refine Kd.C_drewN ?_ _) | (with_reducible refine Kd.C_drew ?_))); (case side2 => exact (Kd.R_reads' HO238.out).2.1); (case side3 => repeat (first | exact (Kd.C_below HR0.out HB.out) | (with_reducible refine Kd.C_alloc ?_ _) | (with_reducible refine Kd.C_drewN ?_ _) | (with_reducible refine Kd.C_drew ?_))); (case side4 => exact HC0.out); rintro e w' ⟨rfl, ⟨nd, rfl⟩⟩; refine ⟨_, rfl, ?_⟩; have hcz18_0 : w16.cell? ⟨gb235, 0, none⟩ = some (.int .i64 ((rd_T80 t231 x11_1).f0)) := (blk_cell BK235.out 0).trans rfl; have hcz18_1 : w16.cell? ⟨gb235, 1, none⟩ = some (.slice A234_1 ((rd_T80 t231 x11_1).f1).length c234_1) := (blk_cell BK235.out 1).trans rfl; have hcz18_2 : w16.cell? ⟨gb235, 2, none⟩ = some (.int .i64 ((rd_T80 t231 x11_1).f2)) := (blk_cell BK235.out 2).trans rfl; have hfz18_0 := blk_frozen BK235.out 0; have hfz18_1 := blk_frozen BK235.out 1; have hfz18_2 := blk_frozen BK235.out 2) | ((with_reducible refine gate_builtin (b := .append) (xs := #[.tmp 19, .tmp 21]) rfl ?_); at_builtin; refine Kd.N_append k80 (w0 := w) w.heap.size rfl (.tmp 19) (.tmp 21) 109 80 (.agg #[(.int .i64 0), (.slice none 0 0), (.int .i64 0)]) 40 rfl Try.underlying109 info80 rfl (by decide) (by omega) u3 x3_1 (⟨(rd_T80 t231 x11_1).f0, (rd_T80 t231 x11_1).f1, (rd_T80 t231 x11_1).f2⟩ : S80) [.int .i64 ((rd_T80 t231 x11_1).f0), .slice A234_1 ((rd_T80 t231 x11_1).f1).length c234_1, .int .i64 ((rd_T80 t231 x11_1).f2)] (fun k_ => (w.heap.size ≤ k_) ∧ some k_ ≠ (.slice (some ad234) t231.length co6 : Value).ownBlock ∧ some k_ ≠ (.slice Ao17 t236.length co17 : Value).ownBlock ∧ k_ ≠ gb235) (fun k_ => ((fun k_ => (w.heap.size ≤ k_) ∧ some k_ ≠ (.slice (some ad234) t231.length co6 : Value).ownBlock ∧ some k_ ≠ (.slice Ao17 t236.length co17 : Value).ownBlock ∧ k_ ≠ gb235)) k_ ∧ some k_ ≠ (u3 : Value).ownBlock) rfl rfl ?aP (fun _ hk => hk) ?aF ?aO ?aB ?aS ?aL ?_; (case aP => first | exact (k80_mkF _ _ (⟨(rd_T80 t231 x11_1).f0, (rd_T80 t231 x11_1).f1, (rd_T80 t231 x11_1).f2⟩ : S80) (Kd.V_reads' (Kd.V_mono (ok' := (fun k_ => ((fun k_ => (w.heap.size ≤ k_) ∧ some k_ ≠ (.slice (some ad234) t231.length co6 : Value).ownBlock ∧ some k_ ≠ (.slice Ao17 t236.length co17 : Value).ownBlock ∧ k_ ≠ gb235)) k_ ∧ some k_ ≠ (u3 : Value).ownBlock)) (HL234_1.out) (fun k_ hk => ⟨⟨hk.1.1.1.1, ⟨hk.1.1.2, ⟨hk.2, hk.1.2⟩⟩⟩, hk.1.1.1.2⟩))).2.1 (Kd.V_F (Kd.V_mono (ok' := (fun k_ => ((fun k_ => (w.heap.size ≤ k_) ∧ some k_ ≠ (.slice (some ad234) t231.length co6 : Value).ownBlock ∧ some k_ ≠ (.slice Ao17 t236.length co17 : Value).ownBlock ∧ k_ ≠ gb235)) k_ ∧ some k_ ≠ (u3 : Value).ownBlock)) (HL234_1.out) (fun k_ hk => ⟨⟨hk.1.1.1.1, ⟨hk.1.1.2, ⟨hk.2, hk.1.2⟩⟩⟩, hk.1.1.1.2⟩)))) | (have HL234_1q_ := Kd.V_drewN HL234_1.out nd; exact (k80_mkF _ _ (⟨(rd_T80 t231 x11_1).f0, (rd_T80 t231 x11_1).f1, (rd_T80 t231 x11_1).f2⟩ : S80) (Kd.V_reads' (Kd.V_mono (ok' := (fun k_ => ((fun k_ => (w.heap.size ≤ k_) ∧ some k_ ≠ (.slice (some ad234) t231.length co6 : Value).ownBlock ∧ some k_ ≠ (.slice Ao17 t236.length co17 : Value).ownBlock ∧ k_ ≠ gb235)) k_ ∧ some k_ ≠ (u3 : Value).ownBlock)) HL234_1q_ (fun k_ hk => ⟨⟨hk.1.1.1.1, ⟨hk.1.1.2, ⟨hk.2, hk.1.2⟩⟩⟩, hk.1.1.1.2⟩))).2.1 (Kd.V_F (Kd.V_mono (ok' := (fun k_ => ((fun k_ => (w.heap.size ≤ k_) ∧ some k_ ≠ (.slice (some ad234) t231.length co6 : Value).ownBlock ∧ some k_ ≠ (.slice Ao17 t236.length co17 : Value).ownBlock ∧ k_ ≠ gb235)) k_ ∧ some k_ ≠ (u3 : Value).ownBlock)) HL234_1q_ (fun k_ hk => ⟨⟨hk.1.1.1.1, ⟨hk.1.1.2, ⟨hk.2, hk.1.2⟩⟩⟩, hk.1.1.1.2⟩)))))); (case aB => exact (by repeat (first | (with_reducible first | exact HB.out | apply below_alloc | apply pw_below_drewN | apply below_drew1 | refine below_set ?_ GE235.out) | exact HB.out))); (case aF => exact (fun k_ hk => ⟨(Nat.le_trans (below_size (by repeat (first | (with_reducible first | exact HB.out | apply below_alloc | apply pw_below_drewN | apply below_drew1 | refine below_set ?_ GE235.out) | exact HB.out))) hk), Kd.fresh' (Kd.N_lt (by (with_reducible repeat (first | apply Kd.N_alloc | apply Kd.N_drewN | apply Kd.N_drew)); exact HO_9.out)) k_ hk, Kd.fresh' (Kd.R_lt (by (with_reducible repeat (first | apply Kd.R_alloc | apply Kd.R_drewN | apply Kd.R_drew)); exact HO238.out)) k_ hk, Kd.freshB (g := gb235) (o := .cells #[.int .i64 ((rd_T80 t231 x11_1).f0), .slice A234_1 ((rd_T80 t231 x11_1).f1).length c234_1, .int .i64 ((rd_T80 t231 x11_1).f2)] 80 (0, 0)) (by (with_reducible repeat (first | refine blk_drewN ?_ _ | refine blk_drew ?_ | refine blk_alloc ?_ _)); exact BK235.out) k_ hk⟩)); (case aO => exact (by (with_reducible repeat (first | apply Kd.N_alloc | apply Kd.N_drewN | apply Kd.N_drew)); exact Kd.N_mono HO_3.out (fun _ hk => ⟨hk.1.1.1, ⟨hk.1.1.2, ⟨hk.2, hk.1.2⟩⟩⟩))); (case aS => exact (below_size (by repeat (first | (with_reducible first | exact HB.out | apply below_alloc | apply pw_below_drewN | apply below_drew1 | refine below_set ?_ GE235.out) | exact HB.out)))); (case aL => have := LMc13.out; omega); intro v241 w19 ho hb hg hat; rw [← Ny240.out] at ho; have n0_ := Aside0.mk (Kd.N_afterv (ok := (fun k_ => (w.heap.size ≤ k_) ∧ some k_ ≠ (.slice Ao17 t236.length co17 : Value).ownBlock ∧ k_ ≠ gb235)) (by (with_reducible repeat (first | apply Kd.N_alloc | apply Kd.N_drewN | apply Kd.N_drew)); exact Kd.N_mono HO_9.out (fun _ hk => ⟨⟨hk.1.1.1, ⟨hk.2, hk.1.2⟩⟩, hk.1.1.2⟩)) hg hat); have n1_ := Aside0.mk (Kd.V_afterv (ok := (fun k_ => (w.heap.size ≤ k_) ∧ some k_ ≠ (.slice (some ad234) t231.length co6 : Value).ownBlock ∧ some k_ ≠ (.slice Ao17 t236.length co17 : Value).ownBlock ∧ k_ ≠ gb235)) (by (with_reducible repeat (first | apply Kd.V_alloc | apply Kd.V_drewN | apply Kd.V_drew)); exact Kd.V_mono HL234_1.out (fun _ hk => ⟨⟨hk.1.1.1.1, ⟨hk.1.1.2, ⟨hk.2, hk.1.2⟩⟩⟩, hk.1.1.1.2⟩)) hg hat); have n2_ := Aside0.mk (blk_grown (g := gb235) (o := .cells #[.int .i64 ((rd_T80 t231 x11_1).f0), .slice A234_1 ((rd_T80 t231 x11_1).f1).length c234_1, .int .i64 ((rd_T80 t231 x11_1).f2)] 80 (0, 0)) (by (with_reducible repeat (first | refine blk_drewN ?_ _ | refine blk_drew ?_ | refine blk_alloc ?_ _)); exact BK235.out) hg (Kd.N_away HO_3.out (fun _ hk => hk.1.2))); have n3_ := Aside0.mk (Kd.R_over' (by (with_reducible repeat (first | apply Kd.R_alloc | apply Kd.R_drewN | apply Kd.R_drew)); exact HO238.out) (Kd.N_typed (by (with_reducible repeat (first | apply Kd.N_alloc | apply Kd.N_drewN | apply Kd.N_drew)); exact HO_3.out)) (by decide) hg); have n4_ := Aside0.mk (hb); have n5_ := Aside0.mk (ho); clear HO_9; clear HL234_1; clear BK235; clear HO238; clear HB; clear HO_3; have HO_9 := n0_; have HL234_1 := n1_; have BK235 := n2_; have HO238 := n3_; have HB := n4_; have HO242 := n5_; clear n0_ n1_ n2_ n3_ n4_ n5_; clear ho hb hg hat))
                go_roundg k1
                case measure => have := HK1.out; omega
                case rel => exact ⟨(y240), (wrap64 (x11_1 + 1)), (by first | rfl | (simp; done) | (simp [*]; done)), H', ⟨by have := HK1.out; omega⟩, ⟨by (with_reducible repeat (first | apply Kd.N_alloc | apply Kd.N_drewN | apply Kd.N_drew)); exact Kd.N_mono HO242.out (fun _ hk => ⟨hk.1, hk.2.1⟩)⟩, ⟨by (with_reducible repeat (first | apply Kd.N_alloc | apply Kd.N_drewN | apply Kd.N_drew)); exact Kd.N_mono HO_9.out (fun _ hk => ⟨hk.1.1, hk.2⟩)⟩, ⟨by repeat (first | (with_reducible first | exact HB.out | apply below_alloc | apply pw_below_drewN | apply below_drew1 | refine below_set ?_ GE235.out) | exact HB.out)⟩⟩
              · rw [if_neg c13] at H
                exact absurd H (by simp)
            · replace c12 := Bool.eq_false_iff.mpr c12
              subst c12
              have H1 : (impl_FootingsFor.l0 k1 l0 x3_1 t231 (t231.length : Int) (wrap64 (x11_1 + 1))) = some r := by rw [if_neg (show ¬ (false = true) by decide)] at H; exact H
              clear H
              have H := H1
              clear H1
              have H' := Aside0.mk H
              clear H
              have p234 : 0 ≤ (x11_1 : Int) := of_decide_eq_true (by first | (with_reducible assumption) | assumption)
              have q234 : x11_1 < (t231.length : Int) := of_decide_eq_true (by first | (with_reducible assumption) | assumption)
              obtain ⟨ad234, A234_1, c234_1, e234, hx234_0, hx234_1, hx234_2, hl234_1, hi234_1⟩ := at_T80 (Kd.N_reads' HO_9.out).2.2 x11_1 p234 q234
              cases e234
              obtain ⟨ce234, hce234, hMe234, hcc234⟩ := Kd.N_get HO_9.out z80 x11_1 p234 (by first | exact q234 | exact of_decide_eq_true (by first | (with_reducible assumption) | assumption) | (have e_ := (Kd.N_reads' HO_9.out).1; omega))
              obtain ⟨ua234_1, uc234_1, rfl, ul234_1, ge234_1⟩ := k80_openF hMe234
              have hv234_1 := hcc234 1 _ rfl
              rw [add_field _ _ 1 (by omega)] at hv234_1
              replace hv234_1 := Option.some.inj (hv234_1.symm.trans hx234_1)
              injection hv234_1 with hva_ hvn_ hvc_
              rw [hva_] at ge234_1
              rw [hvc_] at ul234_1
              have HL234_1 := Aside0.mk (show Kd.V k164 164 _ w.heap.size _ _ ((rd_T80 t231 x11_1).f1) from Kd.V_mk ul234_1 ge234_1)
              clear hva_ hvn_ hvc_ ge234_1 ul234_1
              clear hcc234 hce234
              have HR234_1 := Aside0.mk hi234_1
              have HC234_1 := Aside0.mk hl234_1
              clear hi234_1 hl234_1
              replace p234 := eq_true p234
              replace q234 := eq_true q234
              go_wp2_with (first | ((with_reducible refine gate_dst (N := 5) rfl ?_); refine box_event ?hg (N := 5) ?hd (cs := #[.int .i64 0, .slice none 0 0, .int .i64 0]) (t := 80) ?hr ?_; (case hd => rfl); (case hg => rfl); (case hr => first | (go_simp; done) | (go_simp; rfl)); intro gb235 hg w20 hbox hb; have n0_ := Aside0.mk (Kd.N_below (Kd.N_elderB (by (with_reducible repeat (first | apply Kd.N_alloc | apply Kd.N_drewN | apply Kd.N_drew)); exact HO_3.out) gb235 (Nat.le_of_eq hg.symm)) hb); have n1_ := Aside0.mk (Kd.N_below (Kd.N_elderB (by (with_reducible repeat (first | apply Kd.N_alloc | apply Kd.N_drewN | apply Kd.N_drew)); exact HO_9.out) gb235 (Nat.le_of_eq hg.symm)) hb); have n2_ := Aside0.mk (Kd.V_below (Kd.V_elderB (by (with_reducible repeat (first | apply Kd.V_alloc | apply Kd.V_drewN | apply Kd.V_drew)); exact HL234_1.out) gb235 (Nat.le_of_eq hg.symm)) hb); have n3_ := Aside0.mk (Kd.C_below (by repeat (first | (with_reducible exact HR234_1.out) | (with_reducible refine Kd.C_alloc ?_ _) | (with_reducible refine Kd.C_drewN ?_ _) | (with_reducible refine Kd.C_drew ?_) | exact HR234_1.out)) hb); have n4_ := Aside0.mk (below_step (by repeat (first | (with_reducible first | exact HB.out | apply below_alloc | apply pw_below_drewN | apply below_drew1) | exact HB.out)) hb); have n5_ := Aside0.mk (hbox); have n6_ := Aside0.mk ((by rw [hg]; exact (below_size (by repeat (first | (with_reducible first | exact HB.out | apply below_alloc | apply pw_below_drewN | apply below_drew1) | exact HB.out))) : w.heap.size ≤ gb235)); have n7_ := Aside0.mk ((by rw [hg]; exact (below_size (by repeat (first | (with_reducible first | exact HB.out | apply below_alloc | apply pw_below_drewN | apply below_drew1) | exact HB.out))) : w.heap.size ≤ gb235)); clear HO_3; clear HO_9; clear HL234_1; clear HR234_1; clear HB; have HO_3 := n0_; have HO_9 := n1_; have HL234_1 := n2_; have HR234_1 := n3_; have HB := n4_; have BK235 := n5_; have GW235 := n6_; have GE235 := n7_; clear n0_ n1_ n2_ n3_ n4_ n5_ n6_ n7_; clear hb hbox hg; have hcz21_0 : w20.cell? ⟨gb235, 0, none⟩ = some (.int .i64 0) := (blk_cell BK235.out 0).trans rfl; have hcz21_1 : w20.cell? ⟨gb235, 1, none⟩ = some (.slice none 0 0) := (blk_cell BK235.out 1).trans rfl; have hcz21_2 : w20.cell? ⟨gb235, 2, none⟩ = some (.int .i64 0) := (blk_cell BK235.out 2).trans rfl; have hfz21_0 := blk_frozen BK235.out 0; have hfz21_1 := blk_frozen BK235.out 1; have hfz21_2 := blk_frozen BK235.out 2) | ((with_reducible refine gate_callee (f := 122) rfl ?_); refine goesL_ (some 16) rfl rfl Try.func122 (by kernel_rfl) rfl #[.agg #[.int .i64 ((rd_T80 t231 x11_1).f0), .slice A234_1 ((rd_T80 t231 x11_1).f1).length c234_1, .int .i64 ((rd_T80 t231 x11_1).f2)]] rfl (by (try simp only [List.map_toArray, List.map_cons, List.map_nil]); first | done | rfl | (simp only [List.length_drop, List.length_take]; rfl)) ?_; (with_reducible refine (impl_StressesOf.calls k1 ((rd_T80 t231 x11_1).f0) _ _ ((rd_T80 t231 x11_1).f1) ((rd_T80 t231 x11_1).f2) t236 _ ?side1 ?side2 A10.out).mono ?_); (case side1 => repeat (first | exact ((Kd.V_reads' (by (with_reducible repeat (first | apply Kd.V_alloc | apply Kd.V_drewN | apply Kd.V_drew)); exact (Kd.V_mono (Kd.V_far (p := ⟨gb235, 2, none⟩) (Kd.V_far (p := ⟨gb235, 1, none⟩) (Kd.V_far (p := ⟨gb235, 0, none⟩) (Kd.V_mono HL234_1.out (fun k_ hk => (⟨hk, hk.2⟩ : _ ∧ k_ ≠ gb235))) (fun _ hk => hk.2) (.int .i64 ((rd_T80 t231 x11_1).f0))) (fun _ hk => hk.2) (.slice A234_1 ((rd_T80 t231 x11_1).f1).length c234_1)) (fun _ hk => hk.2) (.int .i64 ((rd_T80 t231 x11_1).f2))) (fun _ h_ => h_.1)))).2.2) | (with_reducible refine Kd.C_alloc ?_ _) | (with_reducible refine Kd.C_drewN ?_ _) | (with_reducible refine Kd.C_drew ?_))); (case side2 => exact HC234_1.out); rintro e w22 ⟨v237, rfl, ho0, hb⟩; refine ⟨_, rfl, ?_⟩; have n0_ := Aside0.mk (Kd.N_elder' (by (with_reducible repeat (first | apply Kd.N_alloc | apply Kd.N_drewN | apply Kd.N_drew)); exact (Kd.N_mono (Kd.N_far (p := ⟨gb235, 2, none⟩) (Kd.N_far (p := ⟨gb235, 1, none⟩) (Kd.N_far (p := ⟨gb235, 0, none⟩) (Kd.N_mono HO_3.out (fun k_ hk => (⟨hk, hk.2⟩ : _ ∧ k_ ≠ gb235))) (fun _ hk => hk.2) (.int .i64 ((rd_T80 t231 x11_1).f0))) (fun _ hk => hk.2) (.slice A234_1 ((rd_T80 t231 x11_1).f1).length c234_1)) (fun _ hk => hk.2) (.int .i64 ((rd_T80 t231 x11_1).f2))) (fun _ h_ => h_.1))) (Kd.R_base ho0) hb); have n1_ := Aside0.mk (Kd.N_elder' (by (with_reducible repeat (first | apply Kd.N_alloc | apply Kd.N_drewN | apply Kd.N_drew)); exact (Kd.N_mono (Kd.N_far (p := ⟨gb235, 2, none⟩) (Kd.N_far (p := ⟨gb235, 1, none⟩) (Kd.N_far (p := ⟨gb235, 0, none⟩) (Kd.N_mono HO_9.out (fun k_ hk => (⟨hk, hk.2⟩ : _ ∧ k_ ≠ gb235))) (fun _ hk => hk.2) (.int .i64 ((rd_T80 t231 x11_1).f0))) (fun _ hk => hk.2) (.slice A234_1 ((rd_T80 t231 x11_1).f1).length c234_1)) (fun _ hk => hk.2) (.int .i64 ((rd_T80 t231 x11_1).f2))) (fun _ h_ => h_.1))) (Kd.R_base ho0) hb); have n2_ := Aside0.mk (Kd.V_elder' (by (with_reducible repeat (first | apply Kd.V_alloc | apply Kd.V_drewN | apply Kd.V_drew)); exact (Kd.V_mono (Kd.V_far (p := ⟨gb235, 2, none⟩) (Kd.V_far (p := ⟨gb235, 1, none⟩) (Kd.V_far (p := ⟨gb235, 0, none⟩) (Kd.V_mono HL234_1.out (fun k_ hk => (⟨hk, hk.2⟩ : _ ∧ k_ ≠ gb235))) (fun _ hk => hk.2) (.int .i64 ((rd_T80 t231 x11_1).f0))) (fun _ hk => hk.2) (.slice A234_1 ((rd_T80 t231 x11_1).f1).length c234_1)) (fun _ hk => hk.2) (.int .i64 ((rd_T80 t231 x11_1).f2))) (fun _ h_ => h_.1))) (Kd.R_base ho0) hb); have n3_ := Aside0.mk (Kd.R_lower (Kd.R_newM (M := fun k_ => (w.heap.size ≤ k_)) ho0 (below_size (by repeat (first | (with_reducible first | exact HB.out | apply below_alloc | apply pw_below_drewN | apply below_drew1 | refine below_set ?_ GE235.out) | exact HB.out))) (fun k_ h_ => h_)) (below_size (by repeat (first | (with_reducible first | exact HB.out | apply below_alloc | apply pw_below_drewN | apply below_drew1 | refine below_set ?_ GE235.out) | exact HB.out)))); have n4_ := Aside0.mk (Kd.C_below ((Kd.V_reads' (by (with_reducible repeat (first | apply Kd.V_alloc | apply Kd.V_drewN | apply Kd.V_drew)); exact (Kd.V_mono (Kd.V_far (p := ⟨gb235, 2, none⟩) (Kd.V_far (p := ⟨gb235, 1, none⟩) (Kd.V_far (p := ⟨gb235, 0, none⟩) (Kd.V_mono HL234_1.out (fun k_ hk => (⟨hk, hk.2⟩ : _ ∧ k_ ≠ gb235))) (fun _ hk => hk.2) (.int .i64 ((rd_T80 t231 x11_1).f0))) (fun _ hk => hk.2) (.slice A234_1 ((rd_T80 t231 x11_1).f1).length c234_1)) (fun _ hk => hk.2) (.int .i64 ((rd_T80 t231 x11_1).f2))) (fun _ h_ => h_.1)))).2.2) hb); have n5_ := Aside0.mk (blk_below (g := gb235) (o := .cells #[.int .i64 ((rd_T80 t231 x11_1).f0), .slice A234_1 ((rd_T80 t231 x11_1).f1).length c234_1, .int .i64 ((rd_T80 t231 x11_1).f2)] 80 (0, 0)) (by (with_reducible repeat (first | refine blk_drewN ?_ _ | refine blk_drew ?_ | refine blk_alloc ?_ _)); refine blk_put (cs := #[.int .i64 ((rd_T80 t231 x11_1).f0), .slice A234_1 ((rd_T80 t231 x11_1).f1).length c234_1, .int .i64 0]) ?_ 2 _ rfl; (with_reducible repeat (first | refine blk_drewN ?_ _ | refine blk_drew ?_ | refine blk_alloc ?_ _)); refine blk_put (cs := #[.int .i64 ((rd_T80 t231 x11_1).f0), .slice none 0 0, .int .i64 0]) ?_ 1 _ rfl; (with_reducible repeat (first | refine blk_drewN ?_ _ | refine blk_drew ?_ | refine blk_alloc ?_ _)); refine blk_put (cs := #[.int .i64 0, .slice none 0 0, .int .i64 0]) ?_ 0 _ rfl; (with_reducible repeat (first | refine blk_drewN ?_ _ | refine blk_drew ?_ | refine blk_alloc ?_ _)); exact BK235.out) hb); have n6_ := Aside0.mk (below_step (by repeat (first | (with_reducible first | exact HB.out | apply below_alloc | apply pw_below_drewN | apply below_drew1 | refine below_set ?_ GE235.out) | exact HB.out)) hb); clear HO_3; clear HO_9; clear HL234_1; clear HR234_1; clear BK235; clear HB; have HO_3 := n0_; have HO_9 := n1_; have HL234_1 := n2_; have HO238 := n3_; have HR234_1 := n4_; have BK235 := n5_; have HB := n6_; clear n0_ n1_ n2_ n3_ n4_ n5_ n6_; (try clear hb); (try clear hb2); (try clear hk); (try clear hi); (try clear ho0); obtain ⟨Ao23, co23, eo23⟩ := Kd.R_slice HO238.out; subst eo23) | ((with_reducible refine gate_callee (f := 121) rfl ?_); refine goesL_ (some 18) rfl rfl Try.func121 (by kernel_rfl) rfl #[.slice Ao23 t236.length co23, .slice A0 l0.length c0] rfl (by (try simp only [List.map_toArray, List.map_cons, List.map_nil]); first | done | rfl | (simp only [List.length_drop, List.length_take]; rfl)) ?_; (with_reducible refine (slices_Equal_int_int.calls k1 _ _ t236 _ _ l0 false _ ?side1 ?side2 ?side3 ?side4 A11.out).mono ?_); (case side1 => repeat (first | exact (Kd.R_reads' HO238.out).2.2 | (with_reducible refine Kd.C_alloc ?_ _) | (with_reducible refine Kd.C_drewN ?_ _) | (with_reducible refine Kd.C_drew ?_))); (case side2 => exact (Kd.R_reads' HO238.out).2.1); (case side3 => repeat (first | exact (Kd.C_below HR0.out HB.out) | (with_reducible refine Kd.C_alloc ?_ _) | (with_reducible refine Kd.C_drewN ?_ _) | (with_reducible refine Kd.C_drew ?_))); (case side4 => exact HC0.out); rintro e w' ⟨rfl, ⟨nd, rfl⟩⟩; refine ⟨_, rfl, ?_⟩))
              go_roundg k1
              case measure => have := HK1.out; omega
              case rel => exact ⟨(x3_1), (wrap64 (x11_1 + 1)), (by first | rfl | (simp; done) | (simp [*]; done)), H', ⟨by have := HK1.out; omega⟩, ⟨by (with_reducible repeat (first | apply Kd.N_alloc | apply Kd.N_drewN | apply Kd.N_drew)); exact Kd.N_mono HO_3.out (fun _ hk => ⟨hk.1.1.1, hk.1.1.2⟩)⟩, ⟨by (with_reducible repeat (first | apply Kd.N_alloc | apply Kd.N_drewN | apply Kd.N_drew)); exact Kd.N_mono HO_9.out (fun _ hk => ⟨hk.1.1.1, hk.1.1.2⟩)⟩, ⟨by repeat (first | (with_reducible first | exact HB.out | apply below_alloc | apply pw_below_drewN | apply below_drew1 | refine below_set ?_ GE235.out) | exact HB.out)⟩⟩
          · rw [if_neg c9] at H
            exact absurd H (by simp)
        · rw [if_neg c8] at H
          exact absurd H (by simp)
      · rw [if_neg c7] at H
        have c7b0 : decide (x11_1 < (t231.length : Int)) = false := decide_eq_false c7
        clear c7
        obtain rfl := Option.some.inj H
        go_wp2
        go_ret
        exact ⟨_, by first | rfl | (simp [errW_none, errW_some] <;> rfl) | (simp [*, errW_none, errW_some] <;> rfl), by (with_reducible repeat (first | apply Kd.N_alloc | apply Kd.N_drewN | apply Kd.N_drew)); exact Kd.N_mono HO_3.out (fun _ hk => hk.1), by repeat (first | (with_reducible first | exact HB.out | apply below_alloc | apply pw_below_drewN | apply below_drew1) | exact HB.out)⟩

/-! ### impl_IsWord: function 22 -/
def impl_IsWord.f (k : Nat) (l0_0 : List Int) : Option (Bool) := (impl_FootingsFor.f k l0_0).bind fun t244 => (some (decide ((t244.length : Int) > 0)))
theorem impl_IsWord.mono : ∀ a0 k, LeO (impl_IsWord.f k a0) (impl_IsWord.f (k + 1) a0) := by
  intro a0 k
  unfold impl_IsWord.f
  repeat' first
      | (with_reducible exact impl_FootingsFor.mono _ _)
      | (with_reducible exact LeO.refl _)
      | (with_reducible exact LeO.none _)
      | (with_reducible refine LeO.ite ?_ ?_)
      | (with_reducible refine LeO.bind ?_ (fun _ => ?_))
      | exact impl_FootingsFor.mono _ _
      | exact LeO.none _
      | refine LeO.ite ?_ ?_
      | refine LeO.bind ?_ (fun _ => ?_)
set_option maxHeartbeats 8000000 in
set_option maxRecDepth 100000 in
theorem impl_IsWord.calls (k : Nat) (A0_0 : Option Addr) (c0_0 : Nat) (l0_0 : List Int) (r : Bool) (w : World) (hr0_0 : Kd.C (Kd.int .i64) w A0_0 l0_0.length l0_0) (hc0_0 : l0_0.length ≤ c0_0) (h : impl_IsWord.f k l0_0 = some r) :
    Calls Try.prog 22 #[.agg #[.slice A0_0 l0_0.length c0_0]] w fun e w' => e = .returned (.bool r) ∧ Below w.heap.size w w' := by
  have hu35 := Try.underlying35
  have HR0_0 := Aside0.mk hr0_0
  have HC0_0 := Aside0.mk hc0_0
  clear hr0_0 hc0_0
  have HB := Aside0.mk (Below.refl w.heap.size w)
  have H : ((impl_FootingsFor.f k l0_0).bind fun t244 => (some (decide ((t244.length : Int) > 0)))) = some r := h
  clear h
  replace H := Option.bind_eq_some_iff.mp H
  obtain ⟨t244, A20, H⟩ := H
  replace H : (some (decide ((t244.length : Int) > 0))) = some r := H
  have A2 := Aside0.mk A20
  clear A20
  obtain rfl := Option.some.inj H
  go_enter Try.func22, Try.ntmps22
  go_wp2_with (first | ((with_reducible refine gate_dst (N := 1) rfl ?_); refine box_event ?hg (N := 1) ?hd (cs := #[.slice A0_0 l0_0.length c0_0]) (t := 35) ?hr ?_; (case hd => rfl); (case hg => rfl); (case hr => first | (go_simp; done) | (go_simp; rfl)); intro gb243 hg w3 hbox hb; have n0_ := Aside0.mk (below_step (by repeat (first | (with_reducible first | exact HB.out | apply below_alloc | apply pw_below_drewN | apply below_drew1) | exact HB.out)) hb); have n1_ := Aside0.mk (hbox); have n2_ := Aside0.mk ((by rw [hg]; exact (below_size (by repeat (first | (with_reducible first | exact HB.out | apply below_alloc | apply pw_below_drewN | apply below_drew1) | exact HB.out))) : w.heap.size ≤ gb243)); have n3_ := Aside0.mk ((by rw [hg]; exact (below_size (by repeat (first | (with_reducible first | exact HB.out | apply below_alloc | apply pw_below_drewN | apply below_drew1) | exact HB.out))) : w.heap.size ≤ gb243)); clear HB; have HB := n0_; have BK243 := n1_; have GW243 := n2_; have GE243 := n3_; clear n0_ n1_ n2_ n3_; clear hb hbox hg; have hcz4_0 : w3.cell? ⟨gb243, 0, none⟩ = some (.slice A0_0 l0_0.length c0_0) := (blk_cell BK243.out 0).trans rfl; have hfz4_0 := blk_frozen BK243.out 0) | ((with_reducible refine gate_callee (f := 83) rfl ?_); refine goesL_ (some 5) rfl rfl Try.func83 (by kernel_rfl) rfl #[.slice A0_0 l0_0.length c0_0] rfl (by (try simp only [List.map_toArray, List.map_cons, List.map_nil]); first | done | rfl | (simp only [List.length_drop, List.length_take]; rfl)) ?_; (with_reducible refine (impl_FootingsFor.calls k _ _ l0_0 t244 _ ?side1 ?side2 A2.out).mono ?_); (case side1 => repeat (first | exact (Kd.C_below HR0_0.out HB.out) | (with_reducible refine Kd.C_alloc ?_ _) | (with_reducible refine Kd.C_drewN ?_ _) | (with_reducible refine Kd.C_drew ?_))); (case side2 => exact HC0_0.out); rintro e w5 ⟨v245, rfl, ho0, hb⟩; refine ⟨_, rfl, ?_⟩; have n0_ := Aside0.mk (Kd.N_lower (Kd.N_mono (ok' := fun k_ => k_ ≠ gb243) ho0 (fun k_ hk_ => (Kd.freshB (g := gb243) (o := .cells #[.slice A0_0 l0_0.length c0_0] 35 (0, 0)) (by (with_reducible repeat (first | refine blk_drewN ?_ _ | refine blk_drew ?_ | refine blk_alloc ?_ _)); exact BK243.out) k_ hk_))) (below_size (by repeat (first | (with_reducible first | exact HB.out | apply below_alloc | apply pw_below_drewN | apply below_drew1 | refine below_set ?_ GE243.out) | exact HB.out)))); have n1_ := Aside0.mk (blk_below (g := gb243) (o := .cells #[.slice A0_0 l0_0.length c0_0] 35 (0, 0)) (by (with_reducible repeat (first | refine blk_drewN ?_ _ | refine blk_drew ?_ | refine blk_alloc ?_ _)); exact BK243.out) hb); have n2_ := Aside0.mk (below_step (by repeat (first | (with_reducible first | exact HB.out | apply below_alloc | apply pw_below_drewN | apply below_drew1 | refine below_set ?_ GE243.out) | exact HB.out)) hb); clear BK243; clear HB; have HO246 := n0_; have BK243 := n1_; have HB := n2_; clear n0_ n1_ n2_; (try clear hb); (try clear hb2); (try clear hk); (try clear hi); (try clear ho0); obtain ⟨Ao6, co6, eo6⟩ := Kd.N_slice HO246.out; subst eo6))
  go_ret
  exact ⟨by first | rfl | (simp [errW_none, errW_some] <;> rfl) | (simp [*, errW_none, errW_some] <;> rfl), by repeat (first | (with_reducible first | exact HB.out | apply below_alloc | apply pw_below_drewN | apply below_drew1 | refine below_set ?_ GE243.out) | exact HB.out)⟩

/-! ### laws_eqIntS: function 28 -/
def laws_eqIntS.l0 : Nat → List Int → List Int → Int → Option (Bool)
  | 0, _, _, _ => none
  | k + 1, x0, x1, x5 => if x5 < (x0.length : Int) then (if 0 ≤ x5 then (if x5 < (x1.length : Int) then (if (rd x0 x5) = (rd x1 x5) then (laws_eqIntS.l0 k x0 x1 (wrap64 (x5 + 1))) else (some false)) else (none)) else (none)) else (some true)
def laws_eqIntS.f (k : Nat) (l0 : List Int) (l1 : List Int) : Option (Bool) := if (l0.length : Int) = (l1.length : Int) then (laws_eqIntS.l0 k l0 l1 0) else (some false)
theorem laws_eqIntS.mono_l : ∀ k, (∀ y0 y1 y2, LeO (laws_eqIntS.l0 k y0 y1 y2) (laws_eqIntS.l0 (k + 1) y0 y1 y2))
  | 0 => fun _ _ _ r h => by simp [laws_eqIntS.l0] at h
  | k + 1 => by
    have ih0 := laws_eqIntS.mono_l k
    · intro y0 y1 y2
      unfold laws_eqIntS.l0
      repeat' first
      | (with_reducible exact ih0 _ _ _)
      | (with_reducible exact LeO.refl _)
      | (with_reducible exact LeO.none _)
      | (with_reducible refine LeO.ite ?_ ?_)
      | (with_reducible refine LeO.bind ?_ (fun _ => ?_))
      | exact ih0 _ _ _
      | exact LeO.none _
      | refine LeO.ite ?_ ?_
      | refine LeO.bind ?_ (fun _ => ?_)
theorem laws_eqIntS.mono : ∀ a0 a1 k, LeO (laws_eqIntS.f k a0 a1) (laws_eqIntS.f (k + 1) a0 a1) := by
  intro a0 a1 k
  have ih0 := laws_eqIntS.mono_l k
  unfold laws_eqIntS.f
  repeat' first
      | (with_reducible exact ih0 _ _ _)
      | (with_reducible exact LeO.refl _)
      | (with_reducible exact LeO.none _)
      | (with_reducible refine LeO.ite ?_ ?_)
      | (with_reducible refine LeO.bind ?_ (fun _ => ?_))
      | exact ih0 _ _ _
      | exact LeO.none _
      | refine LeO.ite ?_ ?_
      | refine LeO.bind ?_ (fun _ => ?_)
set_option maxHeartbeats 8000000 in
set_option maxRecDepth 100000 in
theorem laws_eqIntS.calls (k : Nat) (A0 : Option Addr) (c0 : Nat) (l0 : List Int) (A1 : Option Addr) (c1 : Nat) (l1 : List Int) (r : Bool) (w : World) (hr0 : Kd.C (Kd.int .i64) w A0 l0.length l0) (hc0 : l0.length ≤ c0) (hr1 : Kd.C (Kd.int .i64) w A1 l1.length l1) (hc1 : l1.length ≤ c1) (h : laws_eqIntS.f k l0 l1 = some r) :
    Calls Try.prog 28 #[.slice A0 l0.length c0, .slice A1 l1.length c1] w fun e w' => e = .returned (.bool r) ∧ Drawn0 w w' := by
  have HR0 := Aside0.mk hr0
  have HC0 := Aside0.mk hc0
  clear hr0 hc0
  have HR1 := Aside0.mk hr1
  have HC1 := Aside0.mk hc1
  clear hr1 hc1
  have H : (if (l0.length : Int) = (l1.length : Int) then (laws_eqIntS.l0 k l0 l1 0) else (some false)) = some r := h
  clear h
  by_cases c3 : (l0.length : Int) = (l1.length : Int)
  · rw [if_pos c3] at H
    have c3b0 : ((l0.length : Int) == (l1.length : Int)) = true := beq_iff_eq.mpr c3
    have c3b1 : ((l0.length : Int) != (l1.length : Int)) = false := bne_eq_false_iff_eq.mpr c3
    have c3b2 : (l0.length == l1.length) = true := by first | simpa using c3 | (simp at c3 ⊢; omega)
    clear c3
    have H' := Aside0.mk H
    clear H
    go_enter Try.func28, Try.ntmps28
    go_wp2
    repeat (go_quiet (fail); try go_wp2)
    go_loopg [5] k (fun kq v5 w' => ∃ (x5_1 : Int), v5 = .int .i64 x5_1 ∧ Aside0 (laws_eqIntS.l0 kq l0 l1 x5_1 = some r) ∧ Aside0 (kq ≤ k) ∧ Drawn0 w w')
    case atStart => exact ⟨(0), (by first | rfl | (simp; done) | (simp [*]; done)), H', ⟨Nat.le_refl _⟩, by repeat (first | exact Drawn0.refl _ | apply Drawn0.step)⟩
    case round =>
      clear H'
      try clear c1
      try clear c2
      try clear p2
      try clear c3
      try clear c3b0
      try clear c3b1
      try clear c3b2
      obtain ⟨x5_1, rfl, HA, HK1, ⟨m1, rfl⟩⟩ := hrel
      cases gk with
      | zero => exact absurd HA.out (by simp [laws_eqIntS.l0])
      | succ k1 =>
        have H := HA.out
        clear HA
        simp only [laws_eqIntS.l0] at H
        by_cases c4 : x5_1 < (l0.length : Int)
        · rw [if_pos c4] at H
          have c4b0 : decide (x5_1 < (l0.length : Int)) = true := decide_eq_true c4
          clear c4
          by_cases c5 : 0 ≤ x5_1
          · rw [if_pos c5] at H
            have c5b0 : decide (0 ≤ x5_1) = true := decide_eq_true c5
            clear c5
            by_cases c6 : x5_1 < (l1.length : Int)
            · rw [if_pos c6] at H
              have c6b0 : decide (x5_1 < (l1.length : Int)) = true := decide_eq_true c6
              clear c6
              by_cases c7 : (rd l0 x5_1) = (rd l1 x5_1)
              · rw [if_pos c7] at H
                have c7b0 : ((rd l0 x5_1) == (rd l1 x5_1)) = true := beq_iff_eq.mpr c7
                have c7b1 : ((rd l0 x5_1) != (rd l1 x5_1)) = false := bne_eq_false_iff_eq.mpr c7
                clear c7
                have H' := Aside0.mk H
                clear H
                have p247 : 0 ≤ (x5_1 : Int) := of_decide_eq_true (by first | (with_reducible assumption) | assumption)
                have q247 : x5_1 < (l0.length : Int) := of_decide_eq_true (by first | (with_reducible assumption) | assumption)
                obtain ⟨ad247, e247, hx247_0⟩ := Kd.at_int HR0.out x5_1 p247 q247
                cases e247
                replace p247 := eq_true p247
                replace q247 := eq_true q247
                have p248 : 0 ≤ (x5_1 : Int) := of_decide_eq_true (by first | (with_reducible assumption) | assumption)
                have q248 : x5_1 < (l1.length : Int) := of_decide_eq_true (by first | (with_reducible assumption) | assumption)
                obtain ⟨ad248, e248, hx248_0⟩ := Kd.at_int HR1.out x5_1 p248 q248
                cases e248
                replace p248 := eq_true p248
                replace q248 := eq_true q248
                go_wp2
                repeat (go_quiet (fail); try go_wp2)
                go_roundg k1
                case measure => have := HK1.out; omega
                case rel => exact ⟨(wrap64 (x5_1 + 1)), (by first | rfl | (simp; done) | (simp [*]; done)), H', ⟨by have := HK1.out; omega⟩, by repeat (first | exact Drawn0.refl _ | apply Drawn0.step)⟩
              · rw [if_neg c7] at H
                have c7b0 : ((rd l0 x5_1) == (rd l1 x5_1)) = false := beq_eq_false_iff_ne.mpr c7
                have c7b1 : ((rd l0 x5_1) != (rd l1 x5_1)) = true := bne_iff_ne.mpr c7
                obtain rfl := Option.some.inj H
                have p247 : 0 ≤ (x5_1 : Int) := of_decide_eq_true (by first | (with_reducible assumption) | assumption)
                have q247 : x5_1 < (l0.length : Int) := of_decide_eq_true (by first | (with_reducible assumption) | assumption)
                obtain ⟨ad247, e247, hx247_0⟩ := Kd.at_int HR0.out x5_1 p247 q247
                cases e247
                replace p247 := eq_true p247
                replace q247 := eq_true q247
                have p248 : 0 ≤ (x5_1 : Int) := of_decide_eq_true (by first | (with_reducible assumption) | assumption)
                have q248 : x5_1 < (l1.length : Int) := of_decide_eq_true (by first | (with_reducible assumption) | assumption)
                obtain ⟨ad248, e248, hx248_0⟩ := Kd.at_int HR1.out x5_1 p248 q248
                cases e248
                replace p248 := eq_true p248
                replace q248 := eq_true q248
                go_wp2
                repeat (go_quiet (fail); try go_wp2)
                go_ret
                exact ⟨by first | rfl | (simp; done) | (simp [*]; done), by repeat (first | exact Drawn0.refl _ | apply Drawn0.step)⟩
            · rw [if_neg c6] at H
              exact absurd H (by simp)
          · rw [if_neg c5] at H
            exact absurd H (by simp)
        · rw [if_neg c4] at H
          have c4b0 : decide (x5_1 < (l0.length : Int)) = false := decide_eq_false c4
          clear c4
          obtain rfl := Option.some.inj H
          go_wp2
          repeat (go_quiet (fail); try go_wp2)
          go_ret
          exact ⟨by first | rfl | (simp; done) | (simp [*]; done), by repeat (first | exact Drawn0.refl _ | apply Drawn0.step)⟩
  · rw [if_neg c3] at H
    have c3b0 : ((l0.length : Int) == (l1.length : Int)) = false := beq_eq_false_iff_ne.mpr c3
    have c3b1 : ((l0.length : Int) != (l1.length : Int)) = true := bne_iff_ne.mpr c3
    have c3b2 : (l0.length == l1.length) = false := by first | simpa using c3 | (simp at c3 ⊢; omega)
    obtain rfl := Option.some.inj H
    go_enter Try.func28, Try.ntmps28
    go_wp2
    repeat (go_quiet (fail); try go_wp2)
    go_ret
    exact ⟨by first | rfl | (simp; done) | (simp [*]; done), by repeat (first | exact Drawn0.refl _ | apply Drawn0.step)⟩

/-! ### laws_eqWord: function 23 -/
def laws_eqWord.f (k : Nat) (l0_0 : List Int) (l1_0 : List Int) : Option (Bool) := (laws_eqIntS.f k l0_0 l1_0).bind fun t251 => (if t251 = true then (some true) else (some false))
theorem laws_eqWord.mono : ∀ a0 a1 k, LeO (laws_eqWord.f k a0 a1) (laws_eqWord.f (k + 1) a0 a1) := by
  intro a0 a1 k
  unfold laws_eqWord.f
  repeat' first
      | (with_reducible exact laws_eqIntS.mono _ _ _)
      | (with_reducible exact LeO.refl _)
      | (with_reducible exact LeO.none _)
      | (with_reducible refine LeO.ite ?_ ?_)
      | (with_reducible refine LeO.bind ?_ (fun _ => ?_))
      | exact laws_eqIntS.mono _ _ _
      | exact LeO.none _
      | refine LeO.ite ?_ ?_
      | refine LeO.bind ?_ (fun _ => ?_)
set_option maxHeartbeats 8000000 in
set_option maxRecDepth 100000 in
theorem laws_eqWord.calls (k : Nat) (A0_0 : Option Addr) (c0_0 : Nat) (l0_0 : List Int) (A1_0 : Option Addr) (c1_0 : Nat) (l1_0 : List Int) (r : Bool) (w : World) (hr0_0 : Kd.C (Kd.int .i64) w A0_0 l0_0.length l0_0) (hc0_0 : l0_0.length ≤ c0_0) (hr1_0 : Kd.C (Kd.int .i64) w A1_0 l1_0.length l1_0) (hc1_0 : l1_0.length ≤ c1_0) (h : laws_eqWord.f k l0_0 l1_0 = some r) :
    Calls Try.prog 23 #[.agg #[.slice A0_0 l0_0.length c0_0], .agg #[.slice A1_0 l1_0.length c1_0]] w fun e w' => e = .returned (.bool r) ∧ Below w.heap.size w w' := by
  have hu35 := Try.underlying35
  have HR0_0 := Aside0.mk hr0_0
  have HC0_0 := Aside0.mk hc0_0
  clear hr0_0 hc0_0
  have HR1_0 := Aside0.mk hr1_0
  have HC1_0 := Aside0.mk hc1_0
  clear hr1_0 hc1_0
  have HB := Aside0.mk (Below.refl w.heap.size w)
  have H : ((laws_eqIntS.f k l0_0 l1_0).bind fun t251 => (if t251 = true then (some true) else (some false))) = some r := h
  clear h
  replace H := Option.bind_eq_some_iff.mp H
  obtain ⟨t251, A30, H⟩ := H
  replace H : (if t251 = true then (some true) else (some false)) = some r := H
  have A3 := Aside0.mk A30
  clear A30
  by_cases c4 : t251 = true
  · subst c4
    have H1 : (some true) = some r := by rw [if_pos rfl] at H; exact H
    clear H
    have H := H1
    clear H1
    obtain rfl := Option.some.inj H
    go_enter Try.func23, Try.ntmps23
    go_wp2_with (first | ((with_reducible refine gate_dst (N := 2) rfl ?_); refine box_event ?hg (N := 2) ?hd (cs := #[.slice A0_0 l0_0.length c0_0]) (t := 35) ?hr ?_; (case hd => rfl); (case hg => rfl); (case hr => first | (go_simp; done) | (go_simp; rfl)); intro gb249 hg w5 hbox hb; have n0_ := Aside0.mk (below_step (by repeat (first | (with_reducible first | exact HB.out | apply below_alloc | apply pw_below_drewN | apply below_drew1) | exact HB.out)) hb); have n1_ := Aside0.mk (hbox); have n2_ := Aside0.mk ((by rw [hg]; exact (below_size (by repeat (first | (with_reducible first | exact HB.out | apply below_alloc | apply pw_below_drewN | apply below_drew1) | exact HB.out))) : w.heap.size ≤ gb249)); have n3_ := Aside0.mk ((by rw [hg]; exact (below_size (by repeat (first | (with_reducible first | exact HB.out | apply below_alloc | apply pw_below_drewN | apply below_drew1) | exact HB.out))) : w.heap.size ≤ gb249)); clear HB; have HB := n0_; have BK249 := n1_; have GW249 := n2_; have GE249 := n3_; clear n0_ n1_ n2_ n3_; clear hb hbox hg) | ((with_reducible refine gate_dst (N := 3) rfl ?_); refine box_event ?hg (N := 3) ?hd (cs := #[.slice A1_0 l1_0.length c1_0]) (t := 35) ?hr ?_; (case hd => rfl); (case hg => rfl); (case hr => first | (go_simp; done) | (go_simp; rfl)); intro gb250 hg w6 hbox hb; have n0_ := Aside0.mk (blk_below (g := gb249) (o := .cells #[.slice A0_0 l0_0.length c0_0] 35 (0, 0)) (by (with_reducible repeat (first | refine blk_drewN ?_ _ | refine blk_drew ?_ | refine blk_alloc ?_ _)); exact BK249.out) hb); have n1_ := Aside0.mk (below_step (by repeat (first | (with_reducible first | exact HB.out | apply below_alloc | apply pw_below_drewN | apply below_drew1 | refine below_set ?_ GE249.out) | exact HB.out)) hb); have n2_ := Aside0.mk (hbox); have n3_ := Aside0.mk ((by rw [hg]; exact (below_size (by repeat (first | (with_reducible first | exact HB.out | apply below_alloc | apply pw_below_drewN | apply below_drew1 | refine below_set ?_ GE249.out) | exact HB.out))) : w.heap.size ≤ gb250)); have n4_ := Aside0.mk ((by rw [hg]; exact (below_size (by repeat (first | (with_reducible first | exact HB.out | apply below_alloc | apply pw_below_drewN | apply below_drew1 | refine below_set ?_ GE249.out) | exact HB.out))) : w.heap.size ≤ gb250)); have n5_ := Aside0.mk ((by rw [hg]; exact Nat.ne_of_lt (blk_lt (g := gb249) (o := .cells #[.slice A0_0 l0_0.length c0_0] 35 (0, 0)) (by (with_reducible repeat (first | refine blk_drewN ?_ _ | refine blk_drew ?_ | refine blk_alloc ?_ _)); exact BK249.out)) : gb249 ≠ gb250)); have n6_ := Aside0.mk ((by rw [hg]; exact Nat.ne_of_gt (blk_lt (g := gb249) (o := .cells #[.slice A0_0 l0_0.length c0_0] 35 (0, 0)) (by (with_reducible repeat (first | refine blk_drewN ?_ _ | refine blk_drew ?_ | refine blk_alloc ?_ _)); exact BK249.out)) : gb250 ≠ gb249)); clear BK249; clear HB; have BK249 := n0_; have HB := n1_; have BK250 := n2_; have GW250 := n3_; have GE250 := n4_; have NB249_250 := n5_; have NB250_249 := n6_; clear n0_ n1_ n2_ n3_ n4_ n5_ n6_; clear hb hbox hg; have hnb7 := NB249_250.out; have hnc7 := NB250_249.out; have hcz8_0 : w6.cell? ⟨gb249, 0, none⟩ = some (.slice A0_0 l0_0.length c0_0) := (blk_cell BK249.out 0).trans rfl; have hfz8_0 := blk_frozen BK249.out 0; have hcz9_0 : w6.cell? ⟨gb250, 0, none⟩ = some (.slice A1_0 l1_0.length c1_0) := (blk_cell BK250.out 0).trans rfl; have hfz9_0 := blk_frozen BK250.out 0) | ((with_reducible refine gate_callee (f := 28) rfl ?_); refine goesL_ (some 9) rfl rfl Try.func28 (by kernel_rfl) rfl #[.slice A0_0 l0_0.length c0_0, .slice A1_0 l1_0.length c1_0] rfl (by (try simp only [List.map_toArray, List.map_cons, List.map_nil]); first | done | rfl | (simp only [List.length_drop, List.length_take]; rfl)) ?_; (with_reducible refine (laws_eqIntS.calls k _ _ l0_0 _ _ l1_0 true _ ?side1 ?side2 ?side3 ?side4 A3.out).mono ?_); (case side1 => repeat (first | exact (Kd.C_below HR0_0.out HB.out) | (with_reducible refine Kd.C_alloc ?_ _) | (with_reducible refine Kd.C_drewN ?_ _) | (with_reducible refine Kd.C_drew ?_))); (case side2 => exact HC0_0.out); (case side3 => repeat (first | exact (Kd.C_below HR1_0.out HB.out) | (with_reducible refine Kd.C_alloc ?_ _) | (with_reducible refine Kd.C_drewN ?_ _) | (with_reducible refine Kd.C_drew ?_))); (case side4 => exact HC1_0.out); rintro e w' ⟨rfl, ⟨nd, rfl⟩⟩; refine ⟨_, rfl, ?_⟩))
    go_ret
    exact ⟨by first | rfl | (simp [errW_none, errW_some] <;> rfl) | (simp [*, errW_none, errW_some] <;> rfl), by repeat (first | (with_reducible first | exact HB.out | apply below_alloc | apply pw_below_drewN | apply below_drew1 | refine below_set ?_ GE249.out | refine below_set ?_ GE250.out) | exact HB.out)⟩
  · replace c4 := Bool.eq_false_iff.mpr c4
    subst c4
    have H1 : (some false) = some r := by rw [if_neg (show ¬ (false = true) by decide)] at H; exact H
    clear H
    have H := H1
    clear H1
    obtain rfl := Option.some.inj H
    go_enter Try.func23, Try.ntmps23
    go_wp2_with (first | ((with_reducible refine gate_dst (N := 2) rfl ?_); refine box_event ?hg (N := 2) ?hd (cs := #[.slice A0_0 l0_0.length c0_0]) (t := 35) ?hr ?_; (case hd => rfl); (case hg => rfl); (case hr => first | (go_simp; done) | (go_simp; rfl)); intro gb249 hg w10 hbox hb; have n0_ := Aside0.mk (below_step (by repeat (first | (with_reducible first | exact HB.out | apply below_alloc | apply pw_below_drewN | apply below_drew1) | exact HB.out)) hb); have n1_ := Aside0.mk (hbox); have n2_ := Aside0.mk ((by rw [hg]; exact (below_size (by repeat (first | (with_reducible first | exact HB.out | apply below_alloc | apply pw_below_drewN | apply below_drew1) | exact HB.out))) : w.heap.size ≤ gb249)); have n3_ := Aside0.mk ((by rw [hg]; exact (below_size (by repeat (first | (with_reducible first | exact HB.out | apply below_alloc | apply pw_below_drewN | apply below_drew1) | exact HB.out))) : w.heap.size ≤ gb249)); clear HB; have HB := n0_; have BK249 := n1_; have GW249 := n2_; have GE249 := n3_; clear n0_ n1_ n2_ n3_; clear hb hbox hg) | ((with_reducible refine gate_dst (N := 3) rfl ?_); refine box_event ?hg (N := 3) ?hd (cs := #[.slice A1_0 l1_0.length c1_0]) (t := 35) ?hr ?_; (case hd => rfl); (case hg => rfl); (case hr => first | (go_simp; done) | (go_simp; rfl)); intro gb250 hg w11 hbox hb; have n0_ := Aside0.mk (blk_below (g := gb249) (o := .cells #[.slice A0_0 l0_0.length c0_0] 35 (0, 0)) (by (with_reducible repeat (first | refine blk_drewN ?_ _ | refine blk_drew ?_ | refine blk_alloc ?_ _)); exact BK249.out) hb); have n1_ := Aside0.mk (below_step (by repeat (first | (with_reducible first | exact HB.out | apply below_alloc | apply pw_below_drewN | apply below_drew1 | refine below_set ?_ GE249.out) | exact HB.out)) hb); have n2_ := Aside0.mk (hbox); have n3_ := Aside0.mk ((by rw [hg]; exact (below_size (by repeat (first | (with_reducible first | exact HB.out | apply below_alloc | apply pw_below_drewN | apply below_drew1 | refine below_set ?_ GE249.out) | exact HB.out))) : w.heap.size ≤ gb250)); have n4_ := Aside0.mk ((by rw [hg]; exact (below_size (by repeat (first | (with_reducible first | exact HB.out | apply below_alloc | apply pw_below_drewN | apply below_drew1 | refine below_set ?_ GE249.out) | exact HB.out))) : w.heap.size ≤ gb250)); have n5_ := Aside0.mk ((by rw [hg]; exact Nat.ne_of_lt (blk_lt (g := gb249) (o := .cells #[.slice A0_0 l0_0.length c0_0] 35 (0, 0)) (by (with_reducible repeat (first | refine blk_drewN ?_ _ | refine blk_drew ?_ | refine blk_alloc ?_ _)); exact BK249.out)) : gb249 ≠ gb250)); have n6_ := Aside0.mk ((by rw [hg]; exact Nat.ne_of_gt (blk_lt (g := gb249) (o := .cells #[.slice A0_0 l0_0.length c0_0] 35 (0, 0)) (by (with_reducible repeat (first | refine blk_drewN ?_ _ | refine blk_drew ?_ | refine blk_alloc ?_ _)); exact BK249.out)) : gb250 ≠ gb249)); clear BK249; clear HB; have BK249 := n0_; have HB := n1_; have BK250 := n2_; have GW250 := n3_; have GE250 := n4_; have NB249_250 := n5_; have NB250_249 := n6_; clear n0_ n1_ n2_ n3_ n4_ n5_ n6_; clear hb hbox hg; have hnb12 := NB249_250.out; have hnc12 := NB250_249.out; have hcz13_0 : w11.cell? ⟨gb249, 0, none⟩ = some (.slice A0_0 l0_0.length c0_0) := (blk_cell BK249.out 0).trans rfl; have hfz13_0 := blk_frozen BK249.out 0; have hcz14_0 : w11.cell? ⟨gb250, 0, none⟩ = some (.slice A1_0 l1_0.length c1_0) := (blk_cell BK250.out 0).trans rfl; have hfz14_0 := blk_frozen BK250.out 0) | ((with_reducible refine gate_callee (f := 28) rfl ?_); refine goesL_ (some 9) rfl rfl Try.func28 (by kernel_rfl) rfl #[.slice A0_0 l0_0.length c0_0, .slice A1_0 l1_0.length c1_0] rfl (by (try simp only [List.map_toArray, List.map_cons, List.map_nil]); first | done | rfl | (simp only [List.length_drop, List.length_take]; rfl)) ?_; (with_reducible refine (laws_eqIntS.calls k _ _ l0_0 _ _ l1_0 false _ ?side1 ?side2 ?side3 ?side4 A3.out).mono ?_); (case side1 => repeat (first | exact (Kd.C_below HR0_0.out HB.out) | (with_reducible refine Kd.C_alloc ?_ _) | (with_reducible refine Kd.C_drewN ?_ _) | (with_reducible refine Kd.C_drew ?_))); (case side2 => exact HC0_0.out); (case side3 => repeat (first | exact (Kd.C_below HR1_0.out HB.out) | (with_reducible refine Kd.C_alloc ?_ _) | (with_reducible refine Kd.C_drewN ?_ _) | (with_reducible refine Kd.C_drew ?_))); (case side4 => exact HC1_0.out); rintro e w' ⟨rfl, ⟨nd, rfl⟩⟩; refine ⟨_, rfl, ?_⟩))
    go_ret
    exact ⟨by first | rfl | (simp [errW_none, errW_some] <;> rfl) | (simp [*, errW_none, errW_some] <;> rfl), by repeat (first | (with_reducible first | exact HB.out | apply below_alloc | apply pw_below_drewN | apply below_drew1 | refine below_set ?_ GE249.out | refine below_set ?_ GE250.out) | exact HB.out)⟩

end Go.Proofs.Ytndcgckgkkhbpaa.PFnExactIsWord
