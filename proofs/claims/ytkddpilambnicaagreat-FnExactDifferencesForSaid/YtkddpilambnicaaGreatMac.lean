/- Short names for steps that the walks take again and again. Conditions: each lemma's own. -/
import Derived.Test.YtkddpilambnicaaGreatWMore
import Derived.Test.YtkddpilambnicaaGreatWLast
import Derived.Test.YtkddpilambnicaaGreatWApart
import Derived.Test.YtkddpilambnicaaGreatWKept
import Derived.Test.YtkddpilambnicaaGreatWShare
import Derived.Test.YtkddpilambnicaaGreatWN
import Derived.Test.YtkddpilambnicaaGreatWNEv
set_option linter.unusedVariables false
set_option linter.unusedSimpArgs false
namespace Go.Proofs.YtkddpilambnicaaGreat.Mac
open Go.RowKit Go.Proofs.YtkddpilambnicaaGreatW.PrintWords Go.Proofs.YtkddpilambnicaaGreatW.PrintLast Go.Proofs.YtkddpilambnicaaGreatW.PrintMore
/-- A fact of an elder world, in the goal's: the blocks that were made and the orders that were drawn in between are passed by. -/
theorem up_ {P Q : Prop} (h : P) (g : P → Q := by intro hx; repeat (first | (with_reducible exact hx) | (with_reducible first | apply below_alloc | apply pw_below_drewN | apply below_drew1 | apply Kd.N_alloc | apply Kd.N_drewN | apply Kd.N_drew | apply Kd.R_alloc | apply Kd.R_drewN | apply Kd.R_drew | apply Kd.V_alloc | apply Kd.V_drewN | apply Kd.V_drew | apply Kd.S_alloc | apply Kd.S_drewN | apply Kd.S_drew | apply Kd.Q_alloc | apply Kd.Q_drewN | apply Kd.Q_drew | refine blk_drewN ?_ _ | refine blk_drew ?_ | refine blk_alloc ?_ _ | refine Kd.C_alloc ?_ _ | refine Kd.C_drewN ?_ _ | refine Kd.C_drew ?_ | refine below_set ?_ (Aside0.out (by assumption))) | exact hx)) : Q := g h
/-! what a block, a row of worlds or a cell keeps over a step -/
theorem bb_ {wl W w1 : World} {g : Nat} {o : Obj} (h : Aside0 (wl.heap[g]? = some o)) (hb : Below W.heap.size W w1) (u : wl.heap[g]? = some o → W.heap[g]? = some o := by intro hx; repeat (first | (with_reducible exact hx) | (with_reducible first | apply below_alloc | apply pw_below_drewN | apply below_drew1 | refine blk_drewN ?_ _ | refine blk_drew ?_ | refine blk_alloc ?_ _ | refine below_set ?_ (Aside0.out (by assumption))) | exact hx)) : Aside0 (w1.heap[g]? = some o) := ⟨blk_below (u h.out) hb⟩
theorem bs_ {w wl W w1 : World} (h : Aside0 (Below w.heap.size w wl)) (hb : Below W.heap.size W w1) (u : Below w.heap.size w wl → Below w.heap.size w W := by intro hx; repeat (first | (with_reducible exact hx) | (with_reducible first | apply below_alloc | apply pw_below_drewN | apply below_drew1 | refine blk_drewN ?_ _ | refine blk_drew ?_ | refine blk_alloc ?_ _ | refine below_set ?_ (Aside0.out (by assumption))) | exact hx)) : Aside0 (Below w.heap.size w w1) := ⟨below_step (u h.out) hb⟩
theorem gw_ {w wl W : World} {g : Nat} (h : Aside0 (Below w.heap.size w wl)) (hg : g = W.heap.size) (u : Below w.heap.size w wl → Below w.heap.size w W := by intro hx; repeat (first | (with_reducible exact hx) | (with_reducible first | apply below_alloc | apply pw_below_drewN | apply below_drew1 | refine blk_drewN ?_ _ | refine blk_drew ?_ | refine blk_alloc ?_ _ | refine below_set ?_ (Aside0.out (by assumption))) | exact hx)) : Aside0 (w.heap.size ≤ g) := ⟨by rw [hg]; exact below_size (u h.out)⟩
theorem bh_ {w w' : World} {a : Addr} {v : Value} (h : Aside0 (Below w.heap.size w w')) (hx : w.cell? a = some v) : w'.cell? a = some v := (h.out.cell (World.block_lt_of_cell? w _ hx)).trans hx
section
variable {w : World} {g : Nat} {t : TypeId}
theorem c1_ {a : Value} (h : Aside0 (w.heap[g]? = some (.cells #[a] t (0, 0)))) : w.cell? ⟨g, 0, none⟩ = some a := (blk_cell h.out 0).trans rfl
theorem c2_ {a b : Value} (h : Aside0 (w.heap[g]? = some (.cells #[a, b] t (0, 0)))) : w.cell? ⟨g, 0, none⟩ = some a ∧ w.cell? ⟨g, 1, none⟩ = some b := ⟨(blk_cell h.out 0).trans rfl, (blk_cell h.out 1).trans rfl⟩
theorem c4_ {a b c d : Value} (h : Aside0 (w.heap[g]? = some (.cells #[a, b, c, d] t (0, 0)))) : w.cell? ⟨g, 0, none⟩ = some a ∧ w.cell? ⟨g, 1, none⟩ = some b ∧ w.cell? ⟨g, 2, none⟩ = some c ∧ w.cell? ⟨g, 3, none⟩ = some d := ⟨(blk_cell h.out 0).trans rfl, (blk_cell h.out 1).trans rfl, (blk_cell h.out 2).trans rfl, (blk_cell h.out 3).trans rfl⟩
end
theorem rh_ {γ : Type} {y x : γ} {p q : Prop} (hy : y = x) (H : p) (u : y = x → p → q := by intro hy_ H_; first | (rw [hy_]; with_reducible exact H_) | (have H2_ := (Option.bind_some _ _).symm.trans H_; rw [hy_]; with_reducible exact H2_) | (have H2_ := (Option.bind_some _ _).symm.trans H_; with_reducible exact H2_) | with_reducible exact H_ | (rw [hy_]; exact H_) | exact H_) : q := u hy H
theorem tow_ {P : Prop} (h : P := by repeat (first | exact Below.refl _ _ | apply below_alloc | apply pw_below_drewN | apply below_drew1)) : P := h
theorem od_ {p : Prop} [Decidable p] (h : decide p = true := by first | (with_reducible assumption) | assumption) : p := of_decide_eq_true h
theorem am_ {P : Prop} (h : P := by (try simp only [List.map_toArray, List.map_cons, List.map_nil]); first | done | rfl | (simp only [List.length_drop, List.length_take]; rfl)) : P := h
theorem rs_ {P : Prop} (h : P := by first | rfl | (simp; done) | (simp [*]; done)) : P := h
theorem re_ {P : Prop} (h : P := by first | rfl | (simp [errW_none, errW_some] <;> rfl) | (simp [*, errW_none, errW_some] <;> rfl)) : P := h
theorem dn_ {P : Prop} (h : P := by repeat (first | exact Drawn0.refl _ | apply Drawn0.step)) : P := h
section
variable {α β : Type}
theorem its_ {c : Prop} [Decidable c] {a b : Option α} {r : α} (H : (if c then a else b) = some r) : (decide c = true ∧ a = some r) ∨ (decide c = false ∧ b = some r) := by
  by_cases h : c
  · rw [if_pos h] at H; exact .inl ⟨decide_eq_true h, H⟩
  · rw [if_neg h] at H; exact .inr ⟨decide_eq_false h, H⟩
theorem itb_ {t : Bool} {a b : Option α} {r : α} (H : (if t = true then a else b) = some r) : (t = true ∧ a = some r) ∨ (t = false ∧ b = some r) := by
  cases t
  · exact .inr ⟨rfl, H⟩
  · exact .inl ⟨rfl, H⟩
theorem bnd_ {g : Option α} {f : α → Option β} {r : β} (H : g.bind f = some r) : ∃ a, Aside0 (g = some a) ∧ f a = some r := by
  obtain ⟨a, h1, h2⟩ := Option.bind_eq_some_iff.mp H
  exact ⟨a, ⟨h1⟩, h2⟩
theorem ieq_ {γ : Type} [BEq γ] [LawfulBEq γ] {x y : γ} [Decidable (x = y)] {a b : Option α} {r : α} (H : (if x = y then a else b) = some r) : (x = y ∧ (x == y) = true ∧ (x != y) = false ∧ a = some r) ∨ (¬ x = y ∧ (x == y) = false ∧ (x != y) = true ∧ b = some r) := by
  by_cases h : x = y
  · rw [if_pos h] at H; exact .inl ⟨h, beq_iff_eq.mpr h, bne_eq_false_iff_eq.mpr h, H⟩
  · rw [if_neg h] at H; exact .inr ⟨h, beq_eq_false_iff_ne.mpr h, bne_iff_ne.mpr h, H⟩
theorem sl_ {A A' : Option Addr} {n n' c c' : Nat} (h : some (Value.slice A n c) = some (Value.slice A' n' c')) : A = A' ∧ c = c' := by
  injection h with h
  injection h with h1 h2 h3
  exact ⟨h1, h3⟩
/-- More rounds, the same answer. -/
theorem mn_ {P : Prop} (h : P := by repeat' first | (with_reducible exact LeO.refl _) | (with_reducible exact LeO.none _) | (with_reducible refine LeO.ite ?_ ?_) | (with_reducible refine LeO.bind ?_ (fun _ => ?_)) | (with_reducible apply ih0) | (with_reducible apply m0) | (with_reducible apply m1) | (with_reducible apply m2) | (with_reducible apply ih1) | (with_reducible apply m3) | (with_reducible apply m4) | (with_reducible apply m5) | (with_reducible apply m6) | (with_reducible apply ih2) | (with_reducible apply ih3) | (with_reducible apply m7) | (with_reducible apply m8) | (with_reducible apply m9) | (with_reducible apply m10) | (with_reducible apply m11) | (with_reducible apply ih4) | (with_reducible apply ih5) | (with_reducible apply m12) | (with_reducible apply m13) | (with_reducible apply m14) | (with_reducible apply m15) | (with_reducible apply m16) | (with_reducible apply m17) | (with_reducible apply m18) | (with_reducible apply m19) | apply ih0 | apply ih1 | apply ih2 | exact LeO.none _ | refine LeO.ite ?_ ?_ | refine LeO.bind ?_ (fun _ => ?_) | apply m0 | apply m1 | apply m2 | apply m3 | apply m4) : P := h
end
section
variable {P : Program} {ops : Array Oper} {Q : Exit → Act → World → Prop}
theorem gc_ {rest : List Oper} {o : Oper} {a : Act} {W : World} (f : FuncId) {as : Array Operand} {ts : Array TypeId} (h : wpList P ops Q (o :: rest) a W) (_ho : o.op = .call { callee := .value (.func f), args := as, argTypes := ts } := by with_reducible rfl) : wpList P ops Q (o :: rest) a W := h
theorem gd_ {rest : List Oper} {o : Oper} {a : Act} {W : World} (N : Tmp) (h : wpList P ops Q (o :: rest) a W) (_ho : o.dst = some N := by with_reducible rfl) : wpList P ops Q (o :: rest) a W := h
theorem bx_ {rest : List Oper} {o : Oper} {a : Act} {W : World} (N : Tmp) (cs : Array Value) (t : TypeId)
    (h : ∀ g, g = W.heap.size → ∀ w1, w1.heap[g]? = some (.cells cs t (0, 0)) → Below W.heap.size W w1 → wpList P ops Q rest (a.put o.dst (.pointer (some ⟨g, 0, none⟩))) w1)
    (hd : o.dst = some N := by rfl) (hgd : o.guard = none := by rfl) (hrun : (execOp a.eval o).run P W = .ok (.value (.pointer (some ⟨W.heap.size, 0, none⟩))) (W.alloc (.cells cs t (0, 0))) := by first | (go_simp; done) | (go_simp; rfl)) : wpList P ops Q (o :: rest) a W := box_event hgd hd hrun h
/-- A call, with its contract. -/
theorem gl_ {rest : List Oper} {oi : Oper} {a : Act} {w : World} {R : Ending → World → Prop} {args : Array Value} (N : Option Tmp) {f : FuncId} {fn : Func} {as : Array Operand} {ts : Array TypeId} (hf : P.funcs[f]? = some fn) (c : Calls P f args w R)
    (k : ∀ e w', R e w' → ∃ v, e = .returned v ∧ wpList P ops Q rest (a.put N v) w')
    (hd : oi.dst = N := by rfl) (hg : oi.guard = none := by rfl) (hname : (fn.name == "runtime.NumGoroutine") = false := by kernel_rfl) (hb : fn.body.isSome = true := by rfl)
    (hop : oi.op = .call { callee := .value (.func f), args := as, argTypes := ts } := by rfl) (hargs : as.map a.eval = args := by (try simp only [List.map_toArray, List.map_cons, List.map_nil]); first | done | rfl | (simp only [List.length_drop, List.length_take]; rfl)) : wpList P ops Q (oi :: rest) a w :=
  goesL_ N hd hg hf hname hb args hop hargs (c.mono k)
/-- .. that only draws orders. -/
theorem gq_ {rest : List Oper} {oi : Oper} {a : Act} {w : World} {v : Value} {args : Array Value} (N : Option Tmp) {f : FuncId} {fn : Func} {as : Array Operand} {ts : Array TypeId} (hf : P.funcs[f]? = some fn) (c : Calls P f args w fun e w' => e = .returned v ∧ Drawn0 w w')
    (k : ∀ nd, wpList P ops Q rest (a.put N v) (w.drewN nd))
    (hd : oi.dst = N := by rfl) (hg : oi.guard = none := by rfl) (hname : (fn.name == "runtime.NumGoroutine") = false := by kernel_rfl) (hb : fn.body.isSome = true := by rfl)
    (hop : oi.op = .call { callee := .value (.func f), args := as, argTypes := ts } := by rfl) (hargs : as.map a.eval = args := by (try simp only [List.map_toArray, List.map_cons, List.map_nil]); first | done | rfl | (simp only [List.length_drop, List.length_take]; rfl)) : wpList P ops Q (oi :: rest) a w :=
  goesL_ N hd hg hf hname hb args hop hargs (c.mono fun e w' h => by
    obtain ⟨rfl, ⟨nd, rfl⟩⟩ := h
    exact ⟨_, rfl, k nd⟩)
/-! steps of a region that draws its order -/
variable {md : Region.Mode} {S : World → Prop} {ds : List Nat}
theorem pu_ {oi : Oper} {v : Value} {fuel : Nat} {l l' : Array Bool} {a a' : Act} {w : World} (i : Nat) (N : Option Tmp) (h : wpAnyLast P md ops Q S ds fuel l' a' w)
    (hi : ops[i]? = some oi := by rfl) (hN : oi.dst = N := by rfl) (hl : l.setIfInBounds i true = l' := by simp only [List.setIfInBounds_toArray, List.set_cons_zero, List.set_cons_succ]; rfl)
    (hc : anyB md ops l l' i = true := by first | exact any_of HT_.out (by kernel_rfl) | kernel_rfl)
    (hQ : ∀ c a w, Q (.panic c) (a.put oi.dst v) w → Q (.panic c) a w := by exact fun _ _ _ h => h) (hy : Yields P ops oi v a := by refine Or.inl ⟨by rfl, ?_⟩; intro w'; go_simp; with_reducible rfl)
    (ha : a.put N v = a' := by first | (simp only [Act.put, List.setIfInBounds_toArray, List.set_cons_zero, List.set_cons_succ, i64_w, i32_w]; rfl) | rfl) : wpAnyLast P md ops Q S ds (fuel + 1) l a w := pure_ l' hi hN hc hQ hy ha h
theorem po_ {oi : Oper} {fuel : Nat} {l l' : Array Bool} {a a' : Act} {w : World} (i : Nat) (N : Option Tmp) (h : wpAnyLast P md ops Q S ds fuel l' a' w)
    (hi : ops[i]? = some oi := by rfl) (hN : oi.dst = N := by rfl) (hl : l.setIfInBounds i true = l' := by simp only [List.setIfInBounds_toArray, List.set_cons_zero, List.set_cons_succ]; rfl)
    (hc : anyB md ops l l' i = true := by first | exact any_of HT_.out (by kernel_rfl) | kernel_rfl)
    (hQ : ∀ c a w, Q (.panic c) (a.put oi.dst undef) w → Q (.panic c) a w := by exact fun _ _ _ h => h) (hy : Yields P ops oi undef a := by exact Or.inr ⟨by rfl, rfl⟩)
    (ha : a.put N undef = a' := by first | (simp only [Act.put, List.setIfInBounds_toArray, List.set_cons_zero, List.set_cons_succ, i64_w, i32_w]; rfl) | rfl) : wpAnyLast P md ops Q S ds (fuel + 1) l a w := pure_ l' hi hN hc hQ hy ha h
theorem tk_ {oi : Oper} {v : Value} {fuel : Nat} {l l' : Array Bool} {a a' : Act} {w : World} (i : Nat) (N : Option Tmp) (hS : S w) (h : wpAnyLast P md ops Q S ds fuel l' a' w)
    (hi : ops[i]? = some oi := by rfl) (hN : oi.dst = N := by rfl) (hl : l.setIfInBounds i true = l' := by simp only [List.setIfInBounds_toArray, List.set_cons_zero, List.set_cons_succ]; rfl)
    (hc : takeB md ops ds l l' i = true := by first | exact take_ofW HT_.out HW_.out (by kernel_rfl) | kernel_rfl)
    (hQ : ∀ c a w, Q (.panic c) (a.put oi.dst v) w → Q (.panic c) a w := by exact fun _ _ _ h => h) (hy : YieldsIf P ops S oi v a := by refine Or.inl ⟨by rfl, ?_⟩; intro w' hs_; (repeat (have s_ := hs_.1; replace hs_ := hs_.2)); go_simp; with_reducible rfl)
    (ha : a.put N v = a' := by first | (simp only [Act.put, List.setIfInBounds_toArray, List.set_cons_zero, List.set_cons_succ, i64_w, i32_w]; rfl) | rfl) : wpAnyLast P md ops Q S ds (fuel + 1) l a w := take_ l' hi hN hc hQ hy hS ha h
theorem on_ {oi : Oper} {fuel : Nat} {l l' : Array Bool} {a : Act} {w : World} (i : Nat) (N : Option Tmp)
    (h : ∀ K : Act → World → Prop, Shut (∀ a' w', S w' → (S w' → wpAnyLast P md ops Q S ds fuel l' a' w') → K a' w') → if Region.wanted oi (yielded ops a.tmps) = true then Oper.wp P oi a w K Q else K (a.put N undef) w)
    (hi : ops[i]? = some oi := by rfl) (hN : oi.dst = N := by rfl) (hl : l.setIfInBounds i true = l' := by simp only [List.setIfInBounds_toArray, List.set_cons_zero, List.set_cons_succ]; rfl)
    (hc : readyB md ops l l' i = true := by first | exact one_of HT_.out (by kernel_rfl) | kernel_rfl) (hd : i ∉ ds := by decide) : wpAnyLast P md ops Q S ds (fuel + 1) l a w := one_ l' hi hN hc hd h
theorem nm_ {fuel : Nat} {l : Array Bool} {a a' : Act} {w : World} (h : wpAnyLast P md ops Q S ds fuel l a' w) (ha : a = a' := by show Act.put _ (some _) _ = _; simp only [Act.put, List.setIfInBounds_toArray, List.set_cons_zero, List.set_cons_succ, i64_w, i32_w]; rfl) : wpAnyLast P md ops Q S ds fuel l a w := norm_ ha h
end
end Go.Proofs.YtkddpilambnicaaGreat.Mac
