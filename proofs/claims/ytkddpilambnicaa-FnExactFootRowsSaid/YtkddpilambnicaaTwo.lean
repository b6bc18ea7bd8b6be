/- Two variables in memory, each with a row of the call's own, beside others that stay: what an append to one of them and a store leave. For function values that write what they captured. Conditions: each lemma's own. -/
import Derived.Test.YtkddpilambnicaaWMore
import Derived.Test.YtkddpilambnicaaWApart
import Derived.Test.YtkddpilambnicaaWLast
set_option linter.unusedVariables false
set_option linter.unusedSimpArgs false
namespace Go.Proofs.Ytkddpilambnicaa.Two
open Go.RowKit Go.Proofs.YtkddpilambnicaaW.PrintWords Go.Proofs.YtkddpilambnicaaW.PrintLast Go.Proofs.YtkddpilambnicaaW.PrintMore
/-- A function value is one cell. -/
theorem run_store_func {P : Program} {w : World} {a : Addr} {m : Mode} (f : Fn) (x y : Array Value) : (store a (.func f x y) m).run P w = stored P w a (.func f x y) m := run_store P w a _ m rfl
/-- The blocks of the variables. -/
def Zin (X : List (Nat × Obj)) (go gw k : Nat) : Prop := k = go ∨ k = gw ∨ ∃ p ∈ X, p.1 = k
/-- go: a variable that holds vo, a row of rows xs; gw: one that holds vw, a row ys; X: the other blocks. -/
structure Two {α β : Type} (d : Kd α) (e T : Nat) (d' : Kd β) (e' T' : Nat) (w0 w : World) (X : List (Nat × Obj)) (go gw : Nat) (vo vw : Value) (xs : List α) (ys : List β) : Prop where
  hb : Below w0.heap.size w0 w
  go_ge : w0.heap.size ≤ go
  gw_ge : w0.heap.size ≤ gw
  x_ge : ∀ p ∈ X, w0.heap.size ≤ p.1
  ne : go ≠ gw
  x_ne : ∀ p ∈ X, p.1 ≠ go ∧ p.1 ≠ gw
  so : Kd.S d e w w0.heap.size (fun k => some k ≠ vw.ownBlock ∧ ¬ Zin X go gw k) vo xs
  ro : d'.R e' w w0.heap.size (fun k => ¬ Zin X go gw k) vw ys
  bo : w.heap[go]? = some (.cells #[vo] T (0, 0))
  bw : w.heap[gw]? = some (.cells #[vw] T' (0, 0))
  bx : ∀ p ∈ X, w.heap[p.1]? = some p.2
namespace Two
variable {α β : Type} {d : Kd α} {e T : Nat} {d' : Kd β} {e' T' : Nat} {w0 w w1 : World} {X : List (Nat × Obj)} {go gw : Nat} {vo vw vo1 vw1 : Value} {xs xs1 : List α} {ys ys1 : List β}
theorem z_lt (h : Two d e T d' e' T' w0 w X go gw vo vw xs ys) {k : Nat} (hz : Zin X go gw k) : k < w.heap.size := by
  rcases hz with rfl | rfl | ⟨p, hp, rfl⟩
  · exact blk_lt h.bo
  · exact blk_lt h.bw
  · exact blk_lt (h.bx p hp)
theorem size (h : Two d e T d' e' T' w0 w X go gw vo vw xs ys) : w0.heap.size ≤ w.heap.size := h.hb.size
theorem below (h : Two d e T d' e' T' w0 w X go gw vo vw xs ys) (hb : Below w.heap.size w w1) : Two d e T d' e' T' w0 w1 X go gw vo vw xs ys :=
  ⟨below_step h.hb hb, h.go_ge, h.gw_ge, h.x_ge, h.ne, h.x_ne, Kd.S_below h.so hb, Kd.R_below h.ro hb, blk_below h.bo hb, blk_below h.bw hb, fun p hp => blk_below (h.bx p hp) hb⟩
theorem drew (h : Two d e T d' e' T' w0 w X go gw vo vw xs ys) : Two d e T d' e' T' w0 w.drew X go gw vo vw xs ys := h.below (below_drew (Below.refl _ _))
theorem fresh (h : Two d e T d' e' T' w0 w X go gw vo vw xs ys) : ∀ k, w.heap.size ≤ k → some k ≠ vw.ownBlock ∧ ¬ Zin X go gw k := fun k hk =>
  ⟨fun he => by have := Kd.R_lt h.ro k he.symm; omega, fun hz => by have := h.z_lt hz; omega⟩
theorem vo_not (h : Two d e T d' e' T' w0 w X go gw vo vw xs ys) : ∀ k, vo.ownBlock = some k → ¬ Zin X go gw k := fun k hk => ((Kd.S_R h.so).1 k hk).2
theorem vw_not (h : Two d e T d' e' T' w0 w X go gw vo vw xs ys) : ∀ k, vw.ownBlock = some k → ¬ Zin X go gw k := fun k hk => h.ro.1 k hk
theorem z_grown (h : Two d e T d' e' T' w0 w X go gw vo vw xs ys) {row : Option Nat} (hg : w.grownBy w1 row) (hr : ∀ k, row = some k → ¬ Zin X go gw k) :
    w1.heap[go]? = some (.cells #[vo] T (0, 0)) ∧ w1.heap[gw]? = some (.cells #[vw] T' (0, 0)) ∧ ∀ p ∈ X, w1.heap[p.1]? = some p.2 :=
  ⟨blk_grown h.bo hg (fun he => hr _ he.symm (.inl rfl)), blk_grown h.bw hg (fun he => hr _ he.symm (.inr (.inl rfl))), fun p hp => blk_grown (h.bx p hp) hg (fun he => hr _ he.symm (.inr (.inr ⟨p, hp, rfl⟩)))⟩
/-- Behind an append to the one and its store. -/
theorem putO (hE : d'.E = []) (h : Two d e T d' e' T' w0 w X go gw vo vw xs ys) (hg : w.grownBy w1 vo.ownBlock) (hb : Below w0.heap.size w0 w1)
    (ho : Kd.S d e w1 w0.heap.size (fun k => some k ≠ vw.ownBlock ∧ ¬ Zin X go gw k) vo1 xs1) : Two d e T d' e' T' w0 (w1.setCell ⟨go, 0, none⟩ vo1) X go gw vo1 vw xs1 ys := by
  obtain ⟨h1, h2, h3⟩ := h.z_grown hg h.vo_not
  have hR1 : d'.R e' w1 w0.heap.size (fun k => ¬ Zin X go gw k) vw ys :=
    Kd.R_mono (Kd.R_step (w1 := w1) (Kd.R_tight hE h.ro) (fun k hk hlt => hg.block k hlt (fun he => ((Kd.S_R h.so).1 k he.symm).1 hk))) (fun k hk => h.vw_not k hk.symm)
  exact ⟨below_set hb h.go_ge, h.go_ge, h.gw_ge, h.x_ge, h.ne, h.x_ne, Kd.S_far (p := ⟨go, 0, none⟩) ho (fun k hk he => hk.2 (.inl he)) vo1, Kd.R_far (p := ⟨go, 0, none⟩) hR1 (fun k hk he => hk (.inl he)) vo1,
    blk_put h1 0 vo1 rfl, blk_far h2 (Ne.symm h.ne) _, fun p hp => (Below.heap_setCell w1 ⟨go, 0, none⟩ vo1 p.1 (h.x_ne p hp).1).trans (h3 p hp)⟩
/-- Behind an append to the other and its store. -/
theorem putW (h : Two d e T d' e' T' w0 w X go gw vo vw xs ys) (hg : w.grownBy w1 vw.ownBlock) (hat : vw1.ownBlock = vw.ownBlock ∨ ∃ b, vw1.ownBlock = some b ∧ w.heap.size ≤ b) (hb : Below w0.heap.size w0 w1)
    (ho : d'.R e' w1 w0.heap.size (fun k => ¬ Zin X go gw k) vw1 ys1) : Two d e T d' e' T' w0 (w1.setCell ⟨gw, 0, none⟩ vw1) X go gw vo vw1 xs ys1 := by
  obtain ⟨h1, h2, h3⟩ := h.z_grown hg h.vw_not
  have hS1 : Kd.S d e w1 w0.heap.size (fun k => ¬ Zin X go gw k ∧ some k ≠ vw1.ownBlock) vo xs := Kd.S_after (Kd.S_mono h.so (fun _ hk => ⟨hk.2, hk.1⟩)) hg hat
  exact ⟨below_set hb h.gw_ge, h.go_ge, h.gw_ge, h.x_ge, h.ne, h.x_ne, Kd.S_mono (Kd.S_far (p := ⟨gw, 0, none⟩) hS1 (fun k hk he => hk.1 (.inr (.inl he))) vw1) (fun _ hk => ⟨hk.2, hk.1⟩), Kd.R_far (p := ⟨gw, 0, none⟩) ho (fun k hk he => hk (.inr (.inl he))) vw1,
    blk_far h1 h.ne _, blk_put h2 0 vw1 rfl, fun p hp => (Below.heap_setCell w1 ⟨gw, 0, none⟩ vw1 p.1 (h.x_ne p hp).2).trans (h3 p hp)⟩
/-- The other, cut: the same block. -/
theorem cutW (h : Two d e T d' e' T' w0 w X go gw vo vw xs ys) (ho : d'.R e' w w0.heap.size (fun k => ¬ Zin X go gw k) vw1 ys1) (hv : vw1.ownBlock = vw.ownBlock) : Two d e T d' e' T' w0 (w.setCell ⟨gw, 0, none⟩ vw1) X go gw vo vw1 xs ys1 :=
  ⟨below_set h.hb h.gw_ge, h.go_ge, h.gw_ge, h.x_ge, h.ne, h.x_ne, Kd.S_far (p := ⟨gw, 0, none⟩) (by rw [hv]; exact h.so) (fun k hk he => hk.2 (.inr (.inl he))) vw1, Kd.R_far (p := ⟨gw, 0, none⟩) ho (fun k hk he => hk (.inr (.inl he))) vw1,
    blk_far h.bo h.ne _, blk_put h.bw 0 vw1 rfl, fun p hp => (Below.heap_setCell w ⟨gw, 0, none⟩ vw1 p.1 (h.x_ne p hp).2).trans (h.bx p hp)⟩
/-- A further block that is new. -/
theorem addX (h : Two d e T d' e' T' w0 w X go gw vo vw xs ys) {g : Nat} {o : Obj} (hb : Below w.heap.size w w1) (hx : w1.heap[g]? = some o) (hge : w.heap.size ≤ g) : Two d e T d' e' T' w0 w1 ((g, o) :: X) go gw vo vw xs ys := by
  have h1 := h.below hb
  have hz : ∀ k, k < w.heap.size → ¬ Zin X go gw k → ¬ Zin ((g, o) :: X) go gw k := by
    rintro k hk hn (rfl | rfl | ⟨p, hp, rfl⟩)
    · exact hn (.inl rfl)
    · exact hn (.inr (.inl rfl))
    · rcases List.mem_cons.1 hp with rfl | hp
      · exact absurd hk (by simp only []; omega)
      · exact hn (.inr (.inr ⟨p, hp, rfl⟩))
  refine ⟨h1.hb, h.go_ge, h.gw_ge, fun p hp => ?_, h.ne, fun p hp => ?_, ?_, ?_, h1.bo, h1.bw, fun p hp => ?_⟩
  · rcases List.mem_cons.1 hp with rfl | hp
    · exact Nat.le_trans h.size hge
    · exact h.x_ge p hp
  · rcases List.mem_cons.1 hp with rfl | hp
    · have := blk_lt h.bo; have := blk_lt h.bw; simp only []; omega
    · exact h.x_ne p hp
  · exact Kd.S_below (Kd.S_mono (Kd.S_bound h.so) (fun k hk => ⟨hk.1.1, hz k hk.2.2.1 hk.1.2⟩)) hb
  · exact Kd.R_below (Kd.R_mono (Kd.R_bound h.ro) (fun k hk => hz k hk.2.2.1 hk.1)) hb
  · rcases List.mem_cons.1 hp with rfl | hp
    · exact hx
    · exact h1.bx p hp
/-- A store into the newest of the others. -/
theorem setX {g t : Nat} {v u : Value} (h : Two d e T d' e' T' w0 w ((g, .cells #[v] t (0, 0)) :: X) go gw vo vw xs ys) (hn : ∀ p ∈ X, p.1 ≠ g) : Two d e T d' e' T' w0 (w.setCell ⟨g, 0, none⟩ u) ((g, .cells #[u] t (0, 0)) :: X) go gw vo vw xs ys := by
  have hz : ∀ k, ¬ Zin ((g, .cells #[v] t (0, 0)) :: X) go gw k → ¬ Zin ((g, .cells #[u] t (0, 0)) :: X) go gw k ∧ k ≠ g := by
    intro k hk
    refine ⟨?_, fun he => hk (.inr (.inr ⟨_, List.mem_cons_self .., he.symm⟩))⟩
    rintro (rfl | rfl | ⟨p, hp, rfl⟩)
    · exact hk (.inl rfl)
    · exact hk (.inr (.inl rfl))
    · rcases List.mem_cons.1 hp with rfl | hp
      · exact hk (.inr (.inr ⟨_, List.mem_cons_self .., rfl⟩))
      · exact hk (.inr (.inr ⟨p, List.mem_cons_of_mem _ hp, rfl⟩))
  have hg := h.x_ne _ (List.mem_cons_self ..)
  have hge := h.x_ge _ (List.mem_cons_self ..)
  refine ⟨below_set h.hb hge, h.go_ge, h.gw_ge, fun p hp => ?_, h.ne, fun p hp => ?_, ?_, ?_, blk_far h.bo (Ne.symm hg.1) _, blk_far h.bw (Ne.symm hg.2) _, fun p hp => ?_⟩
  · rcases List.mem_cons.1 hp with rfl | hp
    · exact hge
    · exact h.x_ge p (List.mem_cons_of_mem _ hp)
  · rcases List.mem_cons.1 hp with rfl | hp
    · exact hg
    · exact h.x_ne p (List.mem_cons_of_mem _ hp)
  · exact Kd.S_mono (Kd.S_far (p := ⟨g, 0, none⟩) h.so (fun k hk => (hz k hk.2).2) u) (fun k hk => ⟨hk.1, (hz k hk.2).1⟩)
  · exact Kd.R_mono (Kd.R_far (p := ⟨g, 0, none⟩) h.ro (fun k hk => (hz k hk).2) u) (fun k hk => (hz k hk).1)
  · rcases List.mem_cons.1 hp with rfl | hp
    · exact blk_put (h.bx _ (List.mem_cons_self ..)) 0 u rfl
    · exact (Below.heap_setCell w ⟨g, 0, none⟩ u p.1 (hn p hp)).trans (h.bx p (List.mem_cons_of_mem _ hp))
/-- A store into one cell of the newest of the others. -/
theorem setXc {g t i : Nat} {cs cs' : Array Value} {u : Value} (h : Two d e T d' e' T' w0 w ((g, .cells cs t (0, 0)) :: X) go gw vo vw xs ys) (hn : ∀ p ∈ X, p.1 ≠ g) (he : cs.setIfInBounds i u = cs') : Two d e T d' e' T' w0 (w.setCell ⟨g, i, none⟩ u) ((g, .cells cs' t (0, 0)) :: X) go gw vo vw xs ys := by
  have hz : ∀ k, ¬ Zin ((g, .cells cs t (0, 0)) :: X) go gw k → ¬ Zin ((g, .cells cs' t (0, 0)) :: X) go gw k ∧ k ≠ g := by
    intro k hk
    refine ⟨?_, fun he => hk (.inr (.inr ⟨_, List.mem_cons_self .., he.symm⟩))⟩
    rintro (rfl | rfl | ⟨p, hp, rfl⟩)
    · exact hk (.inl rfl)
    · exact hk (.inr (.inl rfl))
    · rcases List.mem_cons.1 hp with rfl | hp
      · exact hk (.inr (.inr ⟨_, List.mem_cons_self .., rfl⟩))
      · exact hk (.inr (.inr ⟨p, List.mem_cons_of_mem _ hp, rfl⟩))
  have hg := h.x_ne _ (List.mem_cons_self ..)
  have hge := h.x_ge _ (List.mem_cons_self ..)
  refine ⟨below_set h.hb hge, h.go_ge, h.gw_ge, fun p hp => ?_, h.ne, fun p hp => ?_, ?_, ?_, blk_far h.bo (Ne.symm hg.1) _, blk_far h.bw (Ne.symm hg.2) _, fun p hp => ?_⟩
  · rcases List.mem_cons.1 hp with rfl | hp
    · exact hge
    · exact h.x_ge p (List.mem_cons_of_mem _ hp)
  · rcases List.mem_cons.1 hp with rfl | hp
    · exact hg
    · exact h.x_ne p (List.mem_cons_of_mem _ hp)
  · exact Kd.S_mono (Kd.S_far (p := ⟨g, i, none⟩) h.so (fun k hk => (hz k hk.2).2) u) (fun k hk => ⟨hk.1, (hz k hk.2).1⟩)
  · exact Kd.R_mono (Kd.R_far (p := ⟨g, i, none⟩) h.ro (fun k hk => (hz k hk).2) u) (fun k hk => (hz k hk).1)
  · rcases List.mem_cons.1 hp with rfl | hp
    · exact blk_put (h.bx _ (List.mem_cons_self ..)) i u he
    · exact (Below.heap_setCell w ⟨g, i, none⟩ u p.1 (hn p hp)).trans (h.bx p (List.mem_cons_of_mem _ hp))
/-- The newest of the others forgotten. -/
theorem dropX {q : Nat × Obj} (h : Two d e T d' e' T' w0 w (q :: X) go gw vo vw xs ys) : Two d e T d' e' T' w0 w X go gw vo vw xs ys := by
  have hz : ∀ k, ¬ Zin (q :: X) go gw k → ¬ Zin X go gw k := by
    rintro k hk (h | h | ⟨p, hp, he⟩)
    · exact hk (.inl h)
    · exact hk (.inr (.inl h))
    · exact hk (.inr (.inr ⟨p, List.mem_cons_of_mem _ hp, he⟩))
  exact ⟨h.hb, h.go_ge, h.gw_ge, fun p hp => h.x_ge p (List.mem_cons_of_mem _ hp), h.ne, fun p hp => h.x_ne p (List.mem_cons_of_mem _ hp), Kd.S_mono h.so (fun k hk => ⟨hk.1, hz k hk.2⟩), Kd.R_mono h.ro hz, h.bo, h.bw, fun p hp => h.bx p (List.mem_cons_of_mem _ hp)⟩
/-- The two variables given their rows. -/
theorem start {u1 u2 : Value} (hb : Below w0.heap.size w0 w) (h1 : w0.heap.size ≤ go) (h2 : w0.heap.size ≤ gw) (h3 : ∀ p ∈ X, w0.heap.size ≤ p.1) (hne : go ≠ gw) (hx : ∀ p ∈ X, p.1 ≠ go ∧ p.1 ≠ gw)
    (hso : Kd.S d e w w0.heap.size (fun k => some k ≠ vw.ownBlock ∧ ¬ Zin X go gw k) vo xs) (hro : d'.R e' w w0.heap.size (fun k => ¬ Zin X go gw k) vw ys)
    (hbo : w.heap[go]? = some (.cells #[u1] T (0, 0))) (hbw : w.heap[gw]? = some (.cells #[u2] T' (0, 0))) (hbx : ∀ p ∈ X, w.heap[p.1]? = some p.2) :
    Two d e T d' e' T' w0 ((w.setCell ⟨go, 0, none⟩ vo).setCell ⟨gw, 0, none⟩ vw) X go gw vo vw xs ys :=
  ⟨below_set (below_set hb h1) h2, h1, h2, h3, hne, hx, Kd.S_far (p := ⟨gw, 0, none⟩) (Kd.S_far (p := ⟨go, 0, none⟩) hso (fun k hk he => hk.2 (.inl he)) vo) (fun k hk he => hk.2 (.inr (.inl he))) vw,
    Kd.R_far (p := ⟨gw, 0, none⟩) (Kd.R_far (p := ⟨go, 0, none⟩) hro (fun k hk he => hk (.inl he)) vo) (fun k hk he => hk (.inr (.inl he))) vw,
    blk_far (blk_put hbo 0 vo rfl) hne _, blk_put (blk_far hbw (Ne.symm hne) _) 0 vw rfl, fun p hp => (Below.heap_setCell _ ⟨gw, 0, none⟩ vw p.1 (hx p hp).2).trans ((Below.heap_setCell w ⟨go, 0, none⟩ vo p.1 (hx p hp).1).trans (hbx p hp))⟩
end Two
end Go.Proofs.Ytkddpilambnicaa.Two
