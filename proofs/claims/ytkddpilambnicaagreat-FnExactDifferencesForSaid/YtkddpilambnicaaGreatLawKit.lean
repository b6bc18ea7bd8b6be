/- What a row that was made keeps over the calls behind it: small lemmas for the law's own walk. Conditions: each lemma's own. -/
import Derived.Test.YtkddpilambnicaaGreatWMore
import Derived.Test.YtkddpilambnicaaGreatWApart
import Derived.Test.YtkddpilambnicaaGreatWKept
import Derived.Test.YtkddpilambnicaaGreatWShare
import Derived.Test.YtkddpilambnicaaGreatWN
import Derived.Test.YtkddpilambnicaaGreatWNEv
set_option linter.unusedVariables false
set_option linter.unusedSimpArgs false
namespace Go.Proofs.YtkddpilambnicaaGreat.Law
open Go.RowKit Go.Proofs.YtkddpilambnicaaGreatW.PrintWords Go.Proofs.YtkddpilambnicaaGreatW.PrintLast Go.Proofs.YtkddpilambnicaaGreatW.PrintMore
section
variable {α : Type} {d : Kd α} {e : Nat} {w wl Wc w' : World} {base : Nat} {ok S : Nat → Prop} {v : Value} {xs : List α}
theorem adv (h1 : Below wl.heap.size wl Wc) (h2 : Below Wc.heap.size Wc w') : Below wl.heap.size wl w' := below_step h1 h2
theorem advB (h1 : Below w.heap.size w wl) (h2 : Below wl.heap.size wl w') : Below w.heap.size w w' := below_step h1 h2
theorem kept_le (h1 : Below wl.heap.size wl Wc) (hk : Kept Wc w' S) : wl.heap.size ≤ w'.heap.size := Nat.le_trans h1.size hk.1
def In (a b : Nat) (W : World) (E : List Nat) (k : Nat) : Prop := a ≤ k ∧ k < b ∧ ∃ q, q ∈ E ∧ ∃ cells, W.heap[k]? = some (.cells cells q (0, 0))
def InN (a b k : Nat) : Prop := a ≤ k ∧ k < b ∧ True
theorem apart_ {b a' k : Nat} (h : b ≤ a') (h1 : k < b) (h2 : a' ≤ k) : False := by omega
theorem apartT_ {a b a' b' : Nat} {W : World} {E E' : List Nat} {k : Nat} (h : ∀ q ∈ E, q ∉ E') (h1 : In a b W E k) (h2 : In a' b' W E' k) : False := by
  obtain ⟨_, _, q, hq, c, hc⟩ := h1
  obtain ⟨_, _, q', hq', c', hc'⟩ := h2
  rw [hc] at hc'
  injection hc' with hc'
  injection hc' with _ hc'
  subst hc'
  exact h q hq hq'
theorem kset (h : Kept w wl S) (g i : Nat) (u : Value) (hg : S g) : Kept w (wl.setCell ⟨g, i, none⟩ u) S := h.setCell (p := ⟨g, i, none⟩) (.inl hg) u
theorem keq {W1 W2 : World} (h : Kept w W1 S) (e : W2 = W1) : Kept w W2 S := e ▸ h
theorem bset (h : Below w.heap.size w wl) (g i : Nat) (u : Value) (hg : w.heap.size ≤ g) : Below w.heap.size w (wl.setCell ⟨g, i, none⟩ u) := below_set h hg
theorem boxIn {g : Nat} {o : Obj} (h1 : Below wl.heap.size wl Wc) (hg : g = Wc.heap.size) (hb : w'.heap[g]? = some o) : ∀ k, k = g → InN wl.heap.size w'.heap.size k := fun k hk => by
  subst hk
  exact ⟨by rw [hg]; exact h1.size, blk_lt hb, trivial⟩
theorem made_R (h1 : Below wl.heap.size wl Wc) (hb : base ≤ wl.heap.size) (h : d.R e w' Wc.heap.size ok v xs) : ∃ P : Nat → Prop, (∀ k, P k → In wl.heap.size w'.heap.size w' (e :: d.E) k) ∧ d.R e w' base P v xs :=
  ⟨_, fun _ hk => ⟨Nat.le_trans h1.size hk.2.1, hk.2.2.1, hk.2.2.2⟩, Kd.R_lower (Kd.R_bound h) (Nat.le_trans hb h1.size)⟩
theorem made_S (h1 : Below wl.heap.size wl Wc) (hb : base ≤ wl.heap.size) (h : Kd.S d e w' Wc.heap.size ok v xs) : ∃ P : Nat → Prop, (∀ k, P k → In wl.heap.size w'.heap.size w' (e :: d.E) k) ∧ Kd.S d e w' base P v xs :=
  ⟨_, fun _ hk => ⟨Nat.le_trans h1.size hk.2.1, hk.2.2.1, hk.2.2.2⟩, Kd.S_lower (Kd.S_bound h) (Nat.le_trans hb h1.size)⟩
theorem marked_R {lo : World} {P : Nat → Prop} (h1 : Below wl.heap.size wl Wc) (hP : ∀ k, P k → lo.heap.size ≤ k) (hl : lo.heap.size ≤ wl.heap.size) (h : d.R e w' base (fun k => P k ∨ Wc.heap.size ≤ k) v xs) : ∃ P' : Nat → Prop, (∀ k, P' k → InN lo.heap.size w'.heap.size k) ∧ d.R e w' base P' v xs :=
  ⟨_, fun k hk => ⟨hk.1.elim (hP k) (fun h2 => Nat.le_trans hl (Nat.le_trans h1.size h2)), hk.2.2.1, trivial⟩, Kd.R_bound h⟩
theorem marked_S {lo : World} {P : Nat → Prop} (h1 : Below wl.heap.size wl Wc) (hP : ∀ k, P k → lo.heap.size ≤ k) (hl : lo.heap.size ≤ wl.heap.size) (h : Kd.S d e w' base (fun k => P k ∨ Wc.heap.size ≤ k) v xs) : ∃ P' : Nat → Prop, (∀ k, P' k → InN lo.heap.size w'.heap.size k) ∧ Kd.S d e w' base P' v xs :=
  ⟨_, fun k hk => ⟨hk.1.elim (hP k) (fun h2 => Nat.le_trans hl (Nat.le_trans h1.size h2)), hk.2.2.1, trivial⟩, Kd.S_bound h⟩
theorem slice_R (h : d.R e w base ok v xs) : ∃ A c, v = .slice A xs.length c := Kd.R_slice h
theorem slice_S (h : Kd.S d e w base ok v xs) : ∃ A c, v = .slice A xs.length c := Kd.S_slice h
end
end Go.Proofs.YtkddpilambnicaaGreat.Law
