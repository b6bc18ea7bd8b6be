/- Small lemmas on rounds, indices and lists, for the pure laws. Conditions: none beyond each lemma's own. -/
import Derived.Test.YtkddpilambnicaaGreatWMore
import Derived.WideShapes
import Derived.Laws.Strings
namespace Go.Proofs.YtkddpilambnicaaGreat.Kit
open Go.RowKit Go.Proofs.YtkddpilambnicaaGreatW.PrintWords Go.Proofs.YtkddpilambnicaaGreatW.PrintLast Go.Proofs.YtkddpilambnicaaGreatW.PrintMore

theorem Ev.pos {α : Type} {c : Prop} [Decidable c] {g g' : Nat → Option α} {r : α} (h : c) (k : Ev g r) : Ev (fun n => if c then g n else g' n) r :=
  Ev.congr (fun _ => if_pos h) k
theorem Ev.neg {α : Type} {c : Prop} [Decidable c] {g g' : Nat → Option α} {r : α} (h : ¬ c) (k : Ev g' r) : Ev (fun n => if c then g n else g' n) r :=
  Ev.congr (fun _ => if_neg h) k
theorem Ev.to {α : Type} {g : Nat → Option α} {r r' : α} (h : Ev g r) (e : r = r') : Ev g r' := e ▸ h
theorem Ev.is {α : Type} {r r' : α} (e : r = r') : Ev (fun _ => some r) r' := e ▸ Ev.now r
theorem Ev.ite {α : Type} {c : Prop} [Decidable c] {g g' : Nat → Option α} {r r' : α} (h : c → Ev g r) (k : ¬ c → Ev g' r') : Ev (fun n => if c then g n else g' n) (if c then r else r') := by
  by_cases e : c
  · rw [if_pos e]; exact Ev.pos e (h e)
  · rw [if_neg e]; exact Ev.neg e (k e)
theorem Ev.flat {α : Type} {g : Option α} {r : α} (h : g = some r) : Ev (fun _ => g) r := by subst h; exact Ev.now r

theorem wrapS {i n : Nat} (h : i ≤ n) (hn : n ≤ 4611686018427387904) : wrap64 ((i : Int) + 1) = ((i + 1 : Nat) : Int) := by unfold wrap64; omega
theorem wrapI (n : Int) (h : -9223372036854775808 ≤ n ∧ n ≤ 9223372036854775807) : wrap64 n = n := by unfold wrap64; omega
theorem rdN (xs : List Int) (i : Nat) : rd xs (i : Int) = xs.getD i 0 := rfl
theorem wf64 {x : Int} (h : (Lit.int .i64 x).wf = true) : -9223372036854775808 ≤ x ∧ x ≤ 9223372036854775807 := by
  have h1 : IntKind.min .i64 = -9223372036854775808 := by decide
  have h2 : IntKind.max .i64 = 9223372036854775807 := by decide
  simp only [Lit.wf, h1, h2, Bool.and_eq_true, decide_eq_true_eq] at h
  exact h
theorem getD_at {α : Type} (xs : List α) (d : α) (i : Nat) (h : i < xs.length) : xs.getD i d = xs[i] := by
  simp [List.getD_eq_getElem?_getD, h]
theorem drop_cons {α : Type} (xs : List α) (d : α) (i : Nat) (h : i < xs.length) : xs.drop i = xs.getD i d :: xs.drop (i + 1) := by
  rw [List.drop_eq_getElem_cons h, getD_at _ _ _ h]
theorem take_succ' {α : Type} (xs : List α) (d : α) (i : Nat) (h : i < xs.length) : xs.take (i + 1) = xs.take i ++ [xs.getD i d] := by
  rw [List.take_succ_eq_append_getElem h, getD_at _ _ _ h]
theorem mem_getD {α : Type} (xs : List α) (d : α) (i : Nat) (h : i < xs.length) : xs.getD i d ∈ xs := by
  rw [getD_at _ _ _ h]; exact List.getElem_mem h
/-- What has been written up to i, and the rest as it was made: one step on. -/
theorem set_fill {α : Type} (xs ys : List α) (d : α) (i : Nat) (h : i < xs.length) (hl : ys.length = xs.length) (ht : ys.take i = xs.take i) :
    (ys.set i (xs.getD i d)).length = xs.length ∧ (ys.set i (xs.getD i d)).take (i + 1) = xs.take (i + 1) := by
  refine ⟨by rw [List.length_set, hl], ?_⟩
  rw [take_succ' xs d i h, List.take_succ_eq_append_getElem (by rw [List.length_set]; omega), List.getElem_set_self]
  congr 1
  rw [← ht]
  apply List.ext_getElem?
  intro j
  rw [List.getElem?_take, List.getElem?_take]
  by_cases hj : j < i
  · rw [if_pos hj, if_pos hj, List.getElem?_set_ne (by omega)]
  · rw [if_neg hj, if_neg hj]
/-! loops that count, copy and compare, in the form in which they are printed -/
theorem getD_map {α β : Type} (f : α → β) (xs : List α) (d : α) (e : β) (i : Nat) (h : i < xs.length) : (xs.map f).getD i e = f (xs.getD i d) := by
  rw [getD_at _ _ _ (by simpa using h), getD_at _ _ _ h, List.getElem_map]
theorem sz_loop {α : Type} (L : Nat → Int → Int → Option Int) (E : Nat → α → Int → Option Int) (xs : List α) (dflt : α) (Good : α → Prop) (hn : xs.length ≤ 4611686018427387904)
    (hL : ∀ (k : Nat) (left : Int) (i : Nat), L (k + 1) left (i : Int) = if (i : Int) < (xs.length : Int) then (if 0 ≤ (i : Int) then ((E k (xs.getD i dflt) left).bind fun t => if t < 0 then some (-1) else L k t (wrap64 ((i : Int) + 1))) else none) else some left)
    (hE : ∀ y ∈ xs, ∀ left, 0 ≤ left → left ≤ 1048576 → ∃ r, Ev (fun k => E k y left) r ∧ -1 ≤ r ∧ r ≤ left ∧ (0 ≤ r → Good y)) :
    ∀ (d i : Nat) (left : Int), i + d = xs.length → 0 ≤ left → left ≤ 1048576 → ∃ r, Ev (fun k => L k left (i : Int)) r ∧ -1 ≤ r ∧ r ≤ left ∧ (0 ≤ r → ∀ y ∈ xs.drop i, Good y) := by
  intro d
  induction d with
  | zero =>
    intro i left hi h0 h1
    refine ⟨left, Ev.step (fun k => hL k left i) (Ev.neg (by omega) (Ev.now _)), by omega, by omega, fun _ y hy => ?_⟩
    rw [List.drop_of_length_le (by omega)] at hy
    cases hy
  | succ d ih =>
    intro i left hi h0 h1
    have hlt : i < xs.length := by omega
    obtain ⟨t, he, ht1, ht2, hg⟩ := hE _ (mem_getD xs dflt i hlt) left h0 h1
    by_cases c : t < 0
    · exact ⟨-1, Ev.step (fun k => hL k left i) (Ev.pos (by omega) (Ev.pos (by omega) (Ev.bind he (Ev.pos c (Ev.now _))))), by omega, by omega, fun h => by omega⟩
    · obtain ⟨r, hr, hr1, hr2, hr3⟩ := ih (i + 1) t (by omega) (by omega) (by omega)
      refine ⟨r, Ev.step (fun k => hL k left i) (Ev.pos (by omega) (Ev.pos (by omega) (Ev.bind he (Ev.neg c ?_)))), hr1, by omega, fun h y hy => ?_⟩
      · rw [wrapS (Nat.le_of_lt hlt) hn]; exact hr
      · rw [drop_cons xs dflt i hlt] at hy
        rcases List.mem_cons.1 hy with hy | hy
        · rw [hy]; exact hg (by omega)
        · exact hr3 h y hy
theorem sz_slice {α : Type} (F : Nat → Int → Option Int) (L : Nat → Int → Int → Option Int) (xs : List α) (Good : α → Prop) (hn : xs.length ≤ maxLen)
    (hF : ∀ (k : Nat) (a : Int), F k a = if (wrap64 (a - (xs.length : Int))) < 0 then (some (-1)) else (L k (wrap64 (a - (xs.length : Int))) 0))
    (hl : xs.length ≤ 4611686018427387904 → ∀ left, 0 ≤ left → left ≤ 1048576 → ∃ r, Ev (fun k => L k left 0) r ∧ -1 ≤ r ∧ r ≤ left ∧ (0 ≤ r → ∀ y ∈ xs, Good y)) :
    ∀ a, 0 ≤ a → a ≤ 1048576 → ∃ r, Ev (fun k => F k a) r ∧ -1 ≤ r ∧ r ≤ a ∧ (0 ≤ r → xs.length ≤ 1048576 ∧ ∀ y ∈ xs, Good y) := by
  intro a h0 h1
  unfold maxLen at hn
  have hw : wrap64 (a - (xs.length : Int)) = a - (xs.length : Int) := wrapI _ (by omega)
  by_cases c : a - (xs.length : Int) < 0
  · exact ⟨-1, Ev.congr (fun k => hF k a) (Ev.pos (by rw [hw]; exact c) (Ev.now _)), by omega, by omega, fun h => by omega⟩
  · obtain ⟨r, hr, hr1, hr2, hr3⟩ := hl (by omega) (a - (xs.length : Int)) (by omega) (by omega)
    exact ⟨r, Ev.congr (fun k => hF k a) (Ev.neg (by rw [hw]; exact c) (by rw [hw]; exact hr)), hr1, by omega, fun h => ⟨by omega, hr3 h⟩⟩
theorem to_loop {α β γ : Type} (L : Nat → List γ → Int → Option (List γ)) (E : Nat → α → Option β) (C : β → γ) (b : α → β) (xs : List α) (dflt : α) (hn : xs.length ≤ 4611686018427387904)
    (hL : ∀ (k : Nat) (ys : List γ) (i : Nat), L (k + 1) ys (i : Int) = if (i : Int) < (xs.length : Int) then (if 0 ≤ (i : Int) then ((E k (xs.getD i dflt)).bind fun t => (if (i : Int) < (ys.length : Int) then L k (ys.set ((i : Int) : Int).toNat (C t)) (wrap64 ((i : Int) + 1)) else none)) else none) else some ys)
    (hE : ∀ y ∈ xs, Ev (fun k => E k y) (b y)) :
    ∀ (d i : Nat) (ys : List γ), i + d = xs.length → ys.length = xs.length → ys.take i = (xs.map fun y => C (b y)).take i → Ev (fun k => L k ys (i : Int)) (xs.map fun y => C (b y)) := by
  intro d
  induction d with
  | zero =>
    intro i ys hi hl ht
    refine Ev.step (fun k => hL k ys i) (Ev.neg (by omega) (Ev.is ?_))
    rw [List.take_of_length_le (by omega), List.take_of_length_le (by rw [List.length_map]; omega)] at ht
    exact ht
  | succ d ih =>
    intro i ys hi hl ht
    have hlt : i < xs.length := by omega
    have h12 := set_fill (xs.map fun y => C (b y)) ys (C (b dflt)) i (by rw [List.length_map]; exact hlt) (by rw [List.length_map]; exact hl) ht
    rw [getD_map (fun y => C (b y)) xs dflt _ i hlt, List.length_map] at h12
    refine Ev.step (fun k => hL k ys i) (Ev.pos (by omega) (Ev.pos (by omega) (Ev.bind (hE _ (mem_getD xs dflt i hlt)) (Ev.pos (by omega) ?_))))
    rw [wrapS (Nat.le_of_lt hlt) hn, Int.toNat_natCast]
    exact ih (i + 1) _ (by omega) h12.1 h12.2
theorem eq_loop {α : Type} [DecidableEq α] (L : Nat → Int → Option Bool) (E : Nat → α → α → Option Bool) (xs ys : List α) (dflt : α) (hl : xs.length = ys.length) (hn : xs.length ≤ 4611686018427387904)
    (hL : ∀ (k : Nat) (i : Nat), L (k + 1) (i : Int) = if (i : Int) < (xs.length : Int) then (if 0 ≤ (i : Int) then (if (i : Int) < (ys.length : Int) then ((E k (xs.getD i dflt) (ys.getD i dflt)).bind fun t => (if t = true then L k (wrap64 ((i : Int) + 1)) else some false)) else none) else none) else some true)
    (hE : ∀ a ∈ xs, ∀ b ∈ ys, Ev (fun k => E k a b) (decide (a = b))) :
    ∀ (d i : Nat), i + d = xs.length → Ev (fun k => L k (i : Int)) (decide (xs.drop i = ys.drop i)) := by
  intro d
  induction d with
  | zero =>
    intro i hi
    refine Ev.step (fun k => hL k i) (Ev.neg (by omega) (Ev.is ?_))
    rw [List.drop_of_length_le (by omega), List.drop_of_length_le (by omega)]
    simp
  | succ d ih =>
    intro i hi
    have hlt : i < xs.length := by omega
    refine Ev.step (fun k => hL k i) (Ev.pos (by omega) (Ev.pos (by omega) (Ev.pos (by omega) (Ev.bind (hE _ (mem_getD xs dflt i hlt) _ (mem_getD ys dflt i (by omega))) ?_))))
    rw [wrapS (Nat.le_of_lt hlt) hn, drop_cons xs dflt i hlt, drop_cons ys dflt i (by omega)]
    by_cases e : xs.getD i dflt = ys.getD i dflt
    · refine Ev.pos (decide_eq_true e) (Ev.to (ih (i + 1) (by omega)) ?_)
      rw [e]
      exact decide_eq_decide.2 ⟨fun h => by rw [h], fun h => (List.cons.inj h).2⟩
    · exact Ev.neg (by simpa using e) (Ev.is (decide_eq_false (fun h => e (List.cons.inj h).1)).symm)
theorem eq_slice {α : Type} [DecidableEq α] (F : Nat → Option Bool) (L : Nat → Int → Option Bool) (xs ys : List α)
    (hF : ∀ k, F k = if (xs.length : Int) = (ys.length : Int) then L k 0 else some false) (h : xs.length = ys.length → Ev (fun k => L k 0) (decide (xs = ys))) : Ev F (decide (xs = ys)) := by
  by_cases e : xs.length = ys.length
  · exact Ev.congr hF (Ev.pos (by omega) (h e))
  · exact Ev.congr hF (Ev.neg (by omega) (Ev.is (decide_eq_false (fun h => e (by rw [h]))).symm))
theorem sz_leaf (a : Int) (n : Nat) (hn : n ≤ maxLen) (h0 : 0 ≤ a) (h1 : a ≤ 1048576) : ∃ r, (if (wrap64 (a - (n : Int))) < 0 then (some (-1)) else (some (wrap64 (a - (n : Int))))) = some r ∧ -1 ≤ r ∧ r ≤ a ∧ (0 ≤ r → n ≤ 1048576) := by
  unfold maxLen at hn
  rw [wrapI _ (by omega)]
  by_cases c : a - (n : Int) < 0
  · exact ⟨-1, by rw [if_pos c], by omega, by omega, fun h => by omega⟩
  · exact ⟨a - n, by rw [if_neg c], by omega, by omega, fun h => by omega⟩
/-- A loop that asks the same of every place from i on. -/
theorem all_loop (L : Nat → Int → Option Bool) (n : Nat) (p : Nat → Prop) (q : Bool)
    (hstep : ∀ i, i < n → ∀ r, (p i → Ev (fun k => L k ((i + 1 : Nat) : Int)) r) → (¬ p i → r = false) → Ev (fun k => L k (i : Int)) r) (hend : Ev (fun k => L k (n : Int)) q) :
    ∀ (d i : Nat), i + d = n → ∀ b : Bool, (b = true ↔ (∀ j, i ≤ j → j < n → p j) ∧ q = true) → Ev (fun k => L k (i : Int)) b := by
  intro d
  induction d with
  | zero =>
    intro i hi b hb
    obtain rfl : i = n := by omega
    refine Ev.to hend ?_
    rw [Bool.eq_iff_iff, hb]
    exact ⟨fun h => ⟨fun j h1 h2 => absurd h2 (by omega), h⟩, fun h => h.2⟩
  | succ d ih =>
    intro i hi b hb
    refine hstep i (by omega) b (fun e => ih (i + 1) (by omega) b (hb.trans ⟨fun h => ⟨fun j h1 h2 => h.1 j (by omega) h2, h.2⟩, fun h => ⟨fun j h1 h2 => ?_, h.2⟩⟩)) (fun e => ?_)
    · rcases Nat.lt_or_ge i j with h3 | h3
      · exact h.1 j (by omega) h2
      · obtain rfl : j = i := by omega
        exact e
    · cases b with
      | false => rfl
      | true => exact absurd ((hb.1 rfl).1 i (Nat.le_refl _) (by omega)) e
/-- .. from s on. -/
theorem all_from (L : Nat → Int → Option Bool) (s n : Nat) (p : Nat → Prop) (q : Bool)
    (hstep : ∀ i, s ≤ i → i < n → ∀ r, (p i → Ev (fun k => L k ((i + 1 : Nat) : Int)) r) → (¬ p i → r = false) → Ev (fun k => L k (i : Int)) r) (hend : Ev (fun k => L k (n : Int)) q) :
    ∀ (d i : Nat), s ≤ i → i + d = n → ∀ b : Bool, (b = true ↔ (∀ j, i ≤ j → j < n → p j) ∧ q = true) → Ev (fun k => L k (i : Int)) b := by
  intro d
  induction d with
  | zero =>
    intro i hs hi b hb
    obtain rfl : i = n := by omega
    refine Ev.to hend ?_
    rw [Bool.eq_iff_iff, hb]
    exact ⟨fun h => ⟨fun j h1 h2 => absurd h2 (by omega), h⟩, fun h => h.2⟩
  | succ d ih =>
    intro i hs hi b hb
    refine hstep i hs (by omega) b (fun e => ih (i + 1) (by omega) (by omega) b (hb.trans ⟨fun h => ⟨fun j h1 h2 => h.1 j (by omega) h2, h.2⟩, fun h => ⟨fun j h1 h2 => ?_, h.2⟩⟩)) (fun e => ?_)
    · rcases Nat.lt_or_ge i j with h3 | h3
      · exact h.1 j (by omega) h2
      · obtain rfl : j = i := by omega
        exact e
    · cases b with
      | false => rfl
      | true => exact absurd ((hb.1 rfl).1 i (Nat.le_refl _) (by omega)) e
instance instMemBA (v : ByteArray) (xs : List ByteArray) : Decidable (v ∈ xs) := @List.instDecidableMemOfLawfulBEq _ instBEqOfDecidableEq _ v xs
theorem ba_ext {a b : ByteArray} : a.toList = b.toList ↔ a = b := by
  constructor
  · intro h
    rw [ByteArray.toList_eq, ByteArray.toList_eq] at h
    exact Go.WideShapes.bytes_inj h
  · exact fun h => by rw [h]
theorem list_eq_iff {α : Type} (xs ys : List α) (d : α) (h : xs.length = ys.length) : (∀ j, 0 ≤ j → j < xs.length → xs.getD j d = ys.getD j d) ↔ xs = ys := by
  constructor
  · intro H
    apply List.ext_getElem h
    intro j h1 h2
    have := H j (Nat.zero_le _) h1
    rwa [getD_at _ _ _ h1, getD_at _ _ _ h2] at this
  · intro e j _ _
    rw [e]

end Go.Proofs.YtkddpilambnicaaGreat.Kit
