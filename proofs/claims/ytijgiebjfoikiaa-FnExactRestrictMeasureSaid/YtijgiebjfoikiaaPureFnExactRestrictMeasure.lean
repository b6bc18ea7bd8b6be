/- The program's RestrictMeasure and the reference's answer alike, and the arguments stay. Conditions: what a slice may hold at most. -/
import Derived.Test.YtijgiebjfoikiaaPFnExactRestrictMeasurex0
import Derived.Test.YtijgiebjfoikiaaPFnExactRestrictMeasurex1
import Derived.Test.YtijgiebjfoikiaaPFnExactRestrictMeasurex2
import Derived.Test.YtijgiebjfoikiaaPFnExactRestrictMeasurex3
import Derived.Test.YtijgiebjfoikiaaPFnExactRestrictMeasurex4
import Derived.Test.YtijgiebjfoikiaaPFnExactRestrictMeasurex5
import Derived.Test.YtijgiebjfoikiaaPFnExactRestrictMeasurex6
import Derived.Test.YtijgiebjfoikiaaPFnExactRestrictMeasurex7
import Derived.Test.YtijgiebjfoikiaaKit
import Derived.WideShapes
import Derived.Laws.Strings
set_option linter.unusedVariables false
set_option linter.unusedSimpArgs false
namespace Go.Proofs.Ytijgiebjfoikiaa.Pure
open Go.RowKit Go.WideShapes Go.Proofs.Ytijgiebjfoikiaa.PFnExactRestrictMeasure Go.Proofs.Ytijgiebjfoikiaa.Kit Go.Proofs.YtijgiebjfoikiaaW.PrintWords Go.Proofs.YtijgiebjfoikiaaW.PrintLast
theorem szStringS_loop (xs : List ByteArray) (hn : xs.length ≤ 4611686018427387904) (hy : ∀ y ∈ xs, y.size ≤ maxLen) : ∀ (d i : Nat) (left : Int), i + d = xs.length → 0 ≤ left → left ≤ 1048576 →
    ∃ r, Ev (fun k => laws_szStringS.l0 k xs left (i : Int)) r ∧ -1 ≤ r ∧ r ≤ left ∧ (0 ≤ r → ∀ y ∈ xs.drop i, y.size ≤ 1048576) := by
  intro d
  induction d with
  | zero =>
    intro i left hi h0 h1
    refine ⟨left, Ev.step (fun k => laws_szStringS.l0.eq_2 _ _ _ _) (Ev.neg (by omega) (Ev.now _)), by omega, by omega, fun _ y hm => ?_⟩
    rw [List.drop_of_length_le (by omega)] at hm
    cases hm
  | succ d ih =>
    intro i left hi h0 h1
    have hlt : i < xs.length := by omega
    have hs := hy _ (mem_getD xs ByteArray.empty i hlt)
    unfold maxLen at hs
    have e : rdOf ByteArray.empty xs (i : Int) = xs.getD i ByteArray.empty := rfl
    by_cases c : left - ((xs.getD i ByteArray.empty).size : Int) < 0
    · exact ⟨-1, Ev.step (fun k => laws_szStringS.l0.eq_2 _ _ _ _) (Ev.pos (by omega) (Ev.pos (by omega) (Ev.pos (by rw [e, wrapI _ (by omega)]; exact c) (Ev.now _)))), by omega, by omega, fun h => by omega⟩
    · obtain ⟨r, hr, hr1, hr2, hr3⟩ := ih (i + 1) (left - ((xs.getD i ByteArray.empty).size : Int)) (by omega) (by omega) (by omega)
      refine ⟨r, Ev.step (fun k => laws_szStringS.l0.eq_2 _ _ _ _) (Ev.pos (by omega) (Ev.pos (by omega) (Ev.neg (by rw [e, wrapI _ (by omega)]; exact c) ?_))), hr1, by omega, fun h y hm => ?_⟩
      · rw [e, wrapI _ (by omega), wrapS (Nat.le_of_lt hlt) hn]; exact hr
      · rw [drop_cons xs ByteArray.empty i hlt] at hm
        rcases List.mem_cons.1 hm with rfl | hm
        · omega
        · exact hr3 h y hm
theorem szStringS_ev (xs : List ByteArray) (hn : xs.length ≤ maxLen) (hy : ∀ y ∈ xs, y.size ≤ maxLen) (a : Int) (h0 : 0 ≤ a) (h1 : a ≤ 1048576) :
    ∃ r, Ev (fun k => laws_szStringS.f k xs a) r ∧ -1 ≤ r ∧ r ≤ a ∧ (0 ≤ r → xs.length ≤ 1048576 ∧ ∀ y ∈ xs, y.size ≤ 1048576) :=
  sz_slice (fun k a => laws_szStringS.f k xs a) (fun k left i => laws_szStringS.l0 k xs left i) xs (fun y => y.size ≤ 1048576) hn (fun _ _ => rfl)
    (fun hl left h0 h1 => szStringS_loop xs hl hy xs.length 0 left (by omega) h0 h1) a h0 h1
theorem toStringS_ev (xs : List ByteArray) (hn : xs.length ≤ 1048576) : Ev (fun k => laws_toStringS.f k xs) xs := by
  unfold laws_toStringS.f
  refine Ev.pos (by omega) (Ev.pos (by omega) ?_)
  have h := to_loop (fun k ys i => laws_toStringS.l0 k xs ys i) (fun _ y => some y) (fun t => t) (fun y => y) xs ByteArray.empty (by omega) (fun k ys i => laws_toStringS.l0.eq_2 _ _ _ _)
    (fun y _ => Ev.now _) xs.length 0 (List.replicate xs.length (⟨#[]⟩ : ByteArray)) (by omega) (by rw [List.length_replicate]) rfl
  rw [List.map_id'] at h
  rw [Int.toNat_natCast]
  exact h
theorem eqStringS_ev (xs ys : List ByteArray) (hn : xs.length ≤ 4611686018427387904) : Ev (fun k => laws_eqStringS.f k xs ys) (decide (xs = ys)) :=
  eq_slice _ (fun k i => laws_eqStringS.l0 k xs ys i) xs ys (fun _ => rfl)
    (fun e => eq_loop _ (fun _ a b => some (decide (a = b))) xs ys ByteArray.empty e hn (fun k i => by rw [laws_eqStringS.l0.eq_2]; simp only [Option.bind_some, decide_eq_true_eq, ba_ext]; rfl) (fun a _ b _ => Ev.now _) xs.length 0 (by omega))
theorem szIntS_ev (l : List Int) (hl : l.length ≤ maxLen) (a : Int) (h0 : 0 ≤ a) (h1 : a ≤ 1048576) : ∃ r, Ev (fun _ => laws_szIntS.f l a) r ∧ -1 ≤ r ∧ r ≤ a ∧ (0 ≤ r → l.length ≤ 1048576) := by
  obtain ⟨r, hr, h⟩ := sz_leaf a l.length hl h0 h1
  exact ⟨r, Ev.flat hr, h⟩
theorem szIntSS_ev (xs : List (List Int)) (hn : xs.length ≤ maxLen) (hy : ∀ y ∈ xs, y.length ≤ maxLen) (a : Int) (h0 : 0 ≤ a) (h1 : a ≤ 1048576) :
    ∃ r, Ev (fun k => laws_szIntSS.f k xs a) r ∧ -1 ≤ r ∧ r ≤ a ∧ (0 ≤ r → xs.length ≤ 1048576 ∧ ∀ y ∈ xs, y.length ≤ 1048576) :=
  sz_slice (fun k a => laws_szIntSS.f k xs a) (fun k left i => laws_szIntSS.l0 k xs left i) xs (fun y => y.length ≤ 1048576) hn (fun _ _ => rfl)
    (fun hl left h0 h1 => sz_loop _ (fun _ y left => laws_szIntS.f y left) xs [] _ hl (fun k left i => laws_szIntSS.l0.eq_2 _ _ _ _) (fun y hm left h0 h1 => szIntS_ev y (hy y hm) left h0 h1) xs.length 0 left (by omega) h0 h1) a h0 h1
theorem toIntS_loop (xs : List Int) (hn : xs.length ≤ 4611686018427387904) : ∀ (d i : Nat) (ys : List Int), i + d = xs.length → ys.length = xs.length → ys.take i = xs.take i →
    Ev (fun k => laws_toIntS.l0 k xs ys (i : Int)) xs := by
  intro d
  induction d with
  | zero =>
    intro i ys hi hl ht
    refine Ev.step (fun k => laws_toIntS.l0.eq_2 _ _ _ _) ?_
    refine Ev.neg (by omega) (Ev.is ?_)
    have e : i = xs.length := by omega
    rw [e, List.take_length, ← hl, List.take_length] at ht
    exact ht
  | succ d ih =>
    intro i ys hi hl ht
    have hlt : i < xs.length := by omega
    obtain ⟨h1, h2⟩ := set_fill xs ys 0 i hlt hl ht
    refine Ev.step (fun k => laws_toIntS.l0.eq_2 _ _ _ _) ?_
    refine Ev.pos (by omega) (Ev.pos (by omega) (Ev.pos (by omega) ?_))
    rw [wrapS (Nat.le_of_lt hlt) hn, rdN, Int.toNat_natCast]
    exact ih (i + 1) _ (by omega) h1 h2
theorem toIntS_ev (xs : List Int) (hn : xs.length ≤ 35184372088832) : Ev (fun k => laws_toIntS.f k xs) xs := by
  unfold laws_toIntS.f
  refine Ev.pos (by omega) (Ev.pos (by omega) ?_)
  rw [Int.toNat_natCast]
  exact toIntS_loop xs (by omega) xs.length 0 _ (by omega) (by rw [List.length_replicate]) rfl
theorem toIntSS_ev (xs : List (List Int)) (hn : xs.length ≤ 1048576) (hy : ∀ y ∈ xs, y.length ≤ 1048576) : Ev (fun k => laws_toIntSS.f k xs) xs := by
  unfold laws_toIntSS.f
  refine Ev.pos (by omega) (Ev.pos (by omega) ?_)
  have h := to_loop (fun k ys i => laws_toIntSS.l0 k xs ys i) (fun k y => laws_toIntS.f k y) (fun t => t) (fun y => y) xs [] (by omega) (fun k ys i => laws_toIntSS.l0.eq_2 _ _ _ _)
    (fun y hm => toIntS_ev y (by have := hy y hm; omega)) xs.length 0 (List.replicate xs.length []) (by omega) (by rw [List.length_replicate]) rfl
  rw [List.map_id'] at h
  rw [Int.toNat_natCast]
  exact h
theorem eqIntS_loop (xs ys : List Int) (hl : xs.length = ys.length) (hn : xs.length ≤ 4611686018427387904) : ∀ (d i : Nat), i + d = xs.length →
    Ev (fun k => laws_eqIntS.l0 k xs ys (i : Int)) (decide (xs.drop i = ys.drop i)) := by
  intro d
  induction d with
  | zero =>
    intro i hi
    refine Ev.step (fun k => laws_eqIntS.l0.eq_2 _ _ _ _) ?_
    refine Ev.neg (by omega) (Ev.is ?_)
    rw [List.drop_of_length_le (by omega), List.drop_of_length_le (by omega)]
    rfl
  | succ d ih =>
    intro i hi
    have hlt : i < xs.length := by omega
    refine Ev.step (fun k => laws_eqIntS.l0.eq_2 _ _ _ _) ?_
    refine Ev.pos (by omega) (Ev.pos (by omega) (Ev.pos (by omega) ?_))
    rw [wrapS (Nat.le_of_lt hlt) hn, rdN, rdN, drop_cons xs 0 i hlt, drop_cons ys 0 i (by omega)]
    by_cases e : xs.getD i 0 = ys.getD i 0
    · refine Ev.pos e (Ev.to (ih (i + 1) (by omega)) ?_)
      rw [e]
      exact decide_eq_decide.2 ⟨fun h => by rw [h], fun h => (List.cons.inj h).2⟩
    · exact Ev.neg e (Ev.is (decide_eq_false (fun h => e (List.cons.inj h).1)).symm)
theorem eqIntS_ev (xs ys : List Int) (hn : xs.length ≤ 4611686018427387904) : Ev (fun k => laws_eqIntS.f k xs ys) (decide (xs = ys)) := by
  unfold laws_eqIntS.f
  by_cases e : xs.length = ys.length
  · exact Ev.pos (by omega) (eqIntS_loop xs ys e hn xs.length 0 (by omega))
  · refine Ev.neg (by omega) (Ev.is ?_)
    have : ¬ xs = ys := fun h => e (by rw [h])
    simp [this]
theorem eqIntSS_ev (xs ys : List (List Int)) (hn : xs.length ≤ 4611686018427387904) (hy : ∀ y ∈ xs, y.length ≤ 4611686018427387904) : Ev (fun k => laws_eqIntSS.f k xs ys) (decide (xs = ys)) :=
  eq_slice _ (fun k i => laws_eqIntSS.l0 k xs ys i) xs ys (fun _ => rfl)
    (fun e => eq_loop _ (fun k a b => laws_eqIntS.f k a b) xs ys [] e hn (fun k i => laws_eqIntSS.l0.eq_2 _ _ _ _) (fun a ha b _ => eqIntS_ev a b (hy a ha)) xs.length 0 (by omega))
def conNames : List ByteArray := (spec_ConstraintNames.f).getD []
theorem conNames_len : conNames.length = 10 := rfl
theorem specNames_ev : Ev (fun _ => spec_ConstraintNames.f) conNames := Ev.flat rfl
theorem implNames_ev : Ev (fun _ => impl_ConstraintNames.f) conNames := Ev.flat rfl
theorem l3Has_loop (xs : List ByteArray) (v : ByteArray) (hn : xs.length ≤ 4611686018427387904) : ∀ (d i : Nat), i + d = xs.length → Ev (fun k => spec_l3Has.l0 k xs v (i : Int)) (decide (v ∈ xs.drop i)) := by
  intro d
  induction d with
  | zero =>
    intro i hi
    refine Ev.step (fun k => spec_l3Has.l0.eq_2 _ _ _ _) (Ev.neg (by omega) (Ev.is ?_))
    rw [List.drop_of_length_le (by omega)]
    simp
  | succ d ih =>
    intro i hi
    have hlt : i < xs.length := by omega
    refine Ev.step (fun k => spec_l3Has.l0.eq_2 _ _ _ _) (Ev.pos (by omega) (Ev.pos (by omega) ?_))
    rw [wrapS (Nat.le_of_lt hlt) hn, show rdOf ByteArray.empty xs (i : Int) = xs.getD i ByteArray.empty from rfl, drop_cons xs ByteArray.empty i hlt]
    by_cases c : xs.getD i ByteArray.empty = v
    · exact Ev.pos (ba_ext.2 c) (Ev.is (decide_eq_true (by rw [c]; exact List.mem_cons_self ..)).symm)
    · refine Ev.neg (fun h => c (ba_ext.1 h)) (Ev.to (ih (i + 1) (by omega)) (decide_eq_decide.2 ⟨fun h => List.mem_cons_of_mem _ h, fun h => ?_⟩))
      rcases List.mem_cons.1 h with h | h
      · exact absurd h.symm c
      · exact h
theorem l3Has_ev (xs : List ByteArray) (v : ByteArray) (hn : xs.length ≤ 4611686018427387904) : Ev (fun k => spec_l3Has.f k xs v) (decide (v ∈ xs)) := by
  unfold spec_l3Has.f
  simpa using l3Has_loop xs v hn xs.length 0 (by omega)
def strIdx (a : ByteArray) : List ByteArray → Int → Int
  | [], _ => -1
  | y :: ys, i => if a = y then i else strIdx a ys (i + 1)
theorem strIndex_loop (xs : List ByteArray) (v : ByteArray) (hn : xs.length ≤ 4611686018427387904) : ∀ (d i : Nat), i + d = xs.length → Ev (fun k => slices_Index_string_string.l0 k xs v (xs.length : Int) (i : Int)) (strIdx v (xs.drop i) i) := by
  intro d
  induction d with
  | zero =>
    intro i hi
    refine Ev.step (fun k => slices_Index_string_string.l0.eq_2 _ _ _ _ _) (Ev.neg (by omega) (Ev.is ?_))
    rw [List.drop_of_length_le (by omega)]
    rfl
  | succ d ih =>
    intro i hi
    have hlt : i < xs.length := by omega
    refine Ev.step (fun k => slices_Index_string_string.l0.eq_2 _ _ _ _ _) (Ev.pos (by omega) (Ev.pos (by omega) (Ev.pos (by omega) ?_)))
    rw [wrapS (Nat.le_of_lt hlt) hn, show rdOf ByteArray.empty xs (i : Int) = xs.getD i ByteArray.empty from rfl, drop_cons xs ByteArray.empty i hlt, strIdx]
    by_cases c : v = xs.getD i ByteArray.empty
    · rw [if_pos c]; exact Ev.pos (ba_ext.2 c) (Ev.now _)
    · rw [if_neg c]; exact Ev.neg (fun h => c (ba_ext.1 h)) (ih (i + 1) (by omega))
theorem strIndex_ev (xs : List ByteArray) (v : ByteArray) (hn : xs.length ≤ 4611686018427387904) : Ev (fun k => slices_Index_string_string.f k xs v) (strIdx v xs 0) := by
  unfold slices_Index_string_string.f
  simpa using strIndex_loop xs v hn xs.length 0 (by omega)
theorem strIdx_ge (v : ByteArray) : ∀ (xs : List ByteArray) (i : Int), strIdx v xs i = -1 ∨ i ≤ strIdx v xs i
  | [], _ => .inl rfl
  | y :: ys, i => by
    rw [strIdx]
    by_cases c : v = y
    · rw [if_pos c]; exact .inr (Int.le_refl _)
    · rw [if_neg c]
      rcases strIdx_ge v ys (i + 1) with h | h
      · exact .inl h
      · exact .inr (by omega)
theorem strIdx_take (v : ByteArray) : ∀ (xs : List ByteArray) (m : Nat) (i : Int), 0 ≤ i → ((0 ≤ strIdx v xs i ∧ strIdx v xs i < i + m) ↔ v ∈ xs.take m)
  | [], m, i, _ => by simp [strIdx]
  | y :: ys, 0, i, h0 => by
    simp only [List.take_zero, List.not_mem_nil, iff_false]
    rcases strIdx_ge v (y :: ys) i with h | h <;> omega
  | y :: ys, m + 1, i, h0 => by
    rw [strIdx, List.take_succ_cons, List.mem_cons]
    by_cases c : v = y
    · rw [if_pos c]; exact ⟨fun _ => .inl c, fun _ => by omega⟩
    · rw [if_neg c]
      have := strIdx_take v ys m (i + 1) (by omega)
      exact ⟨fun h => .inr (this.1 ⟨h.1, by omega⟩), fun h => by
        rcases h with h | h
        · exact absurd h c
        · have := this.2 h; exact ⟨this.1, by omega⟩⟩
theorem strIdx_mem (v : ByteArray) : ∀ (xs : List ByteArray) (i : Int), 0 ≤ i → (0 ≤ strIdx v xs i ↔ v ∈ xs)
  | [], i, _ => by simp [strIdx]
  | y :: ys, i, h0 => by
    rw [strIdx, List.mem_cons]
    by_cases c : v = y
    · rw [if_pos c]; exact ⟨fun _ => .inl c, fun _ => h0⟩
    · rw [if_neg c, strIdx_mem v ys (i + 1) (by omega)]
      exact ⟨fun h => .inr h, fun h => h.resolve_left c⟩
theorem strContains_ev (xs : List ByteArray) (v : ByteArray) (hn : xs.length ≤ 4611686018427387904) : Ev (fun k => slices_Contains_string_string.f k xs v) (decide (v ∈ xs)) := by
  unfold slices_Contains_string_string.f
  refine Ev.bind (strIndex_ev xs v hn) (Ev.is ?_)
  exact decide_eq_decide.2 (strIdx_mem v xs 0 (by omega))
theorem l1In_ev (a b c : Int) : Ev (fun _ => spec_l1In.f a b c) (decide (b ≤ a ∧ a ≤ c)) := by
  refine Ev.flat ?_
  unfold spec_l1In.f
  by_cases h : b ≤ a <;> simp [h]
theorem within_ev (a b c : Int) : Ev (fun _ => impl_within.f a b c) (decide (b ≤ a ∧ a ≤ c)) := by
  refine Ev.flat ?_
  unfold impl_within.f
  by_cases h : b ≤ a <;> simp [h]
def areCons (l : List ByteArray) : Bool := decide ((∀ x ∈ l, x ∈ conNames) ∧ l.Nodup ∧ 1 ≤ (l.length : Int) ∧ (l.length : Int) ≤ 5)
theorem snoc_nodup (l : List ByteArray) (i : Nat) (h : i < l.length) (hd : (l.take i).Nodup) (hm : ¬ l.getD i ByteArray.empty ∈ l.take i) : (l.take (i + 1)).Nodup := by
  rw [take_succ' l ByteArray.empty i h, List.nodup_append]
  exact ⟨hd, by simp, fun a ha b hb e => hm (by rw [List.mem_singleton.1 hb] at e; rw [← e]; exact ha)⟩
theorem nodup_snoc (l : List ByteArray) (i : Nat) (h : i < l.length) (hd : l.Nodup) : ¬ l.getD i ByteArray.empty ∈ l.take i := fun hm => by
  have := hd.sublist (List.take_sublist (i + 1) l)
  rw [take_succ' l ByteArray.empty i h, List.nodup_append] at this
  exact this.2.2 _ hm _ (List.mem_singleton.2 rfl) rfl
theorem all_snoc (l : List ByteArray) (p : ByteArray → Prop) (i : Nat) (h : i < l.length) (ha : ∀ x ∈ l.take i, p x) (hx : p (l.getD i ByteArray.empty)) : ∀ x ∈ l.take (i + 1), p x := by
  rw [take_succ' l ByteArray.empty i h]
  intro x hm
  rcases List.mem_append.1 hm with hm | hm
  · exact ha x hm
  · rw [List.mem_singleton.1 hm]; exact hx
theorem specAreConstraints_loop (l : List ByteArray) (hn : l.length ≤ 4611686018427387904) : ∀ (d i : Nat), i + d = l.length → (l.take i).Nodup → (∀ x ∈ l.take i, x ∈ conNames) → Ev (fun k => spec_AreConstraints.l0 k l (i : Int)) (areCons l) := by
  intro d
  induction d with
  | zero =>
    intro i hi hd hx
    rw [List.take_of_length_le (by omega)] at hd hx
    refine Ev.step (fun k => spec_AreConstraints.l0.eq_2 _ _ _) (Ev.neg (by omega) (Ev.bind (l1In_ev _ _ _) (Ev.is ?_)))
    exact decide_eq_decide.2 ⟨fun h => ⟨hx, hd, h⟩, fun h => h.2.2⟩
  | succ d ih =>
    intro i hi hd hx
    have hlt : i < l.length := by omega
    refine Ev.step (fun k => spec_AreConstraints.l0.eq_2 _ _ _) (Ev.pos (by omega) (Ev.bind specNames_ev (Ev.pos (by omega) (Ev.bind (l3Has_ev conNames _ (by rw [conNames_len]; omega)) ?_))))
    rw [wrapS (Nat.le_of_lt hlt) hn, show rdOf ByteArray.empty l (i : Int) = l.getD i ByteArray.empty from rfl, Int.toNat_natCast]
    by_cases c : l.getD i ByteArray.empty ∈ conNames
    · refine Ev.pos (decide_eq_true c) (Ev.pos (by omega) (Ev.bind (l3Has_ev _ _ (by rw [List.length_take]; omega)) ?_))
      by_cases c2 : l.getD i ByteArray.empty ∈ l.take i
      · refine Ev.pos (decide_eq_true c2) (Ev.is (decide_eq_false (fun h => nodup_snoc l i hlt h.2.1 c2)).symm)
      · exact Ev.neg (by simpa using c2) (ih (i + 1) (by omega) (snoc_nodup l i hlt hd c2) (all_snoc l _ i hlt hx c))
    · exact Ev.neg (by simpa using c) (Ev.is (decide_eq_false (fun h => c (h.1 _ (mem_getD l _ i hlt)))).symm)
theorem specAreConstraints_ev (l : List ByteArray) (hn : l.length ≤ 4611686018427387904) : Ev (fun k => spec_AreConstraints.f k l) (areCons l) :=
  specAreConstraints_loop l hn l.length 0 (by omega) (by simp) (fun _ h => by cases h)
theorem implAreConstraints_loop (l : List ByteArray) (hn : l.length ≤ 4611686018427387904) : ∀ (d i : Nat), i + d = l.length → (l.take i).Nodup → (∀ x ∈ l.take i, x ∈ conNames) → Ev (fun k => impl_AreConstraints.l0 k l l (l.length : Int) (i : Int)) (areCons l) := by
  intro d
  induction d with
  | zero =>
    intro i hi hd hx
    rw [List.take_of_length_le (by omega)] at hd hx
    refine Ev.step (fun k => impl_AreConstraints.l0.eq_2 _ _ _ _ _) (Ev.neg (by omega) (Ev.bind (within_ev _ _ _) (Ev.is ?_)))
    exact decide_eq_decide.2 ⟨fun h => ⟨hx, hd, h⟩, fun h => h.2.2⟩
  | succ d ih =>
    intro i hi hd hx
    have hlt : i < l.length := by omega
    refine Ev.step (fun k => impl_AreConstraints.l0.eq_2 _ _ _ _ _) (Ev.pos (by omega) (Ev.pos (by omega) (Ev.pos (by omega) (Ev.bind implNames_ev (Ev.bind (strContains_ev conNames _ (by rw [conNames_len]; omega)) ?_)))))
    rw [wrapS (Nat.le_of_lt hlt) hn, show rdOf ByteArray.empty l (i : Int) = l.getD i ByteArray.empty from rfl, Int.toNat_natCast]
    by_cases c : l.getD i ByteArray.empty ∈ conNames
    · refine Ev.pos (decide_eq_true c) (Ev.pos (by omega) (Ev.bind (strContains_ev _ _ (by rw [List.length_take]; omega)) ?_))
      by_cases c2 : l.getD i ByteArray.empty ∈ l.take i
      · refine Ev.pos (decide_eq_true c2) (Ev.is (decide_eq_false (fun h => nodup_snoc l i hlt h.2.1 c2)).symm)
      · exact Ev.neg (by simpa using c2) (ih (i + 1) (by omega) (snoc_nodup l i hlt hd c2) (all_snoc l _ i hlt hx c))
    · exact Ev.neg (by simpa using c) (Ev.is (decide_eq_false (fun h => c (h.1 _ (mem_getD l _ i hlt)))).symm)
theorem implAreConstraints_ev (l : List ByteArray) (hn : l.length ≤ 4611686018427387904) : Ev (fun k => impl_AreConstraints.f k l) (areCons l) :=
  implAreConstraints_loop l hn l.length 0 (by omega) (by simp) (fun _ h => by cases h)
def isMark (a : ByteArray) : Bool := decide (a ∈ conNames.take 6)
theorem specIsMarkedness_ev (a : ByteArray) : Ev (fun k => spec_IsMarkedness.f k a) (isMark a) := by
  unfold spec_IsMarkedness.f
  exact Ev.bind specNames_ev (Ev.pos (by rw [conNames_len]; omega) (Ev.bind (l3Has_ev _ _ (by rw [List.length_take]; omega)) (Ev.now _)))
theorem implIsMarkedness_ev (a : ByteArray) : Ev (fun k => impl_IsMarkedness.f k a) (isMark a) := by
  unfold impl_IsMarkedness.f
  refine Ev.bind implNames_ev (Ev.bind (strIndex_ev _ _ (by rw [conNames_len]; omega)) (Ev.bind (within_ev _ _ _) (Ev.is ?_)))
  have := strIdx_take a conNames 6 0 (by omega)
  exact decide_eq_decide.2 ⟨fun h => this.1 ⟨h.1, by omega⟩, fun h => by have := this.2 h; omega⟩
def isRank (l : List Int) (n : Int) : Bool := decide (1 ≤ n ∧ n ≤ 5 ∧ (l.length : Int) = n ∧ l.Nodup ∧ ∀ x ∈ l, 0 ≤ x ∧ x < n)
theorem l12Has_loop (xs : List Int) (v : Int) (hn : xs.length ≤ 4611686018427387904) : ∀ (d i : Nat), i + d = xs.length → Ev (fun k => spec_l12Has.l0 k xs v (i : Int)) (decide (v ∈ xs.drop i)) := by
  intro d
  induction d with
  | zero =>
    intro i hi
    refine Ev.step (fun k => spec_l12Has.l0.eq_2 _ _ _ _) (Ev.neg (by omega) (Ev.is ?_))
    rw [List.drop_of_length_le (by omega)]
    simp
  | succ d ih =>
    intro i hi
    have hlt : i < xs.length := by omega
    refine Ev.step (fun k => spec_l12Has.l0.eq_2 _ _ _ _) (Ev.pos (by omega) (Ev.pos (by omega) ?_))
    rw [wrapS (Nat.le_of_lt hlt) hn, rdN, drop_cons xs 0 i hlt]
    by_cases c : xs.getD i 0 = v
    · exact Ev.pos c (Ev.is (decide_eq_true (by rw [c]; exact List.mem_cons_self ..)).symm)
    · refine Ev.neg c (Ev.to (ih (i + 1) (by omega)) (decide_eq_decide.2 ⟨fun h => List.mem_cons_of_mem _ h, fun h => ?_⟩))
      rcases List.mem_cons.1 h with h | h
      · exact absurd h.symm c
      · exact h
theorem l12Has_ev (xs : List Int) (v : Int) (hn : xs.length ≤ 4611686018427387904) : Ev (fun k => spec_l12Has.f k xs v) (decide (v ∈ xs)) := by
  unfold spec_l12Has.f
  simpa using l12Has_loop xs v hn xs.length 0 (by omega)
theorem specIsRanking_loop (l : List Int) (n : Int) (hn : l.length ≤ 4611686018427387904) : ∀ (d i : Nat), i + d = l.length → (l.take i).Nodup → (∀ x ∈ l.take i, 0 ≤ x ∧ x < n) → Ev (fun k => spec_IsRanking.l0 k l n (i : Int)) (isRank l n) := by
  intro d
  induction d with
  | zero =>
    intro i hi hd hx
    rw [List.take_of_length_le (by omega)] at hd hx
    refine Ev.step (fun k => spec_IsRanking.l0.eq_2 _ _ _ _) (Ev.neg (by omega) (Ev.bind (l1In_ev _ _ _) ?_))
    by_cases h : 1 ≤ n ∧ n ≤ 5
    · refine Ev.pos (by simpa using h) (Ev.is ?_)
      unfold isRank
      by_cases e : (l.length : Int) = n
      · rw [decide_eq_true ⟨h.1, h.2, e, hd, hx⟩]; simpa using e
      · rw [decide_eq_false (fun z => e z.2.2.1)]; simpa using e
    · refine Ev.neg (by simpa using h) (Ev.is ?_)
      unfold isRank
      rw [decide_eq_false (fun z => h ⟨z.1, z.2.1⟩)]
  | succ d ih =>
    intro i hi hd hx
    have hlt : i < l.length := by omega
    refine Ev.step (fun k => spec_IsRanking.l0.eq_2 _ _ _ _) (Ev.pos (by omega) (Ev.pos (by omega) ?_))
    rw [wrapS (Nat.le_of_lt hlt) hn, rdN, Int.toNat_natCast]
    have no : ∀ {p : Prop}, ¬ p → (isRank l n = true → p) → Ev (fun _ => some false) (isRank l n) := fun hp k => Ev.is (by
      cases e : isRank l n with
      | false => rfl
      | true => exact absurd (k e) hp)
    by_cases c : l.getD i 0 < 0
    · exact Ev.pos c (no (p := 0 ≤ l.getD i 0) (by omega) (fun h => ((of_decide_eq_true h).2.2.2.2 _ (mem_getD l 0 i hlt)).1))
    · refine Ev.neg c ?_
      by_cases c' : l.getD i 0 ≥ n
      · exact Ev.pos c' (no (p := l.getD i 0 < n) (by omega) (fun h => ((of_decide_eq_true h).2.2.2.2 _ (mem_getD l 0 i hlt)).2))
      · refine Ev.neg c' (Ev.pos (by omega) (Ev.bind (l12Has_ev _ _ (by rw [List.length_take]; omega)) ?_))
        have hnd : l.Nodup → ¬ l.getD i 0 ∈ l.take i := fun h hm => by
          have := h.sublist (List.take_sublist (i + 1) l)
          rw [take_succ' l 0 i hlt, List.nodup_append] at this
          exact this.2.2 _ hm _ (List.mem_singleton.2 rfl) rfl
        by_cases c2 : l.getD i 0 ∈ l.take i
        · exact Ev.pos (decide_eq_true c2) (no (p := ¬ l.getD i 0 ∈ l.take i) (fun h => h c2) (fun h => hnd (of_decide_eq_true h).2.2.2.1))
        · refine Ev.neg (by simpa using c2) (ih (i + 1) (by omega) ?_ ?_)
          · rw [take_succ' l 0 i hlt, List.nodup_append]
            exact ⟨hd, by simp, fun a ha b hb e => c2 (by rw [List.mem_singleton.1 hb] at e; rw [← e]; exact ha)⟩
          · rw [take_succ' l 0 i hlt]
            intro x hm
            rcases List.mem_append.1 hm with hm | hm
            · exact hx x hm
            · rw [List.mem_singleton.1 hm]; exact ⟨by omega, by omega⟩
theorem specIsRanking_ev (l : List Int) (n : Int) (hn : l.length ≤ 4611686018427387904) : Ev (fun k => spec_IsRanking.f k l n) (isRank l n) :=
  specIsRanking_loop l n hn l.length 0 (by omega) (by simp) (fun _ h => by cases h)
theorem isStrict_ev (m : List Int) (n : Int) (hm : m.length ≤ 4611686018427387904) (hn : 1 ≤ n ∧ n ≤ 4611686018427387904) (b : Bool) (hb : b = true ↔ (∀ j, 0 ≤ j → j < m.length → (0 ≤ m.getD j 0 ∧ m.getD j 0 < n) ∧ (0 < j → m.getD (j - 1) 0 < m.getD j 0))) : Ev (fun k => impl_isStrict.f k m n) b := by
  unfold impl_isStrict.f
  refine all_loop (fun k i => impl_isStrict.l0 k m n m (m.length : Int) i) m.length (fun j => (0 ≤ m.getD j 0 ∧ m.getD j 0 < n) ∧ (0 < j → m.getD (j - 1) 0 < m.getD j 0)) true (fun i hi r h h' => ?_) (Ev.step (fun k => impl_isStrict.l0.eq_2 _ _ _ _ _ _) (Ev.neg (by omega) (Ev.now _))) m.length 0 (by omega) b (hb.trans ⟨fun h => ⟨h, rfl⟩, fun h => h.1⟩)
  refine Ev.step (fun k => impl_isStrict.l0.eq_2 _ _ _ _ _ _) (Ev.pos (by omega) (Ev.pos (by omega) (Ev.pos (by omega) (Ev.bind (within_ev _ _ _) ?_))))
  rw [wrapS (Nat.le_of_lt hi) hm, wrapI (n - 1) (by omega), rdN]
  by_cases c : 0 ≤ m.getD i 0 ∧ m.getD i 0 < n
  · refine Ev.pos (decide_eq_true ⟨c.1, by omega⟩) ?_
    by_cases c0 : 0 < i
    · have e : wrap64 ((i : Int) - 1) = ((i - 1 : Nat) : Int) := by rw [wrapI _ (by omega)]; omega
      refine Ev.pos (by omega) ?_
      rw [e]
      refine Ev.pos (by omega) (Ev.pos (by omega) ?_)
      rw [rdN]
      by_cases c1 : m.getD i 0 ≤ m.getD (i - 1) 0
      · exact Ev.pos c1 (Ev.is (h' (fun z => by have := z.2 c0; omega)).symm)
      · exact Ev.neg c1 (h ⟨c, fun _ => by omega⟩)
    · exact Ev.neg (by omega) (h ⟨c, fun z => absurd z c0⟩)
  · exact Ev.neg (by simp only [decide_eq_true_eq]; omega) (Ev.is (h' (fun z => c z.1)).symm)
theorem sorted_strict (l : List Int) : (∀ j, 0 < j → j < l.length → (l.mergeSort (fun x y => decide (x ≤ y))).getD (j - 1) 0 < (l.mergeSort (fun x y => decide (x ≤ y))).getD j 0) ↔ l.Nodup := by
  have hp := List.mergeSort_perm l (fun x y => decide (x ≤ y))
  have hs := List.pairwise_mergeSort (le := fun x y : Int => decide (x ≤ y)) (fun a b c h1 h2 => by simp only [decide_eq_true_eq] at *; omega) (fun a b => by simp only [Bool.or_eq_true, decide_eq_true_eq]; omega) l
  have hlen := hp.length_eq
  rw [← hp.nodup_iff]
  generalize hm : l.mergeSort (fun x y => decide (x ≤ y)) = m at *
  rw [List.pairwise_iff_getElem] at hs
  simp only [decide_eq_true_eq] at hs
  unfold List.Nodup
  rw [List.pairwise_iff_getElem]
  constructor
  · intro h i j hi hj hij e
    have h1 := h j (by omega) (by omega)
    rw [getD_at _ _ _ hj, getD_at _ _ _ (show j - 1 < m.length by omega)] at h1
    rcases Nat.lt_or_ge i (j - 1) with h2 | h2
    · have := hs i (j - 1) hi (by omega) h2; omega
    · obtain rfl : i = j - 1 := by omega
      omega
  · intro h j h0 hj
    have hj' : j < m.length := by omega
    have h1 := hs (j - 1) j (by omega) hj' (by omega)
    have h2 := h (j - 1) j (by omega) hj' (by omega)
    rw [getD_at _ _ _ hj', getD_at _ _ _ (show j - 1 < m.length by omega)]
    omega
theorem implIsRanking_ev (l : List Int) (n : Int) : Ev (fun k => impl_IsRanking.f k l n) (isRank l n) := by
  unfold impl_IsRanking.f
  refine Ev.bind (within_ev _ _ _) ?_
  by_cases h : 1 ≤ n ∧ n ≤ 5
  · refine Ev.pos (by simpa using h) ?_
    by_cases e : (l.length : Int) = n
    · refine Ev.pos e (isStrict_ev _ n (by rw [List.length_mergeSort]; omega) (by omega) _ ?_)
      unfold isRank
      rw [decide_eq_true_eq, List.length_mergeSort]
      constructor
      · rintro ⟨_, _, _, hd, hx⟩ j _ hj
        exact ⟨hx _ (List.mem_mergeSort.1 (mem_getD _ 0 j (by rw [List.length_mergeSort]; exact hj))), fun h0 => (sorted_strict l).2 hd j h0 hj⟩
      · intro H
        refine ⟨h.1, h.2, e, (sorted_strict l).1 (fun j h0 hj => (H j (by omega) hj).2 h0), fun x hx => ?_⟩
        obtain ⟨j, hj, rfl⟩ := List.getElem_of_mem (List.mem_mergeSort (le := fun x y : Int => decide (x ≤ y)).2 hx)
        have := (H j (by omega) (by rw [List.length_mergeSort] at hj; exact hj)).1
        rwa [getD_at _ _ _ hj] at this
    · refine Ev.neg e (Ev.is ?_)
      unfold isRank
      rw [decide_eq_false (fun z => e z.2.2.1)]
  · refine Ev.neg (by simpa using h) (Ev.is ?_)
    unfold isRank
    rw [decide_eq_false (fun z => h ⟨z.1, z.2.1⟩)]
def areStrata (xs : List (List Int)) (n : Int) : Bool := decide (∀ y ∈ xs, y ≠ []) && isRank xs.flatten n
theorem flatten_len (xs : List (List Int)) (m : Nat) (h : ∀ y ∈ xs, y.length ≤ m) : xs.flatten.length ≤ xs.length * m := by
  induction xs with
  | nil => simp
  | cons y ys ih =>
    rw [List.flatten_cons, List.length_append, List.length_cons, Nat.succ_mul]
    have := ih (fun z hz => h z (List.mem_cons_of_mem _ hz))
    have := h y (List.mem_cons_self ..)
    omega
theorem take_flatten (xs : List (List Int)) (i : Nat) (h : i < xs.length) : (xs.take (i + 1)).flatten = (xs.take i).flatten ++ xs.getD i [] := by
  rw [take_succ' xs [] i h, List.flatten_append]; simp
theorem sub_flatten (xs : List (List Int)) (i : Nat) : (xs.take i).flatten.length ≤ xs.flatten.length := by
  have h : xs.flatten = (xs.take i).flatten ++ (xs.drop i).flatten := by rw [← List.flatten_append, List.take_append_drop]
  rw [h, List.length_append]; omega
theorem areStrata_no (xs : List (List Int)) (n : Int) (i : Nat) (h : i < xs.length) (e : (xs.getD i []).length = 0) : areStrata xs n = false := by
  unfold areStrata
  rw [decide_eq_false (fun z => z _ (mem_getD xs [] i h) (List.eq_nil_of_length_eq_zero e)), Bool.false_and]
theorem specAreStrata_loop (xs : List (List Int)) (n : Int) (hn : xs.length ≤ 4611686018427387904) (hf : xs.flatten.length < 17592186044416) : ∀ (d i : Nat), i + d = xs.length → (∀ y ∈ xs.take i, y ≠ []) →
    Ev (fun k => spec_AreStrata.l0 k xs n (xs.take i).flatten (i : Int)) (areStrata xs n) := by
  intro d
  induction d with
  | zero =>
    intro i hi hy
    rw [List.take_of_length_le (by omega)] at *
    refine Ev.step (fun k => spec_AreStrata.l0.eq_2 _ _ _ _ _) (Ev.neg (by omega) (Ev.bind (specIsRanking_ev _ _ (by omega)) (Ev.is ?_)))
    unfold areStrata
    rw [decide_eq_true hy, Bool.true_and]
  | succ d ih =>
    intro i hi hy
    have hlt : i < xs.length := by omega
    have hs := sub_flatten xs (i + 1)
    rw [take_flatten xs i hlt, List.length_append] at hs
    refine Ev.step (fun k => spec_AreStrata.l0.eq_2 _ _ _ _ _) (Ev.pos (by omega) (Ev.pos (by omega) ?_))
    rw [wrapS (Nat.le_of_lt hlt) hn, show rd_L2 xs (i : Int) = xs.getD i [] from rfl]
    by_cases c : (xs.getD i []).length = 0
    · exact Ev.pos (by omega) (Ev.is (areStrata_no xs n i hlt c).symm)
    · refine Ev.neg (by omega) (Ev.pos (by omega) ?_)
      rw [← take_flatten xs i hlt]
      refine ih (i + 1) (by omega) (fun y hm => ?_)
      rw [take_succ' xs [] i hlt] at hm
      rcases List.mem_append.1 hm with hm | hm
      · exact hy y hm
      · rw [List.mem_singleton.1 hm]; exact fun z => c (by rw [z]; rfl)
theorem specAreStrata_ev (xs : List (List Int)) (n : Int) (hn : xs.length ≤ 4611686018427387904) (hf : xs.flatten.length < 17592186044416) : Ev (fun k => spec_AreStrata.f k xs n) (areStrata xs n) := by
  have := specAreStrata_loop xs n hn hf xs.length 0 (by omega) (fun _ h => by cases h)
  unfold spec_AreStrata.f
  simpa using this
theorem concat_l1 (xs : List (List Int)) (hn : xs.length ≤ 4611686018427387904) (hf : xs.flatten.length < 17592186044416) : ∀ (d i : Nat), i + d = xs.length →
    Ev (fun k => slices_Concat_int_int.l1 k (xs.take i).flatten xs (xs.length : Int) (i : Int)) xs.flatten := by
  intro d
  induction d with
  | zero =>
    intro i hi
    rw [List.take_of_length_le (by omega)]
    exact Ev.step (fun k => slices_Concat_int_int.l1.eq_2 _ _ _ _ _) (Ev.neg (by omega) (Ev.now _))
  | succ d ih =>
    intro i hi
    have hlt : i < xs.length := by omega
    have hs := sub_flatten xs (i + 1)
    rw [take_flatten xs i hlt, List.length_append] at hs
    refine Ev.step (fun k => slices_Concat_int_int.l1.eq_2 _ _ _ _ _) (Ev.pos (by omega) (Ev.pos (by omega) (Ev.pos (by omega) ?_)))
    rw [wrapS (Nat.le_of_lt hlt) hn, show rd_L2 xs (i : Int) = xs.getD i [] from rfl]
    refine Ev.pos (by omega) ?_
    rw [← take_flatten xs i hlt]
    exact ih (i + 1) (by omega)
theorem concat_l0 (xs : List (List Int)) (hn : xs.length ≤ 4611686018427387904) (hf : xs.flatten.length < 17592186044416) : ∀ (d i : Nat), i + d = xs.length →
    Ev (fun k => slices_Concat_int_int.l0 k xs (((xs.take i).flatten.length : Nat) : Int) xs (xs.length : Int) (i : Int)) xs.flatten := by
  intro d
  induction d with
  | zero =>
    intro i hi
    rw [List.take_of_length_le (by omega)]
    refine Ev.step (fun k => slices_Concat_int_int.l0.eq_2 _ _ _ _ _ _) (Ev.neg (by omega) (Ev.bind (a := []) (Ev.flat ?_) ?_))
    · unfold v_slices_GrowNil_int.f; rw [if_pos (by omega)]
    · have := concat_l1 xs hn hf xs.length 0 (by omega)
      simpa using this
  | succ d ih =>
    intro i hi
    have hlt : i < xs.length := by omega
    have hs := sub_flatten xs (i + 1)
    have hl := take_flatten xs i hlt
    have hl2 : (xs.take (i + 1)).flatten.length = (xs.take i).flatten.length + (xs.getD i []).length := by rw [hl, List.length_append]
    have e : wrap64 ((((xs.take i).flatten.length : Nat) : Int) + ((xs.getD i []).length : Int)) = (((xs.take (i + 1)).flatten.length : Nat) : Int) := by rw [wrapI _ (by omega)]; omega
    refine Ev.step (fun k => slices_Concat_int_int.l0.eq_2 _ _ _ _ _ _) (Ev.pos (by omega) (Ev.pos (by omega) (Ev.pos (by omega) ?_)))
    rw [wrapS (Nat.le_of_lt hlt) hn, show rd_L2 xs (i : Int) = xs.getD i [] from rfl, e]
    exact Ev.neg (by omega) (ih (i + 1) (by omega))
theorem concat_ev (xs : List (List Int)) (hn : xs.length ≤ 4611686018427387904) (hf : xs.flatten.length < 17592186044416) : Ev (fun k => slices_Concat_int_int.f k xs) xs.flatten := by
  have := concat_l0 xs hn hf xs.length 0 (by omega)
  unfold slices_Concat_int_int.f
  simpa using this
theorem implAreStrata_loop (xs : List (List Int)) (n : Int) (hn : xs.length ≤ 4611686018427387904) (hf : xs.flatten.length < 17592186044416) : ∀ (d i : Nat), i + d = xs.length → (∀ y ∈ xs.take i, y ≠ []) →
    Ev (fun k => impl_AreStrata.l0 k xs n xs (xs.length : Int) (i : Int)) (areStrata xs n) := by
  intro d
  induction d with
  | zero =>
    intro i hi hy
    rw [List.take_of_length_le (by omega)] at *
    refine Ev.step (fun k => impl_AreStrata.l0.eq_2 _ _ _ _ _ _) (Ev.neg (by omega) (Ev.bind (concat_ev xs hn hf) (Ev.bind (implIsRanking_ev _ _) (Ev.is ?_))))
    unfold areStrata
    rw [decide_eq_true hy, Bool.true_and]
  | succ d ih =>
    intro i hi hy
    have hlt : i < xs.length := by omega
    refine Ev.step (fun k => impl_AreStrata.l0.eq_2 _ _ _ _ _ _) (Ev.pos (by omega) (Ev.pos (by omega) (Ev.pos (by omega) ?_)))
    rw [wrapS (Nat.le_of_lt hlt) hn, show rd_L2 xs (i : Int) = xs.getD i [] from rfl]
    by_cases c : (xs.getD i []).length = 0
    · exact Ev.pos (by omega) (Ev.is (areStrata_no xs n i hlt c).symm)
    · refine Ev.neg (by omega) (ih (i + 1) (by omega) (fun y hm => ?_))
      rw [take_succ' xs [] i hlt] at hm
      rcases List.mem_append.1 hm with hm | hm
      · exact hy y hm
      · rw [List.mem_singleton.1 hm]; exact fun z => c (by rw [z]; rfl)
theorem implAreStrata_ev (xs : List (List Int)) (n : Int) (hn : xs.length ≤ 4611686018427387904) (hf : xs.flatten.length < 17592186044416) : Ev (fun k => impl_AreStrata.f k xs n) (areStrata xs n) := by
  have := implAreStrata_loop xs n hn hf xs.length 0 (by omega) (fun _ h => by cases h)
  unfold impl_AreStrata.f
  simpa using this
def restIn (names : List ByteArray) (above : Int) : List Int → Int → Int → Int × Int
  | [], n, here => (n, here)
  | k :: ks, n, here => if isMark (names.getD k.toNat ByteArray.empty) = true then restIn names above ks n (wrap64 (here + 1)) else restIn names above ks (wrap64 (n + above)) here
def restOut (names : List ByteArray) : List (List Int) → Int → Int → Int
  | [], n, _ => n
  | own :: rest, n, above => restOut names rest (restIn names above own n 0).1 (wrap64 (above + (restIn names above own n 0).2))
def restMeasure (names : List ByteArray) (xs : List (List Int)) : Int := if (areCons names && areStrata xs (names.length : Int)) = true then restOut names xs 0 0 else -1
theorem specRest_in (names : List ByteArray) (xs : List (List Int)) (i : Nat) (hi : i < xs.length) (above : Int) (hn : (xs.getD i []).length ≤ 4611686018427387904) (hx : ∀ x ∈ xs.getD i [], 0 ≤ x ∧ x < (names.length : Int)) (r : Int) : ∀ (d j : Nat) (n here : Int), j + d = (xs.getD i []).length →
    Ev (fun k => spec_RestrictMeasure.l0 k names xs (restIn names above ((xs.getD i []).drop j) n here).1 (wrap64 (above + (restIn names above ((xs.getD i []).drop j) n here).2)) (wrap64 ((i : Int) + 1))) r →
    Ev (fun k => spec_RestrictMeasure.l1 k names xs n above (i : Int) here (j : Int)) r := by
  intro d
  induction d with
  | zero =>
    intro j n here hj hc
    rw [List.drop_of_length_le (by omega), restIn] at hc
    refine Ev.step (fun k => spec_RestrictMeasure.l1.eq_2 _ _ _ _ _ _ _ _) (Ev.pos (by omega) (Ev.pos (by omega) ?_))
    rw [show rd_L2 xs (i : Int) = xs.getD i [] from rfl]
    exact Ev.neg (by omega) hc
  | succ d ih =>
    intro j n here hj hc
    have hlt : j < (xs.getD i []).length := by omega
    have hb := hx _ (mem_getD _ 0 j hlt)
    rw [drop_cons _ 0 j hlt, restIn] at hc
    refine Ev.step (fun k => spec_RestrictMeasure.l1.eq_2 _ _ _ _ _ _ _ _) (Ev.pos (by omega) (Ev.pos (by omega) ?_))
    rw [show rd_L2 xs (i : Int) = xs.getD i [] from rfl, rdN, wrapS (Nat.le_of_lt hlt) hn]
    refine Ev.pos (by omega) (Ev.pos (by omega) (Ev.pos hb.1 (Ev.pos hb.2 (Ev.bind (specIsMarkedness_ev _) ?_))))
    by_cases c : isMark (names.getD ((xs.getD i []).getD j 0).toNat ByteArray.empty) = true
    · rw [if_pos c] at hc
      exact Ev.pos c (ih (j + 1) _ _ (by omega) hc)
    · rw [if_neg c] at hc
      exact Ev.neg c (ih (j + 1) _ _ (by omega) hc)
theorem specRest_out (names : List ByteArray) (xs : List (List Int)) (hn : xs.length ≤ 4611686018427387904) (hy : ∀ y ∈ xs, y.length ≤ 4611686018427387904) (hx : ∀ y ∈ xs, ∀ x ∈ y, 0 ≤ x ∧ x < (names.length : Int)) : ∀ (d i : Nat) (n above : Int), i + d = xs.length →
    Ev (fun k => spec_RestrictMeasure.l0 k names xs n above (i : Int)) (restOut names (xs.drop i) n above) := by
  intro d
  induction d with
  | zero =>
    intro i n above hi
    rw [List.drop_of_length_le (by omega)]
    exact Ev.step (fun k => spec_RestrictMeasure.l0.eq_2 _ _ _ _ _ _) (Ev.neg (by omega) (Ev.now _))
  | succ d ih =>
    intro i n above hi
    have hlt : i < xs.length := by omega
    have hm := mem_getD xs [] i hlt
    rw [drop_cons xs [] i hlt, restOut]
    refine Ev.step (fun k => spec_RestrictMeasure.l0.eq_2 _ _ _ _ _ _) (Ev.pos (by omega) ?_)
    refine specRest_in names xs i hlt above (hy _ hm) (hx _ hm) _ (xs.getD i []).length 0 n 0 (by omega) ?_
    rw [List.drop_zero, wrapS (Nat.le_of_lt hlt) hn]
    exact ih (i + 1) _ _ (by omega)
theorem implRest_in (names : List ByteArray) (xs : List (List Int)) (i : Nat) (own : List Int) (above : Int) (hn : own.length ≤ 4611686018427387904) (hx : ∀ x ∈ own, 0 ≤ x ∧ x < (names.length : Int)) (r : Int) : ∀ (d j : Nat) (n here : Int), j + d = own.length →
    Ev (fun k => impl_RestrictMeasure.l0 k names (restIn names above (own.drop j) n here).1 (wrap64 (above + (restIn names above (own.drop j) n here).2)) xs (xs.length : Int) (wrap64 ((i : Int) + 1))) r →
    Ev (fun k => impl_RestrictMeasure.l1 k names n above here xs (xs.length : Int) (i : Int) own (own.length : Int) (j : Int)) r := by
  intro d
  induction d with
  | zero =>
    intro j n here hj hc
    rw [List.drop_of_length_le (by omega), restIn] at hc
    exact Ev.step (fun k => impl_RestrictMeasure.l1.eq_2 _ _ _ _ _ _ _ _ _ _ _) (Ev.neg (by omega) hc)
  | succ d ih =>
    intro j n here hj hc
    have hlt : j < own.length := by omega
    have hb := hx _ (mem_getD _ 0 j hlt)
    rw [drop_cons _ 0 j hlt, restIn] at hc
    refine Ev.step (fun k => impl_RestrictMeasure.l1.eq_2 _ _ _ _ _ _ _ _ _ _ _) (Ev.pos (by omega) (Ev.pos (by omega) (Ev.pos (by omega) ?_)))
    rw [rdN, wrapS (Nat.le_of_lt hlt) hn]
    refine Ev.pos hb.1 (Ev.pos hb.2 (Ev.bind (implIsMarkedness_ev _) ?_))
    by_cases c : isMark (names.getD (own.getD j 0).toNat ByteArray.empty) = true
    · rw [if_pos c] at hc
      exact Ev.pos c (ih (j + 1) _ _ (by omega) hc)
    · rw [if_neg c] at hc
      exact Ev.neg c (ih (j + 1) _ _ (by omega) hc)
theorem implRest_out (names : List ByteArray) (xs : List (List Int)) (hn : xs.length ≤ 4611686018427387904) (hy : ∀ y ∈ xs, y.length ≤ 4611686018427387904) (hx : ∀ y ∈ xs, ∀ x ∈ y, 0 ≤ x ∧ x < (names.length : Int)) : ∀ (d i : Nat) (n above : Int), i + d = xs.length →
    Ev (fun k => impl_RestrictMeasure.l0 k names n above xs (xs.length : Int) (i : Int)) (restOut names (xs.drop i) n above) := by
  intro d
  induction d with
  | zero =>
    intro i n above hi
    rw [List.drop_of_length_le (by omega)]
    exact Ev.step (fun k => impl_RestrictMeasure.l0.eq_2 _ _ _ _ _ _ _) (Ev.neg (by omega) (Ev.now _))
  | succ d ih =>
    intro i n above hi
    have hlt : i < xs.length := by omega
    have hm := mem_getD xs [] i hlt
    rw [drop_cons xs [] i hlt, restOut]
    refine Ev.step (fun k => impl_RestrictMeasure.l0.eq_2 _ _ _ _ _ _ _) (Ev.pos (by omega) (Ev.pos (by omega) (Ev.pos (by omega) ?_)))
    rw [show rd_L2 xs (i : Int) = xs.getD i [] from rfl]
    refine implRest_in names xs i (xs.getD i []) above (hy _ hm) (hx _ hm) _ (xs.getD i []).length 0 n 0 (by omega) ?_
    rw [List.drop_zero, wrapS (Nat.le_of_lt hlt) hn]
    exact ih (i + 1) _ _ (by omega)
theorem strata_bounds {xs : List (List Int)} {n : Int} (h : areStrata xs n = true) : ∀ y ∈ xs, ∀ x ∈ y, 0 ≤ x ∧ x < n := by
  unfold areStrata at h
  rw [Bool.and_eq_true] at h
  have H := of_decide_eq_true h.2
  exact fun y hy x hx => H.2.2.2.2 x (List.mem_flatten.2 ⟨y, hy, hx⟩)
theorem specRestrictMeasure_ev (names : List ByteArray) (xs : List (List Int)) (hl : names.length ≤ 4611686018427387904) (hn : xs.length ≤ 4611686018427387904) (hy : ∀ y ∈ xs, y.length ≤ 4611686018427387904) (hf : xs.flatten.length < 17592186044416) : Ev (fun k => spec_RestrictMeasure.f k names xs) (restMeasure names xs) := by
  unfold spec_RestrictMeasure.f restMeasure
  refine Ev.bind (specAreConstraints_ev names hl) ?_
  by_cases c : areCons names = true
  · refine Ev.pos c (Ev.bind (specAreStrata_ev xs _ hn hf) (Ev.step (fun k => spec_RestrictMeasure.j0.eq_2 _ _ _ _) ?_))
    by_cases c' : areStrata xs (names.length : Int) = true
    · rw [if_pos (by rw [c, c']; rfl), c']
      exact Ev.neg (by simp) (specRest_out names xs hn hy (strata_bounds c') xs.length 0 0 0 (by omega))
    · rw [if_neg (by rw [c, Bool.true_and]; exact c'), show areStrata xs (names.length : Int) = false from by simpa using c']
      exact Ev.pos rfl (Ev.now _)
  · refine Ev.neg c (Ev.step (fun k => spec_RestrictMeasure.j0.eq_2 _ _ _ _) (Ev.pos rfl (Ev.is ?_)))
    rw [if_neg (by rw [show areCons names = false from by simpa using c, Bool.false_and]; simp)]
theorem implRestrictMeasure_ev (names : List ByteArray) (xs : List (List Int)) (hl : names.length ≤ 4611686018427387904) (hn : xs.length ≤ 4611686018427387904) (hy : ∀ y ∈ xs, y.length ≤ 4611686018427387904) (hf : xs.flatten.length < 17592186044416) : Ev (fun k => impl_RestrictMeasure.f k names xs) (restMeasure names xs) := by
  unfold impl_RestrictMeasure.f restMeasure
  refine Ev.bind (implAreConstraints_ev names hl) ?_
  by_cases c : areCons names = true
  · refine Ev.pos c (Ev.bind (implAreStrata_ev xs _ hn hf) (Ev.step (fun k => impl_RestrictMeasure.j0.eq_2 _ _ _ _) ?_))
    by_cases c' : areStrata xs (names.length : Int) = true
    · rw [if_pos (by rw [c, c']; rfl), c']
      exact Ev.neg (by simp) (implRest_out names xs hn hy (strata_bounds c') xs.length 0 0 0 (by omega))
    · rw [if_neg (by rw [c, Bool.true_and]; exact c'), show areStrata xs (names.length : Int) = false from by simpa using c']
      exact Ev.pos rfl (Ev.now _)
  · refine Ev.neg c (Ev.step (fun k => impl_RestrictMeasure.j0.eq_2 _ _ _ _) (Ev.pos rfl (Ev.is ?_)))
    rw [if_neg (by rw [show areCons names = false from by simpa using c, Bool.false_and]; simp)]
theorem FnExactRestrictMeasure (l0 : List (ByteArray)) (l1 : List (List (Int))) (h0 : (l0.length ≤ maxLen ∧ ∀ y1 ∈ l0, y1.size ≤ maxLen)) (h1 : (l1.length ≤ maxLen ∧ ∀ y2 ∈ l1, (y2.length ≤ maxLen ∧ ∀ y3 ∈ y2, (Lit.int .i64 y3).wf = true))) : ∃ k, laws_FnExactRestrictMeasure.f k l0 l1 = some true := by
  refine Ev.rounds (g := fun k => laws_FnExactRestrictMeasure.f k l0 l1) ?_
  unfold laws_FnExactRestrictMeasure.f
  obtain ⟨r, hr, hr1, hr2, hg⟩ := szStringS_ev l0 h0.1 h0.2 1048576 (by omega) (by omega)
  refine Ev.bind hr ?_
  by_cases c : r < 0
  · exact Ev.pos c (Ev.now _)
  refine Ev.neg c ?_
  obtain ⟨s, hs, hs1, hs2, hg'⟩ := szIntSS_ev l1 h1.1 (fun y h => (h1.2 y h).1) r (by omega) (by omega)
  refine Ev.bind hs ?_
  by_cases c' : s < 0
  · exact Ev.pos c' (Ev.now _)
  refine Ev.neg c' ?_
  obtain ⟨hn, _⟩ := hg (by omega)
  obtain ⟨hn', hy'⟩ := hg' (by omega)
  have hf : l1.flatten.length < 17592186044416 := by
    have h1 := flatten_len l1 1048576 hy'
    have h2 : l1.length * 1048576 ≤ 1048576 * 1048576 := Nat.mul_le_mul_right _ hn'
    omega
  have hy2 : ∀ y ∈ l1, y.length ≤ 4611686018427387904 := fun y h => by have := hy' y h; omega
  have t0 := toStringS_ev l0 hn
  have t1 := toIntSS_ev l1 hn' hy'
  refine Ev.bind t0 (Ev.bind t1 (Ev.bind (specRestrictMeasure_ev l0 l1 (by omega) (by omega) hy2 hf) (Ev.bind t0 (Ev.bind t1 (Ev.bind (implRestrictMeasure_ev l0 l1 (by omega) (by omega) hy2 hf) (Ev.pos rfl ?_))))))
  refine Ev.bind t0 (Ev.bind (eqStringS_ev l0 l0 (by omega)) (Ev.pos (by simp) ?_))
  exact Ev.bind t1 (Ev.bind (eqIntSS_ev l1 l1 (by omega) hy2) (Ev.pos (by simp) (Ev.now _)))
end Go.Proofs.Ytijgiebjfoikiaa.Pure
