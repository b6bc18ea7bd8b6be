/- The program's FaithBelow and the reference's answer alike, and the arguments stay. Conditions: what a slice may hold at most. -/
import Derived.Test.YtcebnmagigadpaaPFnExactFaithBelowx0
import Derived.Test.YtcebnmagigadpaaPFnExactFaithBelowx1
import Derived.Test.YtcebnmagigadpaaPFnExactFaithBelowx2
import Derived.Test.YtcebnmagigadpaaPFnExactFaithBelowx3
import Derived.Test.YtcebnmagigadpaaPFnExactFaithBelowx4
import Derived.Test.YtcebnmagigadpaaPFnExactFaithBelowx5
import Derived.Test.YtcebnmagigadpaaKit
import Derived.WideShapes
import Derived.Laws.Strings
set_option linter.unusedVariables false
set_option linter.unusedSimpArgs false
namespace Go.Proofs.Ytcebnmagigadpaa.Pure
open Go.RowKit Go.WideShapes Go.Proofs.Ytcebnmagigadpaa.PFnExactFaithBelow Go.Proofs.Ytcebnmagigadpaa.Kit Go.Proofs.YtcebnmagigadpaaW.PrintWords Go.Proofs.YtcebnmagigadpaaW.PrintLast
theorem toIntS_loop (xs : List Int) (hn : xs.length ≤ 4611686018427387904) : ∀ (d i : Nat) (ys : List Int), i + d = xs.length → ys.length = xs.length → ys.take i = xs.take i →
    Ev (fun k => laws_toIntS.l0 k xs ys (i : Int)) xs := by
  intro d
  induction d with
  | zero =>
    intro i ys hi hl ht
    refine Ev.step (fun k => laws_toIntS.l0.eq_2 _ _ _ _) ?_
    refine Ev.neg (by omega) (Ev.is ?_)
    have e : i = xs.length := by omega
    rw [e, List.take_length, ← hl, List.take_length] at ht
    exact ht
  | succ d ih =>
    intro i ys hi hl ht
    have hlt : i < xs.length := by omega
    obtain ⟨h1, h2⟩ := set_fill xs ys 0 i hlt hl ht
    refine Ev.step (fun k => laws_toIntS.l0.eq_2 _ _ _ _) ?_
    refine Ev.pos (by omega) (Ev.pos (by omega) (Ev.pos (by omega) ?_))
    rw [wrapS (Nat.le_of_lt hlt) hn, rdN, Int.toNat_natCast]
    exact ih (i + 1) _ (by omega) h1 h2
theorem toIntS_ev (xs : List Int) (hn : xs.length ≤ 35184372088832) : Ev (fun k => laws_toIntS.f k xs) xs := by
  unfold laws_toIntS.f
  refine Ev.pos (by omega) (Ev.pos (by omega) ?_)
  rw [Int.toNat_natCast]
  exact toIntS_loop xs (by omega) xs.length 0 _ (by omega) (by rw [List.length_replicate]) rfl
theorem eqIntS_loop (xs ys : List Int) (hl : xs.length = ys.length) (hn : xs.length ≤ 4611686018427387904) : ∀ (d i : Nat), i + d = xs.length →
    Ev (fun k => laws_eqIntS.l0 k xs ys (i : Int)) (decide (xs.drop i = ys.drop i)) := by
  intro d
  induction d with
  | zero =>
    intro i hi
    refine Ev.step (fun k => laws_eqIntS.l0.eq_2 _ _ _ _) ?_
    refine Ev.neg (by omega) (Ev.is ?_)
    rw [List.drop_of_length_le (by omega), List.drop_of_length_le (by omega)]
    rfl
  | succ d ih =>
    intro i hi
    have hlt : i < xs.length := by omega
    refine Ev.step (fun k => laws_eqIntS.l0.eq_2 _ _ _ _) ?_
    refine Ev.pos (by omega) (Ev.pos (by omega) (Ev.pos (by omega) ?_))
    rw [wrapS (Nat.le_of_lt hlt) hn, rdN, rdN, drop_cons xs 0 i hlt, drop_cons ys 0 i (by omega)]
    by_cases e : xs.getD i 0 = ys.getD i 0
    · refine Ev.pos e (Ev.to (ih (i + 1) (by omega)) ?_)
      rw [e]
      exact decide_eq_decide.2 ⟨fun h => by rw [h], fun h => (List.cons.inj h).2⟩
    · exact Ev.neg e (Ev.is (decide_eq_false (fun h => e (List.cons.inj h).1)).symm)
theorem eqIntS_ev (xs ys : List Int) (hn : xs.length ≤ 4611686018427387904) : Ev (fun k => laws_eqIntS.f k xs ys) (decide (xs = ys)) := by
  unfold laws_eqIntS.f
  by_cases e : xs.length = ys.length
  · exact Ev.pos (by omega) (eqIntS_loop xs ys e hn xs.length 0 (by omega))
  · refine Ev.neg (by omega) (Ev.is ?_)
    have : ¬ xs = ys := fun h => e (by rw [h])
    simp [this]
theorem szStringS_loop (xs : List ByteArray) (hn : xs.length ≤ 4611686018427387904) (hy : ∀ y ∈ xs, y.size ≤ maxLen) : ∀ (d i : Nat) (left : Int), i + d = xs.length → 0 ≤ left → left ≤ 1048576 →
    ∃ r, Ev (fun k => laws_szStringS.l0 k xs left (i : Int)) r ∧ -1 ≤ r ∧ r ≤ left ∧ (0 ≤ r → ∀ y ∈ xs.drop i, y.size ≤ 1048576) := by
  intro d
  induction d with
  | zero =>
    intro i left hi h0 h1
    refine ⟨left, Ev.step (fun k => laws_szStringS.l0.eq_2 _ _ _ _) (Ev.neg (by omega) (Ev.now _)), by omega, by omega, fun _ y hm => ?_⟩
    rw [List.drop_of_length_le (by omega)] at hm
    cases hm
  | succ d ih =>
    intro i left hi h0 h1
    have hlt : i < xs.length := by omega
    have hs := hy _ (mem_getD xs ByteArray.empty i hlt)
    unfold maxLen at hs
    have e : rdOf ByteArray.empty xs (i : Int) = xs.getD i ByteArray.empty := rfl
    by_cases c : left - ((xs.getD i ByteArray.empty).size : Int) < 0
    · exact ⟨-1, Ev.step (fun k => laws_szStringS.l0.eq_2 _ _ _ _) (Ev.pos (by omega) (Ev.pos (by omega) (Ev.pos (by rw [e, wrapI _ (by omega)]; exact c) (Ev.now _)))), by omega, by omega, fun h => by omega⟩
    · obtain ⟨r, hr, hr1, hr2, hr3⟩ := ih (i + 1) (left - ((xs.getD i ByteArray.empty).size : Int)) (by omega) (by omega) (by omega)
      refine ⟨r, Ev.step (fun k => laws_szStringS.l0.eq_2 _ _ _ _) (Ev.pos (by omega) (Ev.pos (by omega) (Ev.neg (by rw [e, wrapI _ (by omega)]; exact c) ?_))), hr1, by omega, fun h y hm => ?_⟩
      · rw [e, wrapI _ (by omega), wrapS (Nat.le_of_lt hlt) hn]; exact hr
      · rw [drop_cons xs ByteArray.empty i hlt] at hm
        rcases List.mem_cons.1 hm with rfl | hm
        · omega
        · exact hr3 h y hm
theorem szStringS_ev (xs : List ByteArray) (hn : xs.length ≤ maxLen) (hy : ∀ y ∈ xs, y.size ≤ maxLen) (a : Int) (h0 : 0 ≤ a) (h1 : a ≤ 1048576) :
    ∃ r, Ev (fun k => laws_szStringS.f k xs a) r ∧ -1 ≤ r ∧ r ≤ a ∧ (0 ≤ r → xs.length ≤ 1048576 ∧ ∀ y ∈ xs, y.size ≤ 1048576) :=
  sz_slice (fun k a => laws_szStringS.f k xs a) (fun k left i => laws_szStringS.l0 k xs left i) xs (fun y => y.size ≤ 1048576) hn (fun _ _ => rfl)
    (fun hl left h0 h1 => szStringS_loop xs hl hy xs.length 0 left (by omega) h0 h1) a h0 h1
theorem toStringS_ev (xs : List ByteArray) (hn : xs.length ≤ 1048576) : Ev (fun k => laws_toStringS.f k xs) xs := by
  unfold laws_toStringS.f
  refine Ev.pos (by omega) (Ev.pos (by omega) ?_)
  have h := to_loop (fun k ys i => laws_toStringS.l0 k xs ys i) (fun _ y => some y) (fun t => t) (fun y => y) xs ByteArray.empty (by omega) (fun k ys i => laws_toStringS.l0.eq_2 _ _ _ _)
    (fun y _ => Ev.now _) xs.length 0 (List.replicate xs.length (⟨#[]⟩ : ByteArray)) (by omega) (by rw [List.length_replicate]) rfl
  rw [List.map_id'] at h
  rw [Int.toNat_natCast]
  exact h
theorem eqStringS_ev (xs ys : List ByteArray) (hn : xs.length ≤ 4611686018427387904) : Ev (fun k => laws_eqStringS.f k xs ys) (decide (xs = ys)) :=
  eq_slice _ (fun k i => laws_eqStringS.l0 k xs ys i) xs ys (fun _ => rfl)
    (fun e => eq_loop _ (fun _ a b => some (decide (a = b))) xs ys ByteArray.empty e hn (fun k i => by rw [laws_eqStringS.l0.eq_2]; simp only [Option.bind_some, decide_eq_true_eq, ba_ext]; rfl) (fun a _ b _ => Ev.now _) xs.length 0 (by omega))
def conNames : List ByteArray := (spec_ConstraintNames.f).getD []
theorem conNames_len : conNames.length = 10 := rfl
theorem specNames_ev : Ev (fun _ => spec_ConstraintNames.f) conNames := Ev.flat rfl
theorem implNames_ev : Ev (fun _ => impl_ConstraintNames.f) conNames := Ev.flat rfl
theorem l3Has_loop (xs : List ByteArray) (v : ByteArray) (hn : xs.length ≤ 4611686018427387904) : ∀ (d i : Nat), i + d = xs.length → Ev (fun k => spec_l3Has.l0 k xs v (i : Int)) (decide (v ∈ xs.drop i)) := by
  intro d
  induction d with
  | zero =>
    intro i hi
    refine Ev.step (fun k => spec_l3Has.l0.eq_2 _ _ _ _) (Ev.neg (by omega) (Ev.is ?_))
    rw [List.drop_of_length_le (by omega)]
    simp
  | succ d ih =>
    intro i hi
    have hlt : i < xs.length := by omega
    refine Ev.step (fun k => spec_l3Has.l0.eq_2 _ _ _ _) (Ev.pos (by omega) (Ev.pos (by omega) ?_))
    rw [wrapS (Nat.le_of_lt hlt) hn, show rdOf ByteArray.empty xs (i : Int) = xs.getD i ByteArray.empty from rfl, drop_cons xs ByteArray.empty i hlt]
    by_cases c : xs.getD i ByteArray.empty = v
    · exact Ev.pos (ba_ext.2 c) (Ev.is (decide_eq_true (by rw [c]; exact List.mem_cons_self ..)).symm)
    · refine Ev.neg (fun h => c (ba_ext.1 h)) (Ev.to (ih (i + 1) (by omega)) (decide_eq_decide.2 ⟨fun h => List.mem_cons_of_mem _ h, fun h => ?_⟩))
      rcases List.mem_cons.1 h with h | h
      · exact absurd h.symm c
      · exact h
theorem l3Has_ev (xs : List ByteArray) (v : ByteArray) (hn : xs.length ≤ 4611686018427387904) : Ev (fun k => spec_l3Has.f k xs v) (decide (v ∈ xs)) := by
  unfold spec_l3Has.f
  simpa using l3Has_loop xs v hn xs.length 0 (by omega)
def strIdx (a : ByteArray) : List ByteArray → Int → Int
  | [], _ => -1
  | y :: ys, i => if a = y then i else strIdx a ys (i + 1)
theorem strIndex_loop (xs : List ByteArray) (v : ByteArray) (hn : xs.length ≤ 4611686018427387904) : ∀ (d i : Nat), i + d = xs.length → Ev (fun k => slices_Index_string_string.l0 k xs v (xs.length : Int) (i : Int)) (strIdx v (xs.drop i) i) := by
  intro d
  induction d with
  | zero =>
    intro i hi
    refine Ev.step (fun k => slices_Index_string_string.l0.eq_2 _ _ _ _ _) (Ev.neg (by omega) (Ev.is ?_))
    rw [List.drop_of_length_le (by omega)]
    rfl
  | succ d ih =>
    intro i hi
    have hlt : i < xs.length := by omega
    refine Ev.step (fun k => slices_Index_string_string.l0.eq_2 _ _ _ _ _) (Ev.pos (by omega) (Ev.pos (by omega) (Ev.pos (by omega) ?_)))
    rw [wrapS (Nat.le_of_lt hlt) hn, show rdOf ByteArray.empty xs (i : Int) = xs.getD i ByteArray.empty from rfl, drop_cons xs ByteArray.empty i hlt, strIdx]
    by_cases c : v = xs.getD i ByteArray.empty
    · rw [if_pos c]; exact Ev.pos (ba_ext.2 c) (Ev.now _)
    · rw [if_neg c]; exact Ev.neg (fun h => c (ba_ext.1 h)) (ih (i + 1) (by omega))
theorem strIndex_ev (xs : List ByteArray) (v : ByteArray) (hn : xs.length ≤ 4611686018427387904) : Ev (fun k => slices_Index_string_string.f k xs v) (strIdx v xs 0) := by
  unfold slices_Index_string_string.f
  simpa using strIndex_loop xs v hn xs.length 0 (by omega)
theorem strIdx_ge (v : ByteArray) : ∀ (xs : List ByteArray) (i : Int), strIdx v xs i = -1 ∨ i ≤ strIdx v xs i
  | [], _ => .inl rfl
  | y :: ys, i => by
    rw [strIdx]
    by_cases c : v = y
    · rw [if_pos c]; exact .inr (Int.le_refl _)
    · rw [if_neg c]
      rcases strIdx_ge v ys (i + 1) with h | h
      · exact .inl h
      · exact .inr (by omega)
theorem strIdx_take (v : ByteArray) : ∀ (xs : List ByteArray) (m : Nat) (i : Int), 0 ≤ i → ((0 ≤ strIdx v xs i ∧ strIdx v xs i < i + m) ↔ v ∈ xs.take m)
  | [], m, i, _ => by simp [strIdx]
  | y :: ys, 0, i, h0 => by
    simp only [List.take_zero, List.not_mem_nil, iff_false]
    rcases strIdx_ge v (y :: ys) i with h | h <;> omega
  | y :: ys, m + 1, i, h0 => by
    rw [strIdx, List.take_succ_cons, List.mem_cons]
    by_cases c : v = y
    · rw [if_pos c]; exact ⟨fun _ => .inl c, fun _ => by omega⟩
    · rw [if_neg c]
      have := strIdx_take v ys m (i + 1) (by omega)
      exact ⟨fun h => .inr (this.1 ⟨h.1, by omega⟩), fun h => by
        rcases h with h | h
        · exact absurd h c
        · have := this.2 h; exact ⟨this.1, by omega⟩⟩
theorem strIdx_mem (v : ByteArray) : ∀ (xs : List ByteArray) (i : Int), 0 ≤ i → (0 ≤ strIdx v xs i ↔ v ∈ xs)
  | [], i, _ => by simp [strIdx]
  | y :: ys, i, h0 => by
    rw [strIdx, List.mem_cons]
    by_cases c : v = y
    · rw [if_pos c]; exact ⟨fun _ => .inl c, fun _ => h0⟩
    · rw [if_neg c, strIdx_mem v ys (i + 1) (by omega)]
      exact ⟨fun h => .inr h, fun h => h.resolve_left c⟩
theorem strContains_ev (xs : List ByteArray) (v : ByteArray) (hn : xs.length ≤ 4611686018427387904) : Ev (fun k => slices_Contains_string_string.f k xs v) (decide (v ∈ xs)) := by
  unfold slices_Contains_string_string.f
  refine Ev.bind (strIndex_ev xs v hn) (Ev.is ?_)
  exact decide_eq_decide.2 (strIdx_mem v xs 0 (by omega))
theorem l1In_ev (a b c : Int) : Ev (fun _ => spec_l1In.f a b c) (decide (b ≤ a ∧ a ≤ c)) := by
  refine Ev.flat ?_
  unfold spec_l1In.f
  by_cases h : b ≤ a <;> simp [h]
theorem within_ev (a b c : Int) : Ev (fun _ => impl_within.f a b c) (decide (b ≤ a ∧ a ≤ c)) := by
  refine Ev.flat ?_
  unfold impl_within.f
  by_cases h : b ≤ a <;> simp [h]
def areCons (l : List ByteArray) : Bool := decide ((∀ x ∈ l, x ∈ conNames) ∧ l.Nodup ∧ 1 ≤ (l.length : Int) ∧ (l.length : Int) ≤ 5)
theorem snoc_nodup (l : List ByteArray) (i : Nat) (h : i < l.length) (hd : (l.take i).Nodup) (hm : ¬ l.getD i ByteArray.empty ∈ l.take i) : (l.take (i + 1)).Nodup := by
  rw [take_succ' l ByteArray.empty i h, List.nodup_append]
  exact ⟨hd, by simp, fun a ha b hb e => hm (by rw [List.mem_singleton.1 hb] at e; rw [← e]; exact ha)⟩
theorem nodup_snoc (l : List ByteArray) (i : Nat) (h : i < l.length) (hd : l.Nodup) : ¬ l.getD i ByteArray.empty ∈ l.take i := fun hm => by
  have := hd.sublist (List.take_sublist (i + 1) l)
  rw [take_succ' l ByteArray.empty i h, List.nodup_append] at this
  exact this.2.2 _ hm _ (List.mem_singleton.2 rfl) rfl
theorem all_snoc (l : List ByteArray) (p : ByteArray → Prop) (i : Nat) (h : i < l.length) (ha : ∀ x ∈ l.take i, p x) (hx : p (l.getD i ByteArray.empty)) : ∀ x ∈ l.take (i + 1), p x := by
  rw [take_succ' l ByteArray.empty i h]
  intro x hm
  rcases List.mem_append.1 hm with hm | hm
  · exact ha x hm
  · rw [List.mem_singleton.1 hm]; exact hx
theorem specAreConstraints_loop (l : List ByteArray) (hn : l.length ≤ 4611686018427387904) : ∀ (d i : Nat), i + d = l.length → (l.take i).Nodup → (∀ x ∈ l.take i, x ∈ conNames) → Ev (fun k => spec_AreConstraints.l0 k l (i : Int)) (areCons l) := by
  intro d
  induction d with
  | zero =>
    intro i hi hd hx
    rw [List.take_of_length_le (by omega)] at hd hx
    refine Ev.step (fun k => spec_AreConstraints.l0.eq_2 _ _ _) (Ev.neg (by omega) (Ev.bind (l1In_ev _ _ _) (Ev.is ?_)))
    exact decide_eq_decide.2 ⟨fun h => ⟨hx, hd, h⟩, fun h => h.2.2⟩
  | succ d ih =>
    intro i hi hd hx
    have hlt : i < l.length := by omega
    refine Ev.step (fun k => spec_AreConstraints.l0.eq_2 _ _ _) (Ev.pos (by omega) (Ev.bind specNames_ev (Ev.pos (by omega) (Ev.bind (l3Has_ev conNames _ (by rw [conNames_len]; omega)) ?_))))
    rw [wrapS (Nat.le_of_lt hlt) hn, show rdOf ByteArray.empty l (i : Int) = l.getD i ByteArray.empty from rfl, Int.toNat_natCast]
    by_cases c : l.getD i ByteArray.empty ∈ conNames
    · refine Ev.pos (decide_eq_true c) (Ev.pos (by omega) (Ev.bind (l3Has_ev _ _ (by rw [List.length_take]; omega)) ?_))
      by_cases c2 : l.getD i ByteArray.empty ∈ l.take i
      · refine Ev.pos (decide_eq_true c2) (Ev.is (decide_eq_false (fun h => nodup_snoc l i hlt h.2.1 c2)).symm)
      · exact Ev.neg (by simpa using c2) (ih (i + 1) (by omega) (snoc_nodup l i hlt hd c2) (all_snoc l _ i hlt hx c))
    · exact Ev.neg (by simpa using c) (Ev.is (decide_eq_false (fun h => c (h.1 _ (mem_getD l _ i hlt)))).symm)
theorem specAreConstraints_ev (l : List ByteArray) (hn : l.length ≤ 4611686018427387904) : Ev (fun k => spec_AreConstraints.f k l) (areCons l) :=
  specAreConstraints_loop l hn l.length 0 (by omega) (by simp) (fun _ h => by cases h)
theorem implAreConstraints_loop (l : List ByteArray) (hn : l.length ≤ 4611686018427387904) : ∀ (d i : Nat), i + d = l.length → (l.take i).Nodup → (∀ x ∈ l.take i, x ∈ conNames) → Ev (fun k => impl_AreConstraints.l0 k l l (l.length : Int) (i : Int)) (areCons l) := by
  intro d
  induction d with
  | zero =>
    intro i hi hd hx
    rw [List.take_of_length_le (by omega)] at hd hx
    refine Ev.step (fun k => impl_AreConstraints.l0.eq_2 _ _ _ _ _) (Ev.neg (by omega) (Ev.bind (within_ev _ _ _) (Ev.is ?_)))
    exact decide_eq_decide.2 ⟨fun h => ⟨hx, hd, h⟩, fun h => h.2.2⟩
  | succ d ih =>
    intro i hi hd hx
    have hlt : i < l.length := by omega
    refine Ev.step (fun k => impl_AreConstraints.l0.eq_2 _ _ _ _ _) (Ev.pos (by omega) (Ev.pos (by omega) (Ev.pos (by omega) (Ev.bind implNames_ev (Ev.bind (strContains_ev conNames _ (by rw [conNames_len]; omega)) ?_)))))
    rw [wrapS (Nat.le_of_lt hlt) hn, show rdOf ByteArray.empty l (i : Int) = l.getD i ByteArray.empty from rfl, Int.toNat_natCast]
    by_cases c : l.getD i ByteArray.empty ∈ conNames
    · refine Ev.pos (decide_eq_true c) (Ev.pos (by omega) (Ev.bind (strContains_ev _ _ (by rw [List.length_take]; omega)) ?_))
      by_cases c2 : l.getD i ByteArray.empty ∈ l.take i
      · refine Ev.pos (decide_eq_true c2) (Ev.is (decide_eq_false (fun h => nodup_snoc l i hlt h.2.1 c2)).symm)
      · exact Ev.neg (by simpa using c2) (ih (i + 1) (by omega) (snoc_nodup l i hlt hd c2) (all_snoc l _ i hlt hx c))
    · exact Ev.neg (by simpa using c) (Ev.is (decide_eq_false (fun h => c (h.1 _ (mem_getD l _ i hlt)))).symm)
theorem implAreConstraints_ev (l : List ByteArray) (hn : l.length ≤ 4611686018427387904) : Ev (fun k => impl_AreConstraints.f k l) (areCons l) :=
  implAreConstraints_loop l hn l.length 0 (by omega) (by simp) (fun _ h => by cases h)
def isMark (a : ByteArray) : Bool := decide (a ∈ conNames.take 6)
theorem specIsMarkedness_ev (a : ByteArray) : Ev (fun k => spec_IsMarkedness.f k a) (isMark a) := by
  unfold spec_IsMarkedness.f
  exact Ev.bind specNames_ev (Ev.pos (by rw [conNames_len]; omega) (Ev.bind (l3Has_ev _ _ (by rw [List.length_take]; omega)) (Ev.now _)))
theorem implIsMarkedness_ev (a : ByteArray) : Ev (fun k => impl_IsMarkedness.f k a) (isMark a) := by
  unfold impl_IsMarkedness.f
  refine Ev.bind implNames_ev (Ev.bind (strIndex_ev _ _ (by rw [conNames_len]; omega)) (Ev.bind (within_ev _ _ _) (Ev.is ?_)))
  have := strIdx_take a conNames 6 0 (by omega)
  exact decide_eq_decide.2 ⟨fun h => this.1 ⟨h.1, by omega⟩, fun h => by have := this.2 h; omega⟩
def isRank (l : List Int) (n : Int) : Bool := decide (1 ≤ n ∧ n ≤ 5 ∧ (l.length : Int) = n ∧ l.Nodup ∧ ∀ x ∈ l, 0 ≤ x ∧ x < n)
theorem l12Has_loop (xs : List Int) (v : Int) (hn : xs.length ≤ 4611686018427387904) : ∀ (d i : Nat), i + d = xs.length → Ev (fun k => spec_l12Has.l0 k xs v (i : Int)) (decide (v ∈ xs.drop i)) := by
  intro d
  induction d with
  | zero =>
    intro i hi
    refine Ev.step (fun k => spec_l12Has.l0.eq_2 _ _ _ _) (Ev.neg (by omega) (Ev.is ?_))
    rw [List.drop_of_length_le (by omega)]
    simp
  | succ d ih =>
    intro i hi
    have hlt : i < xs.length := by omega
    refine Ev.step (fun k => spec_l12Has.l0.eq_2 _ _ _ _) (Ev.pos (by omega) (Ev.pos (by omega) ?_))
    rw [wrapS (Nat.le_of_lt hlt) hn, rdN, drop_cons xs 0 i hlt]
    by_cases c : xs.getD i 0 = v
    · exact Ev.pos c (Ev.is (decide_eq_true (by rw [c]; exact List.mem_cons_self ..)).symm)
    · refine Ev.neg c (Ev.to (ih (i + 1) (by omega)) (decide_eq_decide.2 ⟨fun h => List.mem_cons_of_mem _ h, fun h => ?_⟩))
      rcases List.mem_cons.1 h with h | h
      · exact absurd h.symm c
      · exact h
theorem l12Has_ev (xs : List Int) (v : Int) (hn : xs.length ≤ 4611686018427387904) : Ev (fun k => spec_l12Has.f k xs v) (decide (v ∈ xs)) := by
  unfold spec_l12Has.f
  simpa using l12Has_loop xs v hn xs.length 0 (by omega)
theorem specIsRanking_loop (l : List Int) (n : Int) (hn : l.length ≤ 4611686018427387904) : ∀ (d i : Nat), i + d = l.length → (l.take i).Nodup → (∀ x ∈ l.take i, 0 ≤ x ∧ x < n) → Ev (fun k => spec_IsRanking.l0 k l n (i : Int)) (isRank l n) := by
  intro d
  induction d with
  | zero =>
    intro i hi hd hx
    rw [List.take_of_length_le (by omega)] at hd hx
    refine Ev.step (fun k => spec_IsRanking.l0.eq_2 _ _ _ _) (Ev.neg (by omega) (Ev.bind (l1In_ev _ _ _) ?_))
    by_cases h : 1 ≤ n ∧ n ≤ 5
    · refine Ev.pos (by simpa using h) (Ev.is ?_)
      unfold isRank
      by_cases e : (l.length : Int) = n
      · rw [decide_eq_true ⟨h.1, h.2, e, hd, hx⟩]; simpa using e
      · rw [decide_eq_false (fun z => e z.2.2.1)]; simpa using e
    · refine Ev.neg (by simpa using h) (Ev.is ?_)
      unfold isRank
      rw [decide_eq_false (fun z => h ⟨z.1, z.2.1⟩)]
  | succ d ih =>
    intro i hi hd hx
    have hlt : i < l.length := by omega
    refine Ev.step (fun k => spec_IsRanking.l0.eq_2 _ _ _ _) (Ev.pos (by omega) (Ev.pos (by omega) ?_))
    rw [wrapS (Nat.le_of_lt hlt) hn, rdN, Int.toNat_natCast]
    have no : ∀ {p : Prop}, ¬ p → (isRank l n = true → p) → Ev (fun _ => some false) (isRank l n) := fun hp k => Ev.is (by
      cases e : isRank l n with
      | false => rfl
      | true => exact absurd (k e) hp)
    by_cases c : l.getD i 0 < 0
    · exact Ev.pos c (no (p := 0 ≤ l.getD i 0) (by omega) (fun h => ((of_decide_eq_true h).2.2.2.2 _ (mem_getD l 0 i hlt)).1))
    · refine Ev.neg c ?_
      by_cases c' : l.getD i 0 ≥ n
      · exact Ev.pos c' (no (p := l.getD i 0 < n) (by omega) (fun h => ((of_decide_eq_true h).2.2.2.2 _ (mem_getD l 0 i hlt)).2))
      · refine Ev.neg c' (Ev.pos (by omega) (Ev.bind (l12Has_ev _ _ (by rw [List.length_take]; omega)) ?_))
        have hnd : l.Nodup → ¬ l.getD i 0 ∈ l.take i := fun h hm => by
          have := h.sublist (List.take_sublist (i + 1) l)
          rw [take_succ' l 0 i hlt, List.nodup_append] at this
          exact this.2.2 _ hm _ (List.mem_singleton.2 rfl) rfl
        by_cases c2 : l.getD i 0 ∈ l.take i
        · exact Ev.pos (decide_eq_true c2) (no (p := ¬ l.getD i 0 ∈ l.take i) (fun h => h c2) (fun h => hnd (of_decide_eq_true h).2.2.2.1))
        · refine Ev.neg (by simpa using c2) (ih (i + 1) (by omega) ?_ ?_)
          · rw [take_succ' l 0 i hlt, List.nodup_append]
            exact ⟨hd, by simp, fun a ha b hb e => c2 (by rw [List.mem_singleton.1 hb] at e; rw [← e]; exact ha)⟩
          · rw [take_succ' l 0 i hlt]
            intro x hm
            rcases List.mem_append.1 hm with hm | hm
            · exact hx x hm
            · rw [List.mem_singleton.1 hm]; exact ⟨by omega, by omega⟩
theorem specIsRanking_ev (l : List Int) (n : Int) (hn : l.length ≤ 4611686018427387904) : Ev (fun k => spec_IsRanking.f k l n) (isRank l n) :=
  specIsRanking_loop l n hn l.length 0 (by omega) (by simp) (fun _ h => by cases h)
theorem isStrict_ev (m : List Int) (n : Int) (hm : m.length ≤ 4611686018427387904) (hn : 1 ≤ n ∧ n ≤ 4611686018427387904) (b : Bool) (hb : b = true ↔ (∀ j, 0 ≤ j → j < m.length → (0 ≤ m.getD j 0 ∧ m.getD j 0 < n) ∧ (0 < j → m.getD (j - 1) 0 < m.getD j 0))) : Ev (fun k => impl_isStrict.f k m n) b := by
  unfold impl_isStrict.f
  refine all_loop (fun k i => impl_isStrict.l0 k m n m (m.length : Int) i) m.length (fun j => (0 ≤ m.getD j 0 ∧ m.getD j 0 < n) ∧ (0 < j → m.getD (j - 1) 0 < m.getD j 0)) true (fun i hi r h h' => ?_) (Ev.step (fun k => impl_isStrict.l0.eq_2 _ _ _ _ _ _) (Ev.neg (by omega) (Ev.now _))) m.length 0 (by omega) b (hb.trans ⟨fun h => ⟨h, rfl⟩, fun h => h.1⟩)
  refine Ev.step (fun k => impl_isStrict.l0.eq_2 _ _ _ _ _ _) (Ev.pos (by omega) (Ev.pos (by omega) (Ev.pos (by omega) (Ev.bind (within_ev _ _ _) ?_))))
  rw [wrapS (Nat.le_of_lt hi) hm, wrapI (n - 1) (by omega), rdN]
  by_cases c : 0 ≤ m.getD i 0 ∧ m.getD i 0 < n
  · refine Ev.pos (decide_eq_true ⟨c.1, by omega⟩) ?_
    by_cases c0 : 0 < i
    · have e : wrap64 ((i : Int) - 1) = ((i - 1 : Nat) : Int) := by rw [wrapI _ (by omega)]; omega
      refine Ev.pos (by omega) ?_
      rw [e]
      refine Ev.pos (by omega) (Ev.pos (by omega) ?_)
      rw [rdN]
      by_cases c1 : m.getD i 0 ≤ m.getD (i - 1) 0
      · exact Ev.pos c1 (Ev.is (h' (fun z => by have := z.2 c0; omega)).symm)
      · exact Ev.neg c1 (h ⟨c, fun _ => by omega⟩)
    · exact Ev.neg (by omega) (h ⟨c, fun z => absurd z c0⟩)
  · exact Ev.neg (by simp only [decide_eq_true_eq]; omega) (Ev.is (h' (fun z => c z.1)).symm)
theorem sorted_strict (l : List Int) : (∀ j, 0 < j → j < l.length → (l.mergeSort (fun x y => decide (x ≤ y))).getD (j - 1) 0 < (l.mergeSort (fun x y => decide (x ≤ y))).getD j 0) ↔ l.Nodup := by
  have hp := List.mergeSort_perm l (fun x y => decide (x ≤ y))
  have hs := List.pairwise_mergeSort (le := fun x y : Int => decide (x ≤ y)) (fun a b c h1 h2 => by simp only [decide_eq_true_eq] at *; omega) (fun a b => by simp only [Bool.or_eq_true, decide_eq_true_eq]; omega) l
  have hlen := hp.length_eq
  rw [← hp.nodup_iff]
  generalize hm : l.mergeSort (fun x y => decide (x ≤ y)) = m at *
  rw [List.pairwise_iff_getElem] at hs
  simp only [decide_eq_true_eq] at hs
  unfold List.Nodup
  rw [List.pairwise_iff_getElem]
  constructor
  · intro h i j hi hj hij e
    have h1 := h j (by omega) (by omega)
    rw [getD_at _ _ _ hj, getD_at _ _ _ (show j - 1 < m.length by omega)] at h1
    rcases Nat.lt_or_ge i (j - 1) with h2 | h2
    · have := hs i (j - 1) hi (by omega) h2; omega
    · obtain rfl : i = j - 1 := by omega
      omega
  · intro h j h0 hj
    have hj' : j < m.length := by omega
    have h1 := hs (j - 1) j (by omega) hj' (by omega)
    have h2 := h (j - 1) j (by omega) hj' (by omega)
    rw [getD_at _ _ _ hj', getD_at _ _ _ (show j - 1 < m.length by omega)]
    omega
theorem implIsRanking_ev (l : List Int) (n : Int) : Ev (fun k => impl_IsRanking.f k l n) (isRank l n) := by
  unfold impl_IsRanking.f
  refine Ev.bind (within_ev _ _ _) ?_
  by_cases h : 1 ≤ n ∧ n ≤ 5
  · refine Ev.pos (by simpa using h) ?_
    by_cases e : (l.length : Int) = n
    · refine Ev.pos e (isStrict_ev _ n (by rw [List.length_mergeSort]; omega) (by omega) _ ?_)
      unfold isRank
      rw [decide_eq_true_eq, List.length_mergeSort]
      constructor
      · rintro ⟨_, _, _, hd, hx⟩ j _ hj
        exact ⟨hx _ (List.mem_mergeSort.1 (mem_getD _ 0 j (by rw [List.length_mergeSort]; exact hj))), fun h0 => (sorted_strict l).2 hd j h0 hj⟩
      · intro H
        refine ⟨h.1, h.2, e, (sorted_strict l).1 (fun j h0 hj => (H j (by omega) hj).2 h0), fun x hx => ?_⟩
        obtain ⟨j, hj, rfl⟩ := List.getElem_of_mem (List.mem_mergeSort (le := fun x y : Int => decide (x ≤ y)).2 hx)
        have := (H j (by omega) (by rw [List.length_mergeSort] at hj; exact hj)).1
        rwa [getD_at _ _ _ hj] at this
    · refine Ev.neg e (Ev.is ?_)
      unfold isRank
      rw [decide_eq_false (fun z => e z.2.2.1)]
  · refine Ev.neg (by simpa using h) (Ev.is ?_)
    unfold isRank
    rw [decide_eq_false (fun z => h ⟨z.1, z.2.1⟩)]
def markAt (names : List ByteArray) (r : List Int) (j : Nat) : Bool := isMark (names.getD (r.getD j 0).toNat ByteArray.empty)
def faithBelow (names : List ByteArray) (r : List Int) : Bool := areCons names && isRank r (names.length : Int) && decide (∀ j, j < r.length → 0 < j → markAt names r j = true → markAt names r (j - 1) = true)
theorem specFaith_loop (names : List ByteArray) (r : List Int) (hl : r.length = names.length) (h5 : 1 ≤ r.length ∧ r.length ≤ 5) (hx : ∀ x ∈ r, 0 ≤ x ∧ x < (names.length : Int)) :
    Ev (fun k => spec_FaithBelow.l0 k names r 1) (decide (∀ j, j < r.length → 0 < j → markAt names r j = true → markAt names r (j - 1) = true)) := by
  refine all_from (fun k i => spec_FaithBelow.l0 k names r i) 1 r.length (fun j => markAt names r j = true → markAt names r (j - 1) = true) true (fun i hi1 hi r' h h' => ?_) (Ev.step (fun k => spec_FaithBelow.l0.eq_2 _ _ _ _) (Ev.neg (by omega) (Ev.now _))) (r.length - 1) 1 (by omega) (by omega) _ ?_
  · have hb := hx _ (mem_getD r 0 i hi)
    have hb' := hx _ (mem_getD r 0 (i - 1) (by omega))
    have e : wrap64 ((i : Int) - 1) = ((i - 1 : Nat) : Int) := by rw [wrapI _ (by omega)]; omega
    refine Ev.step (fun k => spec_FaithBelow.l0.eq_2 _ _ _ _) (Ev.pos (by omega) (Ev.pos (by omega) ?_))
    rw [rdN]
    refine Ev.pos hb.1 (Ev.pos hb.2 (Ev.bind (specIsMarkedness_ev _) ?_))
    rw [e, rdN, wrapS (n := 5) (by omega) (by omega)]
    by_cases c : markAt names r i = true
    · refine Ev.pos c (Ev.pos (by omega) (Ev.pos (by omega) (Ev.pos hb'.1 (Ev.pos hb'.2 (Ev.bind (specIsMarkedness_ev _) ?_)))))
      by_cases c' : markAt names r (i - 1) = true
      · exact Ev.pos c' (h (fun _ => c'))
      · exact Ev.neg c' (Ev.is (h' (fun z => c' (z c))).symm)
    · exact Ev.neg c (h (fun z => absurd z c))
  · rw [decide_eq_true_eq]
    exact ⟨fun h => ⟨fun j h1 h2 => h j h2 (by omega), rfl⟩, fun h j h1 h2 => h.1 j (by omega) h1⟩
theorem implFaith_loop (names : List ByteArray) (r : List Int) (hl : r.length = names.length) (h5 : 1 ≤ r.length ∧ r.length ≤ 5) (hx : ∀ x ∈ r, 0 ≤ x ∧ x < (names.length : Int)) :
    Ev (fun k => impl_FaithBelow.l0 k names false r (r.length : Int) 0) (decide (∀ j, j < r.length → 0 < j → markAt names r j = true → markAt names r (j - 1) = true)) := by
  refine all_from (fun k i => impl_FaithBelow.l0 k names (decide (0 < i) && !markAt names r (i.toNat - 1)) r (r.length : Int) i) 0 r.length (fun j => 0 < j → markAt names r j = true → markAt names r (j - 1) = true) true (fun i _ hi r' h h' => ?_) (Ev.step (fun k => impl_FaithBelow.l0.eq_2 _ _ _ _ _ _) (Ev.neg (by omega) (Ev.now _))) r.length 0 (by omega) (by omega) _ ?_
  · have hb := hx _ (mem_getD r 0 i hi)
    have hnx : (decide (0 < ((i + 1 : Nat) : Int)) && !markAt names r (((i + 1 : Nat) : Int).toNat - 1)) = !markAt names r i := by
      rw [decide_eq_true (by omega), Bool.true_and, Int.toNat_natCast, Nat.add_sub_cancel]
    rw [hnx] at h
    rw [Int.toNat_natCast]
    refine Ev.step (fun k => impl_FaithBelow.l0.eq_2 _ _ _ _ _ _) (Ev.pos (by omega) (Ev.pos (by omega) (Ev.pos (by omega) ?_)))
    rw [rdN, wrapS (n := 5) (by omega) (by omega)]
    by_cases c : (decide (0 < (i : Int)) && !markAt names r (i - 1)) = true
    · have hc := c
      simp only [Bool.and_eq_true, decide_eq_true_eq, Bool.not_eq_true'] at hc
      refine Ev.pos c (Ev.pos hb.1 (Ev.pos hb.2 (Ev.bind (implIsMarkedness_ev _) ?_)))
      by_cases c' : markAt names r i = true
      · exact Ev.pos c' (Ev.is (h' (fun z => by have := z (by omega) c'; rw [hc.2] at this; cases this)).symm)
      · refine Ev.neg c' ?_
        have := h (fun _ z => absurd z c')
        rwa [show markAt names r i = false from by simpa using c'] at this
    · refine Ev.neg c (Ev.pos hb.1 (Ev.pos hb.2 (Ev.bind (implIsMarkedness_ev _) (h (fun h0 _ => ?_)))))
      have : decide (0 < (i : Int)) = true := decide_eq_true (by omega)
      rw [this, Bool.true_and] at c
      simpa using c
  · rw [decide_eq_true_eq]
    exact ⟨fun h => ⟨fun j h1 h2 => h j h2, rfl⟩, fun h j h1 => h.1 j (by omega) h1⟩
theorem specFaithBelow_ev (names : List ByteArray) (r : List Int) (hn : names.length ≤ 4611686018427387904) (hr : r.length ≤ 4611686018427387904) : Ev (fun k => spec_FaithBelow.f k names r) (faithBelow names r) := by
  unfold spec_FaithBelow.f faithBelow
  refine Ev.bind (specAreConstraints_ev names hn) ?_
  by_cases c : areCons names = true
  · refine Ev.pos c (Ev.bind (specIsRanking_ev r _ hr) (Ev.step (fun k => spec_FaithBelow.j0.eq_2 _ _ _ _) ?_))
    rw [c, Bool.true_and]
    by_cases c' : isRank r (names.length : Int) = true
    · have H := of_decide_eq_true c'
      rw [c', Bool.true_and]
      exact Ev.neg (by simp) (specFaith_loop names r (by omega) (by omega) H.2.2.2.2)
    · rw [show isRank r (names.length : Int) = false from by simpa using c']
      exact Ev.pos rfl (Ev.now _)
  · refine Ev.neg c (Ev.step (fun k => spec_FaithBelow.j0.eq_2 _ _ _ _) (Ev.pos rfl ?_))
    rw [show areCons names = false from by simpa using c]
    exact Ev.now _
theorem implFaithBelow_ev (names : List ByteArray) (r : List Int) (hn : names.length ≤ 4611686018427387904) : Ev (fun k => impl_FaithBelow.f k names r) (faithBelow names r) := by
  unfold impl_FaithBelow.f faithBelow
  refine Ev.bind (implAreConstraints_ev names hn) ?_
  by_cases c : areCons names = true
  · refine Ev.pos c (Ev.bind (implIsRanking_ev r _) (Ev.step (fun k => impl_FaithBelow.j0.eq_2 _ _ _ _) ?_))
    rw [c, Bool.true_and]
    by_cases c' : isRank r (names.length : Int) = true
    · have H := of_decide_eq_true c'
      rw [c', Bool.true_and]
      exact Ev.neg (by simp) (implFaith_loop names r (by omega) (by omega) H.2.2.2.2)
    · rw [show isRank r (names.length : Int) = false from by simpa using c']
      exact Ev.pos rfl (Ev.now _)
  · refine Ev.neg c (Ev.step (fun k => impl_FaithBelow.j0.eq_2 _ _ _ _) (Ev.pos rfl ?_))
    rw [show areCons names = false from by simpa using c]
    exact Ev.now _
theorem FnExactFaithBelow (l0 : List (ByteArray)) (l1 : List (Int)) (h0 : (l0.length ≤ maxLen ∧ ∀ y1 ∈ l0, y1.size ≤ maxLen)) (h1 : (l1.length ≤ maxLen ∧ ∀ y2 ∈ l1, (Lit.int .i64 y2).wf = true)) : ∃ k, laws_FnExactFaithBelow.f k l0 l1 = some true := by
  refine Ev.rounds (g := fun k => laws_FnExactFaithBelow.f k l0 l1) ?_
  unfold laws_FnExactFaithBelow.f
  by_cases c : (l1.length : Int) > 1048576
  · exact Ev.pos c (Ev.now _)
  refine Ev.neg c ?_
  obtain ⟨r, hr, hr1, hr2, hg⟩ := szStringS_ev l0 h0.1 h0.2 1048576 (by omega) (by omega)
  refine Ev.bind hr ?_
  by_cases c' : r < 0
  · exact Ev.pos c' (Ev.now _)
  refine Ev.neg c' ?_
  obtain ⟨hn, hy⟩ := hg (by omega)
  have t0 := toStringS_ev l0 hn
  have t1 := toIntS_ev l1 (by omega)
  refine Ev.bind t0 (Ev.bind t1 (Ev.bind (specFaithBelow_ev l0 l1 (by omega) (by omega)) (Ev.bind t0 (Ev.bind t1 (Ev.bind (implFaithBelow_ev l0 l1 (by omega)) (Ev.neg (by simp) ?_))))))
  refine Ev.bind t0 (Ev.bind (eqStringS_ev l0 l0 (by omega)) (Ev.pos (by simp) ?_))
  exact Ev.bind t1 (Ev.bind (eqIntS_ev l1 l1 (by omega)) (Ev.pos (by simp) (Ev.now _)))
end Go.Proofs.Ytcebnmagigadpaa.Pure
