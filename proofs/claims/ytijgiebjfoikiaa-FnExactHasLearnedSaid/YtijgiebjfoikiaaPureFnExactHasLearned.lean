/- The program's HasLearned and the reference's answer alike, and the arguments stay. Conditions: what a slice may hold at most. -/
import Derived.Test.YtijgiebjfoikiaaPFnExactHasLearnedx0
import Derived.Test.YtijgiebjfoikiaaPFnExactHasLearnedx1
import Derived.Test.YtijgiebjfoikiaaPFnExactHasLearnedx2
import Derived.Test.YtijgiebjfoikiaaPFnExactHasLearnedx3
import Derived.Test.YtijgiebjfoikiaaPFnExactHasLearnedx4
import Derived.Test.YtijgiebjfoikiaaPFnExactHasLearnedx5
import Derived.Test.YtijgiebjfoikiaaPFnExactHasLearnedx6
import Derived.Test.YtijgiebjfoikiaaPFnExactHasLearnedx7
import Derived.Test.YtijgiebjfoikiaaKit
import Derived.WideShapes
import Derived.Laws.Strings
set_option linter.unusedVariables false
set_option linter.unusedSimpArgs false
namespace Go.Proofs.Ytijgiebjfoikiaa.Pure
open Go.RowKit Go.WideShapes Go.Proofs.Ytijgiebjfoikiaa.PFnExactHasLearned Go.Proofs.Ytijgiebjfoikiaa.Kit Go.Proofs.YtijgiebjfoikiaaW.PrintWords Go.Proofs.YtijgiebjfoikiaaW.PrintLast
theorem szIntS_ev (l : List Int) (hl : l.length ≤ maxLen) (a : Int) (h0 : 0 ≤ a) (h1 : a ≤ 1048576) : ∃ r, Ev (fun _ => laws_szIntS.f l a) r ∧ -1 ≤ r ∧ r ≤ a ∧ (0 ≤ r → l.length ≤ 1048576) := by
  obtain ⟨r, hr, h⟩ := sz_leaf a l.length hl h0 h1
  exact ⟨r, Ev.flat hr, h⟩
theorem szIntSS_ev (xs : List (List Int)) (hn : xs.length ≤ maxLen) (hy : ∀ y ∈ xs, y.length ≤ maxLen) (a : Int) (h0 : 0 ≤ a) (h1 : a ≤ 1048576) :
    ∃ r, Ev (fun k => laws_szIntSS.f k xs a) r ∧ -1 ≤ r ∧ r ≤ a ∧ (0 ≤ r → xs.length ≤ 1048576 ∧ ∀ y ∈ xs, y.length ≤ 1048576) :=
  sz_slice (fun k a => laws_szIntSS.f k xs a) (fun k left i => laws_szIntSS.l0 k xs left i) xs (fun y => y.length ≤ 1048576) hn (fun _ _ => rfl)
    (fun hl left h0 h1 => sz_loop _ (fun _ y left => laws_szIntS.f y left) xs [] _ hl (fun k left i => laws_szIntSS.l0.eq_2 _ _ _ _) (fun y hm left h0 h1 => szIntS_ev y (hy y hm) left h0 h1) xs.length 0 left (by omega) h0 h1) a h0 h1
theorem szLearner_ev (n : Int) (xs : List (List Int)) (e : Int) (hn : xs.length ≤ maxLen) (hy : ∀ y ∈ xs, y.length ≤ maxLen) (a : Int) (h0 : 0 ≤ a) (h1 : a ≤ 1048576) :
    ∃ r, Ev (fun k => laws_szLearner.f k n xs e a) r ∧ -1 ≤ r ∧ r ≤ a ∧ (0 ≤ r → xs.length ≤ 1048576 ∧ ∀ y ∈ xs, y.length ≤ 1048576) := by
  obtain ⟨r, hr, h⟩ := szIntSS_ev xs hn hy a h0 h1
  refine ⟨r, ?_, h⟩
  unfold laws_szLearner.f
  refine Ev.bind hr ?_
  by_cases c : r < 0
  · exact Ev.pos c (Ev.is (by omega))
  · exact Ev.neg c (Ev.now _)
theorem toIntS_loop (xs : List Int) (hn : xs.length ≤ 4611686018427387904) : ∀ (d i : Nat) (ys : List Int), i + d = xs.length → ys.length = xs.length → ys.take i = xs.take i →
    Ev (fun k => laws_toIntS.l0 k xs ys (i : Int)) xs := by
  intro d
  induction d with
  | zero =>
    intro i ys hi hl ht
    refine Ev.step (fun k => laws_toIntS.l0.eq_2 _ _ _ _) ?_
    refine Ev.neg (by omega) (Ev.is ?_)
    have e : i = xs.length := by omega
    rw [e, List.take_length, ← hl, List.take_length] at ht
    exact ht
  | succ d ih =>
    intro i ys hi hl ht
    have hlt : i < xs.length := by omega
    obtain ⟨h1, h2⟩ := set_fill xs ys 0 i hlt hl ht
    refine Ev.step (fun k => laws_toIntS.l0.eq_2 _ _ _ _) ?_
    refine Ev.pos (by omega) (Ev.pos (by omega) (Ev.pos (by omega) ?_))
    rw [wrapS (Nat.le_of_lt hlt) hn, rdN, Int.toNat_natCast]
    exact ih (i + 1) _ (by omega) h1 h2
theorem toIntS_ev (xs : List Int) (hn : xs.length ≤ 35184372088832) : Ev (fun k => laws_toIntS.f k xs) xs := by
  unfold laws_toIntS.f
  refine Ev.pos (by omega) (Ev.pos (by omega) ?_)
  rw [Int.toNat_natCast]
  exact toIntS_loop xs (by omega) xs.length 0 _ (by omega) (by rw [List.length_replicate]) rfl
theorem toIntSS_ev (xs : List (List Int)) (hn : xs.length ≤ 1048576) (hy : ∀ y ∈ xs, y.length ≤ 1048576) : Ev (fun k => laws_toIntSS.f k xs) xs := by
  unfold laws_toIntSS.f
  refine Ev.pos (by omega) (Ev.pos (by omega) ?_)
  have h := to_loop (fun k ys i => laws_toIntSS.l0 k xs ys i) (fun k y => laws_toIntS.f k y) (fun t => t) (fun y => y) xs [] (by omega) (fun k ys i => laws_toIntSS.l0.eq_2 _ _ _ _)
    (fun y hm => toIntS_ev y (by have := hy y hm; omega)) xs.length 0 (List.replicate xs.length []) (by omega) (by rw [List.length_replicate]) rfl
  rw [List.map_id'] at h
  rw [Int.toNat_natCast]
  exact h
theorem toLearner_ev (n : Int) (xs : List (List Int)) (e : Int) (hn : xs.length ≤ 1048576) (hy : ∀ y ∈ xs, y.length ≤ 1048576) : Ev (fun k => laws_toLearner.f k n xs e) (n, xs, e) :=
  Ev.bind (toIntSS_ev xs hn hy) (Ev.now _)
theorem eqIntS_loop (xs ys : List Int) (hl : xs.length = ys.length) (hn : xs.length ≤ 4611686018427387904) : ∀ (d i : Nat), i + d = xs.length →
    Ev (fun k => laws_eqIntS.l0 k xs ys (i : Int)) (decide (xs.drop i = ys.drop i)) := by
  intro d
  induction d with
  | zero =>
    intro i hi
    refine Ev.step (fun k => laws_eqIntS.l0.eq_2 _ _ _ _) ?_
    refine Ev.neg (by omega) (Ev.is ?_)
    rw [List.drop_of_length_le (by omega), List.drop_of_length_le (by omega)]
    rfl
  | succ d ih =>
    intro i hi
    have hlt : i < xs.length := by omega
    refine Ev.step (fun k => laws_eqIntS.l0.eq_2 _ _ _ _) ?_
    refine Ev.pos (by omega) (Ev.pos (by omega) (Ev.pos (by omega) ?_))
    rw [wrapS (Nat.le_of_lt hlt) hn, rdN, rdN, drop_cons xs 0 i hlt, drop_cons ys 0 i (by omega)]
    by_cases e : xs.getD i 0 = ys.getD i 0
    · refine Ev.pos e (Ev.to (ih (i + 1) (by omega)) ?_)
      rw [e]
      exact decide_eq_decide.2 ⟨fun h => by rw [h], fun h => (List.cons.inj h).2⟩
    · exact Ev.neg e (Ev.is (decide_eq_false (fun h => e (List.cons.inj h).1)).symm)
theorem eqIntS_ev (xs ys : List Int) (hn : xs.length ≤ 4611686018427387904) : Ev (fun k => laws_eqIntS.f k xs ys) (decide (xs = ys)) := by
  unfold laws_eqIntS.f
  by_cases e : xs.length = ys.length
  · exact Ev.pos (by omega) (eqIntS_loop xs ys e hn xs.length 0 (by omega))
  · refine Ev.neg (by omega) (Ev.is ?_)
    have : ¬ xs = ys := fun h => e (by rw [h])
    simp [this]
theorem eqIntSS_ev (xs ys : List (List Int)) (hn : xs.length ≤ 4611686018427387904) (hy : ∀ y ∈ xs, y.length ≤ 4611686018427387904) : Ev (fun k => laws_eqIntSS.f k xs ys) (decide (xs = ys)) :=
  eq_slice _ (fun k i => laws_eqIntSS.l0 k xs ys i) xs ys (fun _ => rfl)
    (fun e => eq_loop _ (fun k a b => laws_eqIntS.f k a b) xs ys [] e hn (fun k i => laws_eqIntSS.l0.eq_2 _ _ _ _) (fun a ha b _ => eqIntS_ev a b (hy a ha)) xs.length 0 (by omega))
theorem eqLearner_ev (n : Int) (xs : List (List Int)) (e : Int) (n' : Int) (ys : List (List Int)) (e' : Int) (hn : xs.length ≤ 4611686018427387904) (hy : ∀ y ∈ xs, y.length ≤ 4611686018427387904) :
    Ev (fun k => laws_eqLearner.f k n xs e n' ys e') (decide (n = n' ∧ xs = ys ∧ e = e')) := by
  unfold laws_eqLearner.f
  by_cases c : n = n'
  · refine Ev.pos c (Ev.bind (eqIntSS_ev xs ys hn hy) ?_)
    by_cases d : xs = ys
    · refine Ev.pos (by simpa using d) ?_
      by_cases g : e = e'
      · exact Ev.pos g (Ev.is (by simp [c, d, g]))
      · exact Ev.neg g (Ev.is (by simp [g]))
    · exact Ev.neg (by simpa using d) (Ev.is (by simp [d]))
  · exact Ev.neg c (Ev.is (by simp [c]))
theorem eqLearner_refl (n : Int) (xs : List (List Int)) (e : Int) (hn : xs.length ≤ 1048576) (hy : ∀ y ∈ xs, y.length ≤ 1048576) : Ev (fun k => laws_eqLearner.f k n xs e n xs e) true :=
  Ev.to (eqLearner_ev n xs e n xs e (by omega) (fun y h => by have := hy y h; omega)) (by simp)
def isRank (l : List Int) (n : Int) : Bool := decide (1 ≤ n ∧ n ≤ 5 ∧ (l.length : Int) = n ∧ l.Nodup ∧ ∀ x ∈ l, 0 ≤ x ∧ x < n)
theorem l12Has_loop (xs : List Int) (v : Int) (hn : xs.length ≤ 4611686018427387904) : ∀ (d i : Nat), i + d = xs.length → Ev (fun k => spec_l12Has.l0 k xs v (i : Int)) (decide (v ∈ xs.drop i)) := by
  intro d
  induction d with
  | zero =>
    intro i hi
    refine Ev.step (fun k => spec_l12Has.l0.eq_2 _ _ _ _) (Ev.neg (by omega) (Ev.is ?_))
    rw [List.drop_of_length_le (by omega)]
    simp
  | succ d ih =>
    intro i hi
    have hlt : i < xs.length := by omega
    refine Ev.step (fun k => spec_l12Has.l0.eq_2 _ _ _ _) (Ev.pos (by omega) (Ev.pos (by omega) ?_))
    rw [wrapS (Nat.le_of_lt hlt) hn, rdN, drop_cons xs 0 i hlt]
    by_cases c : xs.getD i 0 = v
    · exact Ev.pos c (Ev.is (decide_eq_true (by rw [c]; exact List.mem_cons_self ..)).symm)
    · refine Ev.neg c (Ev.to (ih (i + 1) (by omega)) (decide_eq_decide.2 ⟨fun h => List.mem_cons_of_mem _ h, fun h => ?_⟩))
      rcases List.mem_cons.1 h with h | h
      · exact absurd h.symm c
      · exact h
theorem l12Has_ev (xs : List Int) (v : Int) (hn : xs.length ≤ 4611686018427387904) : Ev (fun k => spec_l12Has.f k xs v) (decide (v ∈ xs)) := by
  unfold spec_l12Has.f
  simpa using l12Has_loop xs v hn xs.length 0 (by omega)
theorem l1In_ev (a b c : Int) : Ev (fun _ => spec_l1In.f a b c) (decide (b ≤ a ∧ a ≤ c)) := by
  refine Ev.flat ?_
  unfold spec_l1In.f
  by_cases h : b ≤ a <;> simp [h]
theorem within_ev (a b c : Int) : Ev (fun _ => impl_within.f a b c) (decide (b ≤ a ∧ a ≤ c)) := by
  refine Ev.flat ?_
  unfold impl_within.f
  by_cases h : b ≤ a <;> simp [h]
theorem specIsRanking_loop (l : List Int) (n : Int) (hn : l.length ≤ 4611686018427387904) : ∀ (d i : Nat), i + d = l.length → (l.take i).Nodup → (∀ x ∈ l.take i, 0 ≤ x ∧ x < n) → Ev (fun k => spec_IsRanking.l0 k l n (i : Int)) (isRank l n) := by
  intro d
  induction d with
  | zero =>
    intro i hi hd hx
    rw [List.take_of_length_le (by omega)] at hd hx
    refine Ev.step (fun k => spec_IsRanking.l0.eq_2 _ _ _ _) (Ev.neg (by omega) (Ev.bind (l1In_ev _ _ _) ?_))
    by_cases h : 1 ≤ n ∧ n ≤ 5
    · refine Ev.pos (by simpa using h) (Ev.is ?_)
      unfold isRank
      by_cases e : (l.length : Int) = n
      · rw [decide_eq_true ⟨h.1, h.2, e, hd, hx⟩]; simpa using e
      · rw [decide_eq_false (fun z => e z.2.2.1)]; simpa using e
    · refine Ev.neg (by simpa using h) (Ev.is ?_)
      unfold isRank
      rw [decide_eq_false (fun z => h ⟨z.1, z.2.1⟩)]
  | succ d ih =>
    intro i hi hd hx
    have hlt : i < l.length := by omega
    refine Ev.step (fun k => spec_IsRanking.l0.eq_2 _ _ _ _) (Ev.pos (by omega) (Ev.pos (by omega) ?_))
    rw [wrapS (Nat.le_of_lt hlt) hn, rdN, Int.toNat_natCast]
    have no : ∀ {p : Prop}, ¬ p → (isRank l n = true → p) → Ev (fun _ => some false) (isRank l n) := fun hp k => Ev.is (by
      cases e : isRank l n with
      | false => rfl
      | true => exact absurd (k e) hp)
    by_cases c : l.getD i 0 < 0
    · exact Ev.pos c (no (p := 0 ≤ l.getD i 0) (by omega) (fun h => ((of_decide_eq_true h).2.2.2.2 _ (mem_getD l 0 i hlt)).1))
    · refine Ev.neg c ?_
      by_cases c' : l.getD i 0 ≥ n
      · exact Ev.pos c' (no (p := l.getD i 0 < n) (by omega) (fun h => ((of_decide_eq_true h).2.2.2.2 _ (mem_getD l 0 i hlt)).2))
      · refine Ev.neg c' (Ev.pos (by omega) (Ev.bind (l12Has_ev _ _ (by rw [List.length_take]; omega)) ?_))
        have hnd : l.Nodup → ¬ l.getD i 0 ∈ l.take i := fun h hm => by
          have := h.sublist (List.take_sublist (i + 1) l)
          rw [take_succ' l 0 i hlt, List.nodup_append] at this
          exact this.2.2 _ hm _ (List.mem_singleton.2 rfl) rfl
        by_cases c2 : l.getD i 0 ∈ l.take i
        · exact Ev.pos (decide_eq_true c2) (no (p := ¬ l.getD i 0 ∈ l.take i) (fun h => h c2) (fun h => hnd (of_decide_eq_true h).2.2.2.1))
        · refine Ev.neg (by simpa using c2) (ih (i + 1) (by omega) ?_ ?_)
          · rw [take_succ' l 0 i hlt, List.nodup_append]
            exact ⟨hd, by simp, fun a ha b hb e => c2 (by rw [List.mem_singleton.1 hb] at e; rw [← e]; exact ha)⟩
          · rw [take_succ' l 0 i hlt]
            intro x hm
            rcases List.mem_append.1 hm with hm | hm
            · exact hx x hm
            · rw [List.mem_singleton.1 hm]; exact ⟨by omega, by omega⟩
theorem specIsRanking_ev (l : List Int) (n : Int) (hn : l.length ≤ 4611686018427387904) : Ev (fun k => spec_IsRanking.f k l n) (isRank l n) :=
  specIsRanking_loop l n hn l.length 0 (by omega) (by simp) (fun _ h => by cases h)
theorem isStrict_ev (m : List Int) (n : Int) (hm : m.length ≤ 4611686018427387904) (hn : 1 ≤ n ∧ n ≤ 4611686018427387904) (b : Bool) (hb : b = true ↔ (∀ j, 0 ≤ j → j < m.length → (0 ≤ m.getD j 0 ∧ m.getD j 0 < n) ∧ (0 < j → m.getD (j - 1) 0 < m.getD j 0))) : Ev (fun k => impl_isStrict.f k m n) b := by
  unfold impl_isStrict.f
  refine all_loop (fun k i => impl_isStrict.l0 k m n m (m.length : Int) i) m.length (fun j => (0 ≤ m.getD j 0 ∧ m.getD j 0 < n) ∧ (0 < j → m.getD (j - 1) 0 < m.getD j 0)) true (fun i hi r h h' => ?_) (Ev.step (fun k => impl_isStrict.l0.eq_2 _ _ _ _ _ _) (Ev.neg (by omega) (Ev.now _))) m.length 0 (by omega) b (hb.trans ⟨fun h => ⟨h, rfl⟩, fun h => h.1⟩)
  refine Ev.step (fun k => impl_isStrict.l0.eq_2 _ _ _ _ _ _) (Ev.pos (by omega) (Ev.pos (by omega) (Ev.pos (by omega) (Ev.bind (within_ev _ _ _) ?_))))
  rw [wrapS (Nat.le_of_lt hi) hm, wrapI (n - 1) (by omega), rdN]
  by_cases c : 0 ≤ m.getD i 0 ∧ m.getD i 0 < n
  · refine Ev.pos (decide_eq_true ⟨c.1, by omega⟩) ?_
    by_cases c0 : 0 < i
    · have e : wrap64 ((i : Int) - 1) = ((i - 1 : Nat) : Int) := by rw [wrapI _ (by omega)]; omega
      refine Ev.pos (by omega) ?_
      rw [e]
      refine Ev.pos (by omega) (Ev.pos (by omega) ?_)
      rw [rdN]
      by_cases c1 : m.getD i 0 ≤ m.getD (i - 1) 0
      · exact Ev.pos c1 (Ev.is (h' (fun z => by have := z.2 c0; omega)).symm)
      · exact Ev.neg c1 (h ⟨c, fun _ => by omega⟩)
    · exact Ev.neg (by omega) (h ⟨c, fun z => absurd z c0⟩)
  · exact Ev.neg (by simp only [decide_eq_true_eq]; omega) (Ev.is (h' (fun z => c z.1)).symm)
theorem sorted_strict (l : List Int) : (∀ j, 0 < j → j < l.length → (l.mergeSort (fun x y => decide (x ≤ y))).getD (j - 1) 0 < (l.mergeSort (fun x y => decide (x ≤ y))).getD j 0) ↔ l.Nodup := by
  have hp := List.mergeSort_perm l (fun x y => decide (x ≤ y))
  have hs := List.pairwise_mergeSort (le := fun x y : Int => decide (x ≤ y)) (fun a b c h1 h2 => by simp only [decide_eq_true_eq] at *; omega) (fun a b => by simp only [Bool.or_eq_true, decide_eq_true_eq]; omega) l
  have hlen := hp.length_eq
  rw [← hp.nodup_iff]
  generalize hm : l.mergeSort (fun x y => decide (x ≤ y)) = m at *
  rw [List.pairwise_iff_getElem] at hs
  simp only [decide_eq_true_eq] at hs
  unfold List.Nodup
  rw [List.pairwise_iff_getElem]
  constructor
  · intro h i j hi hj hij e
    have h1 := h j (by omega) (by omega)
    rw [getD_at _ _ _ hj, getD_at _ _ _ (show j - 1 < m.length by omega)] at h1
    rcases Nat.lt_or_ge i (j - 1) with h2 | h2
    · have := hs i (j - 1) hi (by omega) h2; omega
    · obtain rfl : i = j - 1 := by omega
      omega
  · intro h j h0 hj
    have hj' : j < m.length := by omega
    have h1 := hs (j - 1) j (by omega) hj' (by omega)
    have h2 := h (j - 1) j (by omega) hj' (by omega)
    rw [getD_at _ _ _ hj', getD_at _ _ _ (show j - 1 < m.length by omega)]
    omega
theorem implIsRanking_ev (l : List Int) (n : Int) : Ev (fun k => impl_IsRanking.f k l n) (isRank l n) := by
  unfold impl_IsRanking.f
  refine Ev.bind (within_ev _ _ _) ?_
  by_cases h : 1 ≤ n ∧ n ≤ 5
  · refine Ev.pos (by simpa using h) ?_
    by_cases e : (l.length : Int) = n
    · refine Ev.pos e (isStrict_ev _ n (by rw [List.length_mergeSort]; omega) (by omega) _ ?_)
      unfold isRank
      rw [decide_eq_true_eq, List.length_mergeSort]
      constructor
      · rintro ⟨_, _, _, hd, hx⟩ j _ hj
        exact ⟨hx _ (List.mem_mergeSort.1 (mem_getD _ 0 j (by rw [List.length_mergeSort]; exact hj))), fun h0 => (sorted_strict l).2 hd j h0 hj⟩
      · intro H
        refine ⟨h.1, h.2, e, (sorted_strict l).1 (fun j h0 hj => (H j (by omega) hj).2 h0), fun x hx => ?_⟩
        obtain ⟨j, hj, rfl⟩ := List.getElem_of_mem (List.mem_mergeSort (le := fun x y : Int => decide (x ≤ y)).2 hx)
        have := (H j (by omega) (by rw [List.length_mergeSort] at hj; exact hj)).1
        rwa [getD_at _ _ _ hj] at this
    · refine Ev.neg e (Ev.is ?_)
      unfold isRank
      rw [decide_eq_false (fun z => e z.2.2.1)]
  · refine Ev.neg (by simpa using h) (Ev.is ?_)
    unfold isRank
    rw [decide_eq_false (fun z => h ⟨z.1, z.2.1⟩)]
def areStrata (xs : List (List Int)) (n : Int) : Bool := decide (∀ y ∈ xs, y ≠ []) && isRank xs.flatten n
theorem flatten_len (xs : List (List Int)) (m : Nat) (h : ∀ y ∈ xs, y.length ≤ m) : xs.flatten.length ≤ xs.length * m := by
  induction xs with
  | nil => simp
  | cons y ys ih =>
    rw [List.flatten_cons, List.length_append, List.length_cons, Nat.succ_mul]
    have := ih (fun z hz => h z (List.mem_cons_of_mem _ hz))
    have := h y (List.mem_cons_self ..)
    omega
theorem take_flatten (xs : List (List Int)) (i : Nat) (h : i < xs.length) : (xs.take (i + 1)).flatten = (xs.take i).flatten ++ xs.getD i [] := by
  rw [take_succ' xs [] i h, List.flatten_append]; simp
theorem sub_flatten (xs : List (List Int)) (i : Nat) : (xs.take i).flatten.length ≤ xs.flatten.length := by
  have h : xs.flatten = (xs.take i).flatten ++ (xs.drop i).flatten := by rw [← List.flatten_append, List.take_append_drop]
  rw [h, List.length_append]; omega
theorem areStrata_no (xs : List (List Int)) (n : Int) (i : Nat) (h : i < xs.length) (e : (xs.getD i []).length = 0) : areStrata xs n = false := by
  unfold areStrata
  rw [decide_eq_false (fun z => z _ (mem_getD xs [] i h) (List.eq_nil_of_length_eq_zero e)), Bool.false_and]
theorem specAreStrata_loop (xs : List (List Int)) (n : Int) (hn : xs.length ≤ 4611686018427387904) (hf : xs.flatten.length < 17592186044416) : ∀ (d i : Nat), i + d = xs.length → (∀ y ∈ xs.take i, y ≠ []) →
    Ev (fun k => spec_AreStrata.l0 k xs n (xs.take i).flatten (i : Int)) (areStrata xs n) := by
  intro d
  induction d with
  | zero =>
    intro i hi hy
    rw [List.take_of_length_le (by omega)] at *
    refine Ev.step (fun k => spec_AreStrata.l0.eq_2 _ _ _ _ _) (Ev.neg (by omega) (Ev.bind (specIsRanking_ev _ _ (by omega)) (Ev.is ?_)))
    unfold areStrata
    rw [decide_eq_true hy, Bool.true_and]
  | succ d ih =>
    intro i hi hy
    have hlt : i < xs.length := by omega
    have hs := sub_flatten xs (i + 1)
    rw [take_flatten xs i hlt, List.length_append] at hs
    refine Ev.step (fun k => spec_AreStrata.l0.eq_2 _ _ _ _ _) (Ev.pos (by omega) (Ev.pos (by omega) ?_))
    rw [wrapS (Nat.le_of_lt hlt) hn, show rd_L1 xs (i : Int) = xs.getD i [] from rfl]
    by_cases c : (xs.getD i []).length = 0
    · exact Ev.pos (by omega) (Ev.is (areStrata_no xs n i hlt c).symm)
    · refine Ev.neg (by omega) (Ev.pos (by omega) ?_)
      rw [← take_flatten xs i hlt]
      refine ih (i + 1) (by omega) (fun y hm => ?_)
      rw [take_succ' xs [] i hlt] at hm
      rcases List.mem_append.1 hm with hm | hm
      · exact hy y hm
      · rw [List.mem_singleton.1 hm]; exact fun z => c (by rw [z]; rfl)
theorem specAreStrata_ev (xs : List (List Int)) (n : Int) (hn : xs.length ≤ 4611686018427387904) (hf : xs.flatten.length < 17592186044416) : Ev (fun k => spec_AreStrata.f k xs n) (areStrata xs n) := by
  have := specAreStrata_loop xs n hn hf xs.length 0 (by omega) (fun _ h => by cases h)
  unfold spec_AreStrata.f
  simpa using this
theorem concat_l1 (xs : List (List Int)) (hn : xs.length ≤ 4611686018427387904) (hf : xs.flatten.length < 17592186044416) : ∀ (d i : Nat), i + d = xs.length →
    Ev (fun k => slices_Concat_int_int.l1 k (xs.take i).flatten xs (xs.length : Int) (i : Int)) xs.flatten := by
  intro d
  induction d with
  | zero =>
    intro i hi
    rw [List.take_of_length_le (by omega)]
    exact Ev.step (fun k => slices_Concat_int_int.l1.eq_2 _ _ _ _ _) (Ev.neg (by omega) (Ev.now _))
  | succ d ih =>
    intro i hi
    have hlt : i < xs.length := by omega
    have hs := sub_flatten xs (i + 1)
    rw [take_flatten xs i hlt, List.length_append] at hs
    refine Ev.step (fun k => slices_Concat_int_int.l1.eq_2 _ _ _ _ _) (Ev.pos (by omega) (Ev.pos (by omega) (Ev.pos (by omega) ?_)))
    rw [wrapS (Nat.le_of_lt hlt) hn, show rd_L1 xs (i : Int) = xs.getD i [] from rfl]
    refine Ev.pos (by omega) ?_
    rw [← take_flatten xs i hlt]
    exact ih (i + 1) (by omega)
theorem concat_l0 (xs : List (List Int)) (hn : xs.length ≤ 4611686018427387904) (hf : xs.flatten.length < 17592186044416) : ∀ (d i : Nat), i + d = xs.length →
    Ev (fun k => slices_Concat_int_int.l0 k xs (((xs.take i).flatten.length : Nat) : Int) xs (xs.length : Int) (i : Int)) xs.flatten := by
  intro d
  induction d with
  | zero =>
    intro i hi
    rw [List.take_of_length_le (by omega)]
    refine Ev.step (fun k => slices_Concat_int_int.l0.eq_2 _ _ _ _ _ _) (Ev.neg (by omega) (Ev.bind (a := []) (Ev.flat ?_) ?_))
    · unfold v_slices_GrowNil_int.f; rw [if_pos (by omega)]
    · have := concat_l1 xs hn hf xs.length 0 (by omega)
      simpa using this
  | succ d ih =>
    intro i hi
    have hlt : i < xs.length := by omega
    have hs := sub_flatten xs (i + 1)
    have hl := take_flatten xs i hlt
    have hl2 : (xs.take (i + 1)).flatten.length = (xs.take i).flatten.length + (xs.getD i []).length := by rw [hl, List.length_append]
    have e : wrap64 ((((xs.take i).flatten.length : Nat) : Int) + ((xs.getD i []).length : Int)) = (((xs.take (i + 1)).flatten.length : Nat) : Int) := by rw [wrapI _ (by omega)]; omega
    refine Ev.step (fun k => slices_Concat_int_int.l0.eq_2 _ _ _ _ _ _) (Ev.pos (by omega) (Ev.pos (by omega) (Ev.pos (by omega) ?_)))
    rw [wrapS (Nat.le_of_lt hlt) hn, show rd_L1 xs (i : Int) = xs.getD i [] from rfl, e]
    exact Ev.neg (by omega) (ih (i + 1) (by omega))
theorem concat_ev (xs : List (List Int)) (hn : xs.length ≤ 4611686018427387904) (hf : xs.flatten.length < 17592186044416) : Ev (fun k => slices_Concat_int_int.f k xs) xs.flatten := by
  have := concat_l0 xs hn hf xs.length 0 (by omega)
  unfold slices_Concat_int_int.f
  simpa using this
theorem implAreStrata_loop (xs : List (List Int)) (n : Int) (hn : xs.length ≤ 4611686018427387904) (hf : xs.flatten.length < 17592186044416) : ∀ (d i : Nat), i + d = xs.length → (∀ y ∈ xs.take i, y ≠ []) →
    Ev (fun k => impl_AreStrata.l0 k xs n xs (xs.length : Int) (i : Int)) (areStrata xs n) := by
  intro d
  induction d with
  | zero =>
    intro i hi hy
    rw [List.take_of_length_le (by omega)] at *
    refine Ev.step (fun k => impl_AreStrata.l0.eq_2 _ _ _ _ _ _) (Ev.neg (by omega) (Ev.bind (concat_ev xs hn hf) (Ev.bind (implIsRanking_ev _ _) (Ev.is ?_))))
    unfold areStrata
    rw [decide_eq_true hy, Bool.true_and]
  | succ d ih =>
    intro i hi hy
    have hlt : i < xs.length := by omega
    refine Ev.step (fun k => impl_AreStrata.l0.eq_2 _ _ _ _ _ _) (Ev.pos (by omega) (Ev.pos (by omega) (Ev.pos (by omega) ?_)))
    rw [wrapS (Nat.le_of_lt hlt) hn, show rd_L1 xs (i : Int) = xs.getD i [] from rfl]
    by_cases c : (xs.getD i []).length = 0
    · exact Ev.pos (by omega) (Ev.is (areStrata_no xs n i hlt c).symm)
    · refine Ev.neg (by omega) (ih (i + 1) (by omega) (fun y hm => ?_))
      rw [take_succ' xs [] i hlt] at hm
      rcases List.mem_append.1 hm with hm | hm
      · exact hy y hm
      · rw [List.mem_singleton.1 hm]; exact fun z => c (by rw [z]; rfl)
theorem implAreStrata_ev (xs : List (List Int)) (n : Int) (hn : xs.length ≤ 4611686018427387904) (hf : xs.flatten.length < 17592186044416) : Ev (fun k => impl_AreStrata.f k xs n) (areStrata xs n) := by
  have := implAreStrata_loop xs n hn hf xs.length 0 (by omega) (fun _ h => by cases h)
  unfold impl_AreStrata.f
  simpa using this
def isRow (m : List Int) (n : Int) : Bool := decide ((∀ x ∈ m, -1 ≤ x ∧ x ≤ 1) ∧ 1 ≤ n ∧ n ≤ 5 ∧ (m.length : Int) = n)
theorem isRow_end (m : List Int) (n : Int) (ht : ∀ x ∈ m, -1 ≤ x ∧ x ≤ 1) (g : Nat → Option Bool) (hg : ∀ k, g k = (if decide (1 ≤ n ∧ n ≤ 5) = true then (some ((m.length : Int) == n)) else (some false))) : Ev g (isRow m n) := by
  refine Ev.congr hg ?_
  by_cases h : 1 ≤ n ∧ n ≤ 5
  · refine Ev.pos (by simpa using h) (Ev.is ?_)
    unfold isRow
    by_cases e : (m.length : Int) = n
    · rw [decide_eq_true ⟨ht, h.1, h.2, e⟩]; simpa using e
    · rw [decide_eq_false (fun z => e z.2.2.2)]; simpa using e
  · refine Ev.neg (by simpa using h) (Ev.is ?_)
    unfold isRow
    rw [decide_eq_false (fun z => h ⟨z.2.1, z.2.2.1⟩)]
theorem specIsRow_loop (m : List Int) (n : Int) (hn : m.length ≤ 4611686018427387904) : ∀ (d i : Nat), i + d = m.length → (∀ x ∈ m.take i, -1 ≤ x ∧ x ≤ 1) → Ev (fun k => spec_IsRow.l0 k n (i : Int) m) (isRow m n) := by
  intro d
  induction d with
  | zero =>
    intro i hi ht
    rw [List.take_of_length_le (by omega)] at ht
    exact Ev.step (fun k => spec_IsRow.l0.eq_2 _ _ _ _) (Ev.neg (by omega) (Ev.bind (l1In_ev _ _ _) (isRow_end m n ht _ (fun _ => rfl))))
  | succ d ih =>
    intro i hi ht
    have hlt : i < m.length := by omega
    refine Ev.step (fun k => spec_IsRow.l0.eq_2 _ _ _ _) (Ev.pos (by omega) (Ev.pos (by omega) (Ev.bind (l1In_ev _ _ _) ?_)))
    rw [wrapS (Nat.le_of_lt hlt) hn, rdN]
    by_cases h : -1 ≤ m.getD i 0 ∧ m.getD i 0 ≤ 1
    · refine Ev.pos (by simpa using h) (ih (i + 1) (by omega) ?_)
      rw [take_succ' m 0 i hlt]
      intro x hx
      rcases List.mem_append.1 hx with hx | hx
      · exact ht x hx
      · rw [List.mem_singleton.1 hx]; exact h
    · refine Ev.neg (by simpa using h) (Ev.is ?_)
      unfold isRow
      rw [decide_eq_false (fun z => h (z.1 _ (mem_getD m 0 i hlt)))]
theorem specIsRow_ev (m : List Int) (n : Int) (hn : m.length ≤ 4611686018427387904) : Ev (fun k => spec_IsRow.f k m n) (isRow m n) :=
  specIsRow_loop m n hn m.length 0 (by omega) (fun _ h => by cases h)
theorem implIsRow_loop (m : List Int) (n : Int) (hn : m.length ≤ 4611686018427387904) : ∀ (d i : Nat), i + d = m.length → (∀ x ∈ m.take i, -1 ≤ x ∧ x ≤ 1) → Ev (fun k => impl_IsRow.l0 k n m (m.length : Int) (i : Int) m) (isRow m n) := by
  intro d
  induction d with
  | zero =>
    intro i hi ht
    rw [List.take_of_length_le (by omega)] at ht
    exact Ev.step (fun k => impl_IsRow.l0.eq_2 _ _ _ _ _ _) (Ev.neg (by omega) (Ev.bind (within_ev _ _ _) (isRow_end m n ht _ (fun _ => rfl))))
  | succ d ih =>
    intro i hi ht
    have hlt : i < m.length := by omega
    refine Ev.step (fun k => impl_IsRow.l0.eq_2 _ _ _ _ _ _) (Ev.pos (by omega) (Ev.pos (by omega) (Ev.pos (by omega) (Ev.bind (within_ev _ _ _) ?_))))
    rw [wrapS (Nat.le_of_lt hlt) hn, rdN]
    by_cases h : -1 ≤ m.getD i 0 ∧ m.getD i 0 ≤ 1
    · refine Ev.pos (by simpa using h) (ih (i + 1) (by omega) ?_)
      rw [take_succ' m 0 i hlt]
      intro x hx
      rcases List.mem_append.1 hx with hx | hx
      · exact ht x hx
      · rw [List.mem_singleton.1 hx]; exact h
    · refine Ev.neg (by simpa using h) (Ev.is ?_)
      unfold isRow
      rw [decide_eq_false (fun z => h (z.1 _ (mem_getD m 0 i hlt)))]
theorem implIsRow_ev (m : List Int) (n : Int) (hn : m.length ≤ 4611686018427387904) : Ev (fun k => impl_IsRow.f k m n) (isRow m n) :=
  implIsRow_loop m n hn m.length 0 (by omega) (fun _ h => by cases h)
def satIn (m : List Int) : List Int → Bool → Bool → Bool × Bool
  | [], w, l => (w, l)
  | k :: ks, w, l => satIn m ks (w || (m.getD k.toNat 0 == 1)) (l || (m.getD k.toNat 0 == -1))
def satOut (m : List Int) : List (List Int) → Bool
  | [] => true
  | own :: rest => if (satIn m own false false).1 = true ∨ (satIn m own false false).2 = true then !(satIn m own false false).2 else satOut m rest
def strataSat (xs : List (List Int)) (m : List Int) : Bool := areStrata xs (m.length : Int) && isRow m (m.length : Int) && satOut m xs
theorem rd_at (m : List Int) (x : Int) : rd m x = m.getD x.toNat 0 := rfl
theorem specSat_in (xs : List (List Int)) (m : List Int) (i : Nat) (hi : i < xs.length) (hn : (xs.getD i []).length ≤ 4611686018427387904) (hx : ∀ x ∈ xs.getD i [], 0 ≤ x ∧ x < (m.length : Int)) (r : Bool) : ∀ (d j : Nat) (w l : Bool), j + d = (xs.getD i []).length →
    ((satIn m ((xs.getD i []).drop j) w l).1 = true ∨ (satIn m ((xs.getD i []).drop j) w l).2 = true → r = !(satIn m ((xs.getD i []).drop j) w l).2) →
    (¬ ((satIn m ((xs.getD i []).drop j) w l).1 = true ∨ (satIn m ((xs.getD i []).drop j) w l).2 = true) → Ev (fun k => spec_StrataSatisfy.l0 k xs (wrap64 ((i : Int) + 1)) m) r) →
    Ev (fun k => spec_StrataSatisfy.l1 k xs (i : Int) w l (j : Int) m) r := by
  intro d
  induction d with
  | zero =>
    intro j w l hj h1 h2
    rw [List.drop_of_length_le (by omega), satIn] at h1 h2
    refine Ev.step (fun k => spec_StrataSatisfy.l1.eq_2 _ _ _ _ _ _ _) (Ev.pos (by omega) (Ev.pos (by omega) ?_))
    rw [show rd_L1 xs (i : Int) = xs.getD i [] from rfl]
    refine Ev.neg (by omega) ?_
    cases w with
    | true => exact Ev.pos rfl (Ev.is (h1 (.inl rfl)).symm)
    | false =>
      refine Ev.neg (by simp) ?_
      cases l with
      | true => exact Ev.pos rfl (Ev.is (h1 (.inr rfl)).symm)
      | false => exact Ev.neg (by simp) (h2 (by simp))
  | succ d ih =>
    intro j w l hj h1 h2
    have hlt : j < (xs.getD i []).length := by omega
    have hb := hx _ (mem_getD _ 0 j hlt)
    rw [drop_cons _ 0 j hlt, satIn] at h1 h2
    have hk := ih (j + 1) _ _ (by omega) h1 h2
    refine Ev.step (fun k => spec_StrataSatisfy.l1.eq_2 _ _ _ _ _ _ _) (Ev.pos (by omega) (Ev.pos (by omega) ?_))
    rw [show rd_L1 xs (i : Int) = xs.getD i [] from rfl, rdN, wrapS (Nat.le_of_lt hlt) hn, rd_at]
    refine Ev.pos (by omega) ?_
    cases w with
    | true =>
      refine Ev.pos rfl ?_
      cases l with
      | true => exact Ev.pos rfl hk
      | false => exact Ev.neg (by simp) (Ev.pos (by omega) (Ev.pos hb.1 (Ev.pos hb.2 hk)))
    | false =>
      refine Ev.neg (by simp) (Ev.pos (by omega) (Ev.pos hb.1 (Ev.pos hb.2 ?_)))
      cases l with
      | true => exact Ev.pos rfl hk
      | false => exact Ev.neg (by simp) hk
theorem specSat_out (xs : List (List Int)) (m : List Int) (hn : xs.length ≤ 4611686018427387904) (hy : ∀ y ∈ xs, y.length ≤ 4611686018427387904) (hx : ∀ y ∈ xs, ∀ x ∈ y, 0 ≤ x ∧ x < (m.length : Int)) : ∀ (d i : Nat), i + d = xs.length →
    Ev (fun k => spec_StrataSatisfy.l0 k xs (i : Int) m) (satOut m (xs.drop i)) := by
  intro d
  induction d with
  | zero =>
    intro i hi
    rw [List.drop_of_length_le (by omega)]
    exact Ev.step (fun k => spec_StrataSatisfy.l0.eq_2 _ _ _ _) (Ev.neg (by omega) (Ev.now _))
  | succ d ih =>
    intro i hi
    have hlt : i < xs.length := by omega
    have hm := mem_getD xs [] i hlt
    rw [drop_cons xs [] i hlt, satOut]
    refine Ev.step (fun k => spec_StrataSatisfy.l0.eq_2 _ _ _ _) (Ev.pos (by omega) ?_)
    refine specSat_in xs m i hlt (hy _ hm) (hx _ hm) _ (xs.getD i []).length 0 false false (by omega) ?_ ?_
    · rw [List.drop_zero]; intro h; rw [if_pos h]
    · rw [List.drop_zero]; intro h; rw [if_neg h, wrapS (Nat.le_of_lt hlt) hn]; exact ih (i + 1) (by omega)
theorem implSat_in (xs : List (List Int)) (m : List Int) (i : Nat) (own : List Int) (hn : own.length ≤ 4611686018427387904) (hx : ∀ x ∈ own, 0 ≤ x ∧ x < (m.length : Int)) (r : Bool) : ∀ (d j : Nat) (w l : Bool), j + d = own.length →
    ((satIn m (own.drop j) w l).1 = true ∨ (satIn m (own.drop j) w l).2 = true → r = !(satIn m (own.drop j) w l).2) →
    (¬ ((satIn m (own.drop j) w l).1 = true ∨ (satIn m (own.drop j) w l).2 = true) → Ev (fun k => impl_StrataSatisfy.l0 k xs (xs.length : Int) (wrap64 ((i : Int) + 1)) m) r) →
    Ev (fun k => impl_StrataSatisfy.l1 k w l xs (xs.length : Int) (i : Int) own (own.length : Int) (j : Int) m) r := by
  intro d
  induction d with
  | zero =>
    intro j w l hj h1 h2
    rw [List.drop_of_length_le (by omega), satIn] at h1 h2
    refine Ev.step (fun k => impl_StrataSatisfy.l1.eq_2 _ _ _ _ _ _ _ _ _ _) (Ev.neg (by omega) ?_)
    cases w with
    | true => exact Ev.pos rfl (Ev.is (h1 (.inl rfl)).symm)
    | false =>
      refine Ev.neg (by simp) ?_
      cases l with
      | true => exact Ev.pos rfl (Ev.is (h1 (.inr rfl)).symm)
      | false => exact Ev.neg (by simp) (h2 (by simp))
  | succ d ih =>
    intro j w l hj h1 h2
    have hlt : j < own.length := by omega
    have hb := hx _ (mem_getD _ 0 j hlt)
    rw [drop_cons _ 0 j hlt, satIn] at h1 h2
    have hk := ih (j + 1) _ _ (by omega) h1 h2
    refine Ev.step (fun k => impl_StrataSatisfy.l1.eq_2 _ _ _ _ _ _ _ _ _ _) (Ev.pos (by omega) (Ev.pos (by omega) (Ev.pos (by omega) ?_)))
    rw [rdN, wrapS (Nat.le_of_lt hlt) hn, rd_at]
    cases w with
    | true =>
      refine Ev.pos rfl ?_
      cases l with
      | true => exact Ev.pos rfl hk
      | false => exact Ev.neg (by simp) (Ev.pos hb.1 (Ev.pos hb.2 hk))
    | false =>
      refine Ev.neg (by simp) (Ev.pos hb.1 (Ev.pos hb.2 ?_))
      cases l with
      | true => exact Ev.pos rfl hk
      | false => exact Ev.neg (by simp) hk
theorem implSat_out (xs : List (List Int)) (m : List Int) (hn : xs.length ≤ 4611686018427387904) (hy : ∀ y ∈ xs, y.length ≤ 4611686018427387904) (hx : ∀ y ∈ xs, ∀ x ∈ y, 0 ≤ x ∧ x < (m.length : Int)) : ∀ (d i : Nat), i + d = xs.length →
    Ev (fun k => impl_StrataSatisfy.l0 k xs (xs.length : Int) (i : Int) m) (satOut m (xs.drop i)) := by
  intro d
  induction d with
  | zero =>
    intro i hi
    rw [List.drop_of_length_le (by omega)]
    exact Ev.step (fun k => impl_StrataSatisfy.l0.eq_2 _ _ _ _ _) (Ev.neg (by omega) (Ev.now _))
  | succ d ih =>
    intro i hi
    have hlt : i < xs.length := by omega
    have hm := mem_getD xs [] i hlt
    rw [drop_cons xs [] i hlt, satOut]
    refine Ev.step (fun k => impl_StrataSatisfy.l0.eq_2 _ _ _ _ _) (Ev.pos (by omega) (Ev.pos (by omega) (Ev.pos (by omega) ?_)))
    rw [show rd_L1 xs (i : Int) = xs.getD i [] from rfl]
    refine implSat_in xs m i (xs.getD i []) (hy _ hm) (hx _ hm) _ (xs.getD i []).length 0 false false (by omega) ?_ ?_
    · rw [List.drop_zero]; intro h; rw [if_pos h]
    · rw [List.drop_zero]; intro h; rw [if_neg h, wrapS (Nat.le_of_lt hlt) hn]; exact ih (i + 1) (by omega)
theorem strata_boundsR {xs : List (List Int)} {n : Int} (h : areStrata xs n = true) : ∀ y ∈ xs, ∀ x ∈ y, 0 ≤ x ∧ x < n := by
  unfold areStrata at h
  rw [Bool.and_eq_true] at h
  have H := of_decide_eq_true h.2
  exact fun y hy x hx => H.2.2.2.2 x (List.mem_flatten.2 ⟨y, hy, hx⟩)
theorem specStrataSatisfy_ev (xs : List (List Int)) (m : List Int) (hm : m.length ≤ 4611686018427387904) (hn : xs.length ≤ 4611686018427387904) (hy : ∀ y ∈ xs, y.length ≤ 4611686018427387904) (hf : xs.flatten.length < 17592186044416) : Ev (fun k => spec_StrataSatisfy.f k xs m) (strataSat xs m) := by
  unfold spec_StrataSatisfy.f strataSat
  refine Ev.bind (specAreStrata_ev xs _ hn hf) ?_
  by_cases c : areStrata xs (m.length : Int) = true
  · refine Ev.pos c (Ev.bind (specIsRow_ev m _ hm) (Ev.step (fun k => spec_StrataSatisfy.j0.eq_2 _ _ _ _) ?_))
    rw [c, Bool.true_and]
    cases c' : isRow m (m.length : Int) with
    | true => exact Ev.neg (by simp) (specSat_out xs m hn hy (strata_boundsR c) xs.length 0 (by omega))
    | false => exact Ev.pos rfl (Ev.now _)
  · refine Ev.neg c (Ev.step (fun k => spec_StrataSatisfy.j0.eq_2 _ _ _ _) (Ev.pos rfl (Ev.is ?_)))
    rw [show areStrata xs (m.length : Int) = false from by simpa using c]; rfl
theorem implStrataSatisfy_ev (xs : List (List Int)) (m : List Int) (hm : m.length ≤ 4611686018427387904) (hn : xs.length ≤ 4611686018427387904) (hy : ∀ y ∈ xs, y.length ≤ 4611686018427387904) (hf : xs.flatten.length < 17592186044416) : Ev (fun k => impl_StrataSatisfy.f k xs m) (strataSat xs m) := by
  unfold impl_StrataSatisfy.f strataSat impl_isAnyRow.f
  refine Ev.bind (Ev.bind (implIsRow_ev m _ hm) (Ev.now _)) ?_
  by_cases c' : isRow m (m.length : Int) = true
  · refine Ev.pos c' (Ev.bind (implAreStrata_ev xs _ hn hf) (Ev.step (fun k => impl_StrataSatisfy.j0.eq_2 _ _ _ _) ?_))
    rw [c', Bool.and_true]
    cases c : areStrata xs (m.length : Int) with
    | true => exact Ev.neg (by simp) (implSat_out xs m hn hy (strata_boundsR c) xs.length 0 (by omega))
    | false => exact Ev.pos rfl (Ev.now _)
  · refine Ev.neg c' (Ev.step (fun k => impl_StrataSatisfy.j0.eq_2 _ _ _ _) (Ev.pos rfl (Ev.is ?_)))
    rw [show isRow m (m.length : Int) = false from by simpa using c', Bool.and_false]; rfl
def isLearner (n : Int) (xs : List (List Int)) (e : Int) : Bool := areStrata xs n && decide (0 ≤ e ∧ e ≤ 1000)
theorem specIsLearner_ev (n : Int) (xs : List (List Int)) (e : Int) (hn : xs.length ≤ 4611686018427387904) (hf : xs.flatten.length < 17592186044416) : Ev (fun k => spec_IsLearner.f k n xs e) (isLearner n xs e) := by
  unfold spec_IsLearner.f isLearner
  refine Ev.bind (specAreStrata_ev xs n hn hf) ?_
  by_cases c : areStrata xs n = true
  · refine Ev.pos c (Ev.bind (l1In_ev _ _ _) (Ev.is ?_))
    rw [c, Bool.true_and]
  · refine Ev.neg c (Ev.is ?_)
    rw [show areStrata xs n = false from by simpa using c, Bool.false_and]
theorem implIsLearner_ev (n : Int) (xs : List (List Int)) (e : Int) (hn : xs.length ≤ 4611686018427387904) (hf : xs.flatten.length < 17592186044416) : Ev (fun k => impl_IsLearner.f k n xs e) (isLearner n xs e) := by
  unfold impl_IsLearner.f isLearner
  refine Ev.bind (implAreStrata_ev xs n hn hf) ?_
  by_cases c : areStrata xs n = true
  · refine Ev.pos c (Ev.bind (within_ev _ _ _) (Ev.is ?_))
    rw [c, Bool.true_and]
  · refine Ev.neg c (Ev.is ?_)
    rw [show areStrata xs n = false from by simpa using c, Bool.false_and]
abbrev LRw := S53
abbrev IRw := S57
deriving instance DecidableEq for S57
def toRw (y : LRw) : IRw := ⟨y.f0⟩
theorem szRow_ev (y : LRw) (hy : y.f0.length ≤ maxLen) (a : Int) (h0 : 0 ≤ a) (h1 : a ≤ 1048576) : ∃ r, Ev (fun _ => laws_szRow.f y.f0 a) r ∧ -1 ≤ r ∧ r ≤ a ∧ (0 ≤ r → y.f0.length ≤ 1048576) := by
  obtain ⟨r, hr, h1, h2, h3⟩ := szIntS_ev y.f0 hy a h0 h1
  unfold laws_szRow.f
  by_cases c : r < 0
  · exact ⟨-1, Ev.bind hr (Ev.pos c (Ev.now _)), by omega, by omega, fun h => by omega⟩
  · exact ⟨r, Ev.bind hr (Ev.neg c (Ev.now _)), h1, h2, h3⟩
theorem szRowS_ev (xs : List LRw) (hn : xs.length ≤ maxLen) (hy : ∀ y ∈ xs, y.f0.length ≤ maxLen) (a : Int) (h0 : 0 ≤ a) (h1 : a ≤ 1048576) :
    ∃ r, Ev (fun k => laws_szRowS.f k xs a) r ∧ -1 ≤ r ∧ r ≤ a ∧ (0 ≤ r → xs.length ≤ 1048576 ∧ ∀ y ∈ xs, y.f0.length ≤ 1048576) :=
  sz_slice (fun k a => laws_szRowS.f k xs a) (fun k left i => laws_szRowS.l0 k xs left i) xs (fun y => y.f0.length ≤ 1048576) hn (fun _ _ => rfl)
    (fun hl left h0 h1 => sz_loop (fun k left i => laws_szRowS.l0 k xs left i) (fun _ (y : LRw) left => laws_szRow.f y.f0 left) xs z53 (fun y => y.f0.length ≤ 1048576) hl (fun k left i => by rw [laws_szRowS.l0.eq_2, show rd_T53 xs (i : Int) = xs.getD i z53 from rfl]) (fun y hm left h0 h1 => szRow_ev y (hy y hm) left h0 h1) xs.length 0 left (by omega) h0 h1) a h0 h1
theorem toRowS_ev (xs : List LRw) (hn : xs.length ≤ 1048576) (hy : ∀ y ∈ xs, y.f0.length ≤ 1048576) : Ev (fun k => laws_toRowS.f k xs) (xs.map toRw) := by
  unfold laws_toRowS.f
  refine Ev.pos (by omega) (Ev.pos (by omega) ?_)
  rw [Int.toNat_natCast]
  exact to_loop (fun k ys i => laws_toRowS.l0 k xs ys i) (fun k y => laws_toRow.f k y.f0) (fun t => (⟨t⟩ : IRw)) (fun y => y.f0) xs z53 (by omega) (fun k ys i => laws_toRowS.l0.eq_2 _ _ _ _)
    (fun y hm => Ev.bind (toIntS_ev y.f0 (by have := hy y hm; omega)) (Ev.now _)) xs.length 0 (List.replicate xs.length z57) (by omega) (by rw [List.length_replicate]) rfl
theorem eqRow_ev (a b : IRw) (hn : a.f0.length ≤ 4611686018427387904) : Ev (fun k => laws_eqRow.f k a.f0 b.f0) (decide (a = b)) := by
  unfold laws_eqRow.f
  refine Ev.bind (eqIntS_ev _ _ hn) ?_
  obtain ⟨a0⟩ := a
  obtain ⟨b0⟩ := b
  by_cases c : a0 = b0
  · exact Ev.pos (decide_eq_true c) (Ev.is (decide_eq_true (by rw [c])).symm)
  · exact Ev.neg (by simpa using c) (Ev.is (decide_eq_false (fun h => c (by injection h))).symm)
theorem eqRowS_ev (xs ys : List IRw) (hn : xs.length ≤ 4611686018427387904) (hy : ∀ y ∈ xs, y.f0.length ≤ 4611686018427387904) : Ev (fun k => laws_eqRowS.f k xs ys) (decide (xs = ys)) :=
  eq_slice _ (fun k i => laws_eqRowS.l0 k xs ys i) xs ys (fun _ => rfl)
    (fun e => eq_loop _ (fun k a b => laws_eqRow.f k a.f0 b.f0) xs ys z57 e hn (fun k i => laws_eqRowS.l0.eq_2 _ _ _ _) (fun a ha b _ => eqRow_ev a b (hy a ha)) xs.length 0 (by omega))
def hasLearned (n : Int) (xs : List (List Int)) (e : Int) (l : List IRw) : Bool := decide (∀ j, j < l.length → strataSat xs (l.getD j z57).f0 = true) && isLearner n xs e
theorem hasLearned_iff (n : Int) (xs : List (List Int)) (e : Int) (l : List IRw) : hasLearned n xs e l = true ↔ (∀ j, 0 ≤ j → j < l.length → strataSat xs (l.getD j z57).f0 = true) ∧ isLearner n xs e = true := by
  unfold hasLearned
  rw [Bool.and_eq_true, decide_eq_true_eq]
  exact ⟨fun h => ⟨fun j _ h2 => h.1 j h2, h.2⟩, fun h => ⟨fun j h2 => h.1 j (by omega) h2, h.2⟩⟩
theorem specHasLearned_ev (n : Int) (xs : List (List Int)) (e : Int) (l : List IRw) (hl : l.length ≤ 4611686018427387904) (hm : ∀ y ∈ l, y.f0.length ≤ 4611686018427387904) (hn : xs.length ≤ 4611686018427387904) (hy : ∀ y ∈ xs, y.length ≤ 4611686018427387904) (hf : xs.flatten.length < 17592186044416) : Ev (fun k => spec_HasLearned.f k n xs e l) (hasLearned n xs e l) := by
  unfold spec_HasLearned.f
  refine all_from (fun k i => spec_HasLearned.l0 k l i n xs e) 0 l.length (fun j => strataSat xs (l.getD j z57).f0 = true) (isLearner n xs e) (fun i _ hi r h h' => ?_) (Ev.step (fun k => spec_HasLearned.l0.eq_2 _ _ _ _ _ _) (Ev.neg (by omega) (Ev.bind (specIsLearner_ev n xs e hn hf) (Ev.now _)))) l.length 0 (by omega) (by omega) _ (hasLearned_iff n xs e l)
  refine Ev.step (fun k => spec_HasLearned.l0.eq_2 _ _ _ _ _ _) (Ev.pos (by omega) (Ev.pos (by omega) ?_))
  rw [show rd_T57 l (i : Int) = l.getD i z57 from rfl, wrapS (Nat.le_of_lt hi) hl]
  refine Ev.bind (specStrataSatisfy_ev xs _ (hm _ (mem_getD l _ i hi)) hn hy hf) ?_
  by_cases c : strataSat xs (l.getD i z57).f0 = true
  · exact Ev.pos c (h c)
  · exact Ev.neg c (Ev.is (h' c).symm)
theorem implHasLearned_ev (n : Int) (xs : List (List Int)) (e : Int) (l : List IRw) (hl : l.length ≤ 4611686018427387904) (hm : ∀ y ∈ l, y.f0.length ≤ 4611686018427387904) (hn : xs.length ≤ 4611686018427387904) (hy : ∀ y ∈ xs, y.length ≤ 4611686018427387904) (hf : xs.flatten.length < 17592186044416) : Ev (fun k => impl_HasLearned.f k n xs e l) (hasLearned n xs e l) := by
  unfold impl_HasLearned.f
  refine all_from (fun k i => impl_HasLearned.l0 k l (l.length : Int) i n xs e) 0 l.length (fun j => strataSat xs (l.getD j z57).f0 = true) (isLearner n xs e) (fun i _ hi r h h' => ?_) (Ev.step (fun k => impl_HasLearned.l0.eq_2 _ _ _ _ _ _ _) (Ev.neg (by omega) (Ev.bind (implIsLearner_ev n xs e hn hf) (Ev.now _)))) l.length 0 (by omega) (by omega) _ (hasLearned_iff n xs e l)
  refine Ev.step (fun k => impl_HasLearned.l0.eq_2 _ _ _ _ _ _ _) (Ev.pos (by omega) (Ev.pos (by omega) (Ev.pos (by omega) ?_)))
  rw [show rd_T57 l (i : Int) = l.getD i z57 from rfl, wrapS (Nat.le_of_lt hi) hl]
  refine Ev.bind (implStrataSatisfy_ev xs _ (hm _ (mem_getD l _ i hi)) hn hy hf) ?_
  by_cases c : strataSat xs (l.getD i z57).f0 = true
  · exact Ev.pos c (h c)
  · exact Ev.neg c (Ev.is (h' c).symm)
theorem FnExactHasLearned (a0_0 : Int) (l0_1 : List (List (Int))) (a0_2 : Int) (l1 : List (S53)) (h0_0 : (Lit.int .i64 a0_0).wf = true) (h0_1 : (l0_1.length ≤ maxLen ∧ ∀ y1 ∈ l0_1, (y1.length ≤ maxLen ∧ ∀ y2 ∈ y1, (Lit.int .i64 y2).wf = true))) (h0_2 : (Lit.int .i64 a0_2).wf = true) (h1 : (l1.length ≤ maxLen ∧ ∀ y3 ∈ l1, ((y3.f0.length ≤ maxLen ∧ ∀ y4 ∈ y3.f0, (Lit.int .i64 y4).wf = true)))) : ∃ k, laws_FnExactHasLearned.f k a0_0 l0_1 a0_2 l1 = some true := by
  refine Ev.rounds (g := fun k => laws_FnExactHasLearned.f k a0_0 l0_1 a0_2 l1) ?_
  unfold laws_FnExactHasLearned.f
  obtain ⟨r, hr, hr1, hr2, hg⟩ := szLearner_ev a0_0 l0_1 a0_2 h0_1.1 (fun y h => (h0_1.2 y h).1) 1048576 (by omega) (by omega)
  refine Ev.bind hr ?_
  by_cases c : r < 0
  · exact Ev.pos c (Ev.now _)
  refine Ev.neg c ?_
  obtain ⟨s, hs, hs1, hs2, hg'⟩ := szRowS_ev l1 h1.1 (fun y h => (h1.2 y h).1) r (by omega) (by omega)
  refine Ev.bind hs ?_
  by_cases c' : s < 0
  · exact Ev.pos c' (Ev.now _)
  refine Ev.neg c' ?_
  obtain ⟨hn, hy⟩ := hg (by omega)
  obtain ⟨hn', hy'⟩ := hg' (by omega)
  have hf : l0_1.flatten.length < 17592186044416 := by
    have h1 := flatten_len l0_1 1048576 hy
    have h2 : l0_1.length * 1048576 ≤ 1048576 * 1048576 := Nat.mul_le_mul_right _ hn
    omega
  have hy2 : ∀ y ∈ l0_1, y.length ≤ 4611686018427387904 := fun y h => by have := hy y h; omega
  have hl : (l1.map toRw).length ≤ 4611686018427387904 := by rw [List.length_map]; omega
  have hm : ∀ y ∈ l1.map toRw, y.f0.length ≤ 4611686018427387904 := fun y h => by
    obtain ⟨z, hz, rfl⟩ := List.mem_map.1 h
    have := hy' z hz
    show z.f0.length ≤ _
    omega
  have t0 := toLearner_ev a0_0 l0_1 a0_2 hn hy
  have t1 := toRowS_ev l1 hn' hy'
  refine Ev.bind t0 (Ev.bind t1 (Ev.bind (specHasLearned_ev a0_0 l0_1 a0_2 _ hl hm (by omega) hy2 hf) (Ev.bind t0 (Ev.bind t1 (Ev.bind (implHasLearned_ev a0_0 l0_1 a0_2 _ hl hm (by omega) hy2 hf) (Ev.neg (by simp) ?_))))))
  refine Ev.bind t0 (Ev.bind (eqLearner_refl a0_0 l0_1 a0_2 hn hy) (Ev.pos rfl ?_))
  exact Ev.bind t1 (Ev.bind (eqRowS_ev _ _ hl hm) (Ev.pos (by simp) (Ev.now _)))
end Go.Proofs.Ytijgiebjfoikiaa.Pure
